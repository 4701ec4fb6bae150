/- As many flows as there is room for stay, in the row of their last use; who was used least lately goes, and is told. -/
import Derived.Test.YtnocfhnandedoabPCacheRowx16
import Derived.Test.YtnocfhnandedoabNumMath
set_option linter.unusedVariables false
set_option linter.unusedSimpArgs false
namespace Go.Proofs.Ytnocfhnandedoab.Pure
open Go.RowKit Go.Proofs.Ytnocfhnandedoab.PCacheRow Go.Proofs.YtnocfhnandedoabW.PrintWords Go.Proofs.YtnocfhnandedoabW.PrintLast Go.Proofs.YtnocfhnandedoabW.PrintMore Go.Proofs.Ytnocfhnandedoab.NumMath

def Fm (a b c d e : Int) : Prop := (0 ≤ a ∧ a < 4294967296) ∧ (0 ≤ b ∧ b < 4294967296) ∧ (c = 6 ∨ c = 17) ∧ (0 ≤ d ∧ d < 65536) ∧ (0 ≤ e ∧ e < 65536)
instance (a b c d e : Int) : Decidable (Fm a b c d e) := by unfold Fm; infer_instance
def Em (a b c d e t p u : Int) : Prop := Fm a b c d e ∧ (0 ≤ t ∧ t < 256) ∧ (0 ≤ p ∧ p ≤ 2) ∧ (0 ≤ u ∧ u ≤ 1048576)
instance (a b c d e t p u : Int) : Decidable (Em a b c d e t p u) := by unfold Em; infer_instance
theorem in_any (x : Int) (b n : Nat) (hb : b ≤ 64) (hn : 2 ^ b = n) : ip_In.f x (b : Int) = some (decide (0 ≤ x ∧ x < (n : Int))) := by
  unfold ip_In.f
  by_cases h : x ≥ 0
  · rw [if_pos h, if_pos (by omega)]
    have hn0 : 0 < n := by rw [← hn]; exact Nat.two_pow_pos b
    have e : shr .i64 x (b : Int) = x / (n : Int) := by
      unfold shr
      rw [Int.toNat_natCast, Nat.min_eq_left (by simpa [IntKind.bits] using hb), ← hn]
      simp
    rw [e]; congr 1
    rw [Bool.eq_iff_iff]
    simp only [beq_iff_eq, decide_eq_true_eq]
    constructor
    · intro hz
      refine ⟨h, ?_⟩
      have := Int.lt_ediv_add_one_mul_self x (show (0 : Int) < n by omega)
      rw [hz] at this
      omega
    · rintro ⟨_, hlt⟩
      exact Int.ediv_eq_zero_of_lt h hlt
  · rw [if_neg h]; congr 1; simp; omega
theorem in32 (x : Int) : ip_In.f x 32 = some (decide (0 ≤ x ∧ x < 4294967296)) := in_any x 32 4294967296 (by decide) (by decide)
theorem in16 (x : Int) : ip_In.f x 16 = some (decide (0 ≤ x ∧ x < 65536)) := in_any x 16 65536 (by decide) (by decide)
theorem in8 (x : Int) : ip_In.f x 8 = some (decide (0 ≤ x ∧ x < 256)) := in_any x 8 256 (by decide) (by decide)
theorem handled_f (c : Int) : flow_handled.f c = some (decide (c = 6 ∨ c = 17)) := by
  unfold flow_handled.f
  by_cases h : c = 6
  · simp [h]
  · rw [if_neg h]; simp [h]
    rfl
theorem flowMay_f (a b c d e : Int) : flow_May.f a b c d e = some (decide (Fm a b c d e)) := by
  unfold flow_May.f
  rw [in32, in32, in16, in16, handled_f]
  simp only [Option.bind_some]
  by_cases h1 : 0 ≤ a ∧ a < 4294967296 <;> by_cases h2 : 0 ≤ b ∧ b < 4294967296 <;> by_cases h3 : c = 6 ∨ c = 17 <;> by_cases h4 : 0 ≤ d ∧ d < 65536 <;> by_cases h5 : 0 ≤ e ∧ e < 65536 <;> simp [Fm, h1, h2, h3, h4, h5]
theorem to_f (x m : Int) : conf_to.f x m = some (decide (0 ≤ x ∧ x ≤ m)) := by
  unfold conf_to.f
  by_cases h : x ≥ 0
  · rw [if_pos h]; congr 1; simp; omega
  · rw [if_neg h]; congr 1; simp; omega
theorem time_f (x : Int) : conf_Time.f x = some (decide (0 ≤ x ∧ x ≤ 1048576)) := by
  unfold conf_Time.f
  rw [to_f]; rfl
theorem may_f (a : Int) : track_May.f a = some (decide (0 ≤ a ∧ a ≤ 2)) := by
  unfold track_May.f
  by_cases h : a ≥ 0
  · rw [if_pos h]; congr 1; simp; omega
  · rw [if_neg h]; congr 1; simp; omega
theorem entryMay_f (a b c d e t : Int) (z : Bool) (p u : Int) : entry_May.f a b c d e t z p u = some (decide (Em a b c d e t p u)) := by
  unfold entry_May.f
  rw [flowMay_f, in8, may_f, time_f]
  simp only [Option.bind_some]
  by_cases h1 : Fm a b c d e <;> by_cases h2 : 0 ≤ t ∧ t < 256 <;> by_cases h3 : 0 ≤ p ∧ p ≤ 2 <;> by_cases h4 : 0 ≤ u ∧ u ≤ 1048576 <;> simp [Em, h1, h2, h3, h4]
theorem num_f (a : Int) : wharfagelaw0_Num.f a = some a := rfl
def lim (p : Int) : Int := if p = 0 then 40 else 6
theorem ran_in (a b c d e t : Int) (z : Bool) (p u now : Int) (hm : Em a b c d e t p u) : entry_Ran.f a b c d e t z p u now = some (decide (u + lim p ≤ now)) := by
  unfold entry_Ran.f track_Limit.f
  have hu := hm.2.2.2
  rw [may_f, entryMay_f, decide_eq_true hm, decide_eq_true hm.2.2.1]
  simp only [Option.bind_some, if_true]
  by_cases h : p = 0
  · rw [if_pos h]
    simp only [Option.bind_some]
    rw [wrap64_in _ (by omega) (by omega)]
    simp [lim, h]
  · rw [if_neg h]
    simp only [Option.bind_some]
    rw [wrap64_in _ (by omega) (by omega)]
    simp [lim, h]
theorem ran_out (a b c d e t : Int) (z : Bool) (p u now : Int) (hm : ¬ Em a b c d e t p u) : entry_Ran.f a b c d e t z p u now = some true := by
  unfold entry_Ran.f track_Limit.f
  rw [may_f, entryMay_f, decide_eq_false hm]
  by_cases hp : 0 ≤ p ∧ p ≤ 2
  · rw [decide_eq_true hp]
    simp only [Option.bind_some, if_true]
    split <;> rfl
  · rw [decide_eq_false hp]; rfl

abbrev En := S37
abbrev Fl := S35
def emB (x : En) : Bool := decide (Em x.f0.f0 x.f0.f1 x.f0.f2 x.f0.f3 x.f0.f4 x.f1 x.f3 x.f4)
theorem em_f (x : En) : entry_May.f x.f0.f0 x.f0.f1 x.f0.f2 x.f0.f3 x.f0.f4 x.f1 x.f2 x.f3 x.f4 = some (emB x) := entryMay_f _ _ _ _ _ _ _ _ _
theorem rdE (l : List En) (i : Nat) (h : i < l.length) : rd_T37 l (i : Int) = l[i] := by
  unfold rd_T37
  simp [List.getD, List.getElem?_eq_getElem h]
theorem idx_lo (f : Fl) : ∀ (l : List En) (n : Nat), idxFrom f l n = -1 ∨ (n : Int) ≤ idxFrom f l n
  | [], n => .inl rfl
  | x :: r, n => by
    unfold idxFrom
    split
    · exact .inr (Int.le_refl _)
    · rcases idx_lo f r (n + 1) with h | h
      · exact .inl h
      · exact .inr (by omega)
theorem idx_none (f : Fl) : ∀ (l : List En) (n : Nat), (∀ x ∈ l, x.f0 ≠ f) → idxFrom f l n = -1
  | [], n, _ => rfl
  | x :: r, n, h => by
    unfold idxFrom
    rw [if_neg (fun hb => h x List.mem_cons_self ((beqF_iff _ _).1 hb))]
    exact idx_none f r (n + 1) (fun y hy => h y (List.mem_cons_of_mem _ hy))
theorem idx_first (f : Fl) : ∀ (l : List En) (n j : Nat) (hj : j < l.length), (∀ i (hi : i < j), (l[i]'(by omega)).f0 ≠ f) → (l[j]).f0 = f → idxFrom f l n = ((n + j : Nat) : Int)
  | [], n, j, hj, _, _ => by simp at hj
  | x :: r, n, 0, _, _, he => by
    unfold idxFrom
    rw [if_pos (show beqF x.f0 f = true from (beqF_iff _ _).2 he)]
    rfl
  | x :: r, n, j + 1, hj, hn, he => by
    unfold idxFrom
    rw [if_neg (show ¬ (beqF x.f0 f = true) from fun hb => hn 0 (by omega) ((beqF_iff _ _).1 hb)), idx_first f r (n + 1) j (by simpa using hj) (fun i hi => hn (i + 1) (by omega)) he]
    congr 1
    omega
theorem idx_le (f : Fl) : ∀ (l : List En) (n i : Nat) (hi : i < l.length), (l[i]).f0 = f → idxFrom f l n ≤ ((n + i : Nat) : Int)
  | [], n, i, hi, _ => by simp at hi
  | x :: r, n, i, hi, he => by
    unfold idxFrom
    split
    · omega
    · rename_i hb
      cases i with
      | zero => exact absurd ((beqF_iff _ _).2 he) hb
      | succ i =>
        have := idx_le f r (n + 1) i (by simpa using hi) he
        omega
def Good (l : List En) : Prop := (∀ x ∈ l, emB x = true) ∧ l.Pairwise (fun a b => a.f0 ≠ b.f0) ∧ l.length ≤ 8
noncomputable instance (l : List En) : Decidable (Good l) := Classical.propDecidable _
theorem good_ix (l : List En) : Good l ↔ ((∀ j (hj : j < l.length), emB l[j] = true ∧ idxFrom (l[j]).f0 l 0 = (j : Int)) ∧ l.length ≤ 8) := by
  constructor
  · rintro ⟨h1, h2, h3⟩
    refine ⟨fun j hj => ⟨h1 _ (List.getElem_mem hj), ?_⟩, h3⟩
    have := idx_first (l[j]).f0 l 0 j hj (fun i hi => List.pairwise_iff_getElem.1 h2 i j (by omega) hj hi) rfl
    rw [this, Nat.zero_add]
  · rintro ⟨h1, h3⟩
    refine ⟨fun x hx => ?_, List.pairwise_iff_getElem.2 (fun i j hi hj hij he => ?_), h3⟩
    · obtain ⟨j, hj, rfl⟩ := List.getElem_of_mem hx
      exact (h1 j hj).1
    · have h4 := idx_le (l[j]).f0 l 0 i hi he
      rw [(h1 j hj).2] at h4
      omega
theorem may_l0 (l : List En) (hl : l.length ≤ 9223372036854775807) (d : Nat) : ∀ (k i : Nat), l.length - i ≤ d → d < k → i ≤ l.length → (∀ j (hj : j < l.length), j < i → emB l[j] = true ∧ idxFrom (l[j]).f0 l 0 = (j : Int)) → cache_May.l0 k l l (l.length : Int) (i : Int) = some (decide (Good l)) := by
  induction d with
  | zero =>
    intro k i hd hk hi hp
    obtain ⟨k, rfl⟩ : ∃ m, k = m + 1 := ⟨k - 1, by omega⟩
    simp only [cache_May.l0]
    rw [if_neg (by omega)]
    congr 1
    rw [decide_eq_decide, good_ix]
    constructor
    · intro h
      exact ⟨fun j hj => hp j hj (by omega), by omega⟩
    · intro h
      have := h.2
      omega
  | succ d ih =>
    intro k i hd hk hi hp
    obtain ⟨k, rfl⟩ : ∃ m, k = m + 1 := ⟨k - 1, by omega⟩
    simp only [cache_May.l0]
    by_cases h : (i : Int) < (l.length : Int)
    · have hlt : i < l.length := by omega
      rw [if_pos h, if_pos (show (0 : Int) ≤ (i : Int) by omega), if_pos h, rdE l i hlt, em_f, Option.bind_some]
      cases hb : emB l[i]
      · rw [if_neg (by simp)]
        congr 1
        rw [eq_comm, decide_eq_false_iff_not]
        intro hg
        rw [hg.1 _ (List.getElem_mem hlt)] at hb
        cases hb
      · rw [if_pos rfl]
        unfold cache_at.f
        rw [Option.bind_some]
        by_cases hx : idxFrom (l[i]).f0 l 0 = (i : Int)
        · rw [if_pos hx, show wrap64 ((i : Int) + 1) = ((i + 1 : Nat) : Int) by unfold wrap64; omega]
          refine ih k (i + 1) (by omega) (by omega) (by omega) (fun j hj hji => ?_)
          by_cases hj2 : j = i
          · subst hj2
            exact ⟨hb, hx⟩
          · exact hp j hj (by omega)
        · rw [if_neg hx]
          congr 1
          rw [eq_comm, decide_eq_false_iff_not]
          intro hg
          exact hx (((good_ix l).1 hg).1 i hlt).2
    · rw [if_neg h]
      congr 1
      rw [decide_eq_decide, good_ix]
      constructor
      · intro h
        exact ⟨fun j hj => hp j hj (by omega), by omega⟩
      · intro h
        have := h.2
        omega
theorem mayE_f (l : List En) (k : Nat) (hl : l.length < k) (hl2 : l.length ≤ 9223372036854775807) : cache_May.f k l = some (decide (Good l)) := may_l0 l hl2 l.length k 0 (by omega) hl (by omega) (fun j _ h => absurd h (by omega))
theorem same_l0 (l : List En) (hl : l.length ≤ 9223372036854775807) (d : Nat) : ∀ (k i : Nat), l.length - i ≤ d → d < k → i ≤ l.length → wharfagelaw0_SameEntrys.l0 k l l (i : Int) = some true := by
  induction d with
  | zero =>
    intro k i hd hk hi
    obtain ⟨k, rfl⟩ : ∃ m, k = m + 1 := ⟨k - 1, by omega⟩
    simp only [wharfagelaw0_SameEntrys.l0]
    rw [if_neg (by omega)]
  | succ d ih =>
    intro k i hd hk hi
    obtain ⟨k, rfl⟩ : ∃ m, k = m + 1 := ⟨k - 1, by omega⟩
    simp only [wharfagelaw0_SameEntrys.l0]
    by_cases h : (i : Int) < (l.length : Int)
    · rw [if_pos h, if_pos (show (0 : Int) ≤ (i : Int) by omega), if_pos h, if_neg (by simp), show wrap64 ((i : Int) + 1) = ((i + 1 : Nat) : Int) by unfold wrap64; omega]
      exact ih k (i + 1) (by omega) (by omega) (by omega)
    · rw [if_neg h]
theorem same_f (l : List En) (k : Nat) (hl : l.length < k) (hl2 : l.length ≤ 9223372036854775807) : wharfagelaw0_SameEntrys.f k l l = some true := by
  unfold wharfagelaw0_SameEntrys.f
  rw [if_pos rfl]
  exact same_l0 l hl2 l.length k 0 (by omega) hl (by omega)
/-- What is there of other flows. -/
def rest (l : List En) (f : Fl) : List En := l.filter (fun x => !beqF x.f0 f)
def out (l : List En) (p : En) : List En := rest l p.f0 ++ [p]
def put (l : List En) (p : En) : List En := if 8 < (out l p).length then (out l p).drop 1 else out l p
theorem rest_ne (l : List En) (f : Fl) : ∀ x ∈ rest l f, x.f0 ≠ f := by
  intro x hx he
  have h := (List.mem_filter.1 hx).2
  rw [(beqF_iff _ _).2 he] at h
  cases h
theorem rest_self (l : List En) (f : Fl) (h : ∀ x ∈ l, x.f0 ≠ f) : rest l f = l := by
  unfold rest
  rw [List.filter_eq_self]
  intro x hx
  have : beqF x.f0 f = false := Bool.eq_false_iff.2 (fun hb => h x hx ((beqF_iff _ _).1 hb))
  rw [this]; rfl
theorem rest_len (f : Fl) : ∀ l : List En, l.Pairwise (fun a b => a.f0 ≠ b.f0) → l.length ≤ (rest l f).length + 1
  | [], _ => by simp
  | x :: r, h => by
    rw [List.pairwise_cons] at h
    by_cases hx : x.f0 = f
    · have h2 : rest r f = r := rest_self r f (fun y hy he => h.1 y hy (hx.trans he.symm))
      have h3 : rest (x :: r) f = rest r f := by
        unfold rest
        rw [List.filter_cons, (beqF_iff _ _).2 hx]
        simp
      rw [h3, h2]
      simp
    · have h3 : rest (x :: r) f = x :: rest r f := by
        have hb : beqF x.f0 f = false := Bool.eq_false_iff.2 (fun hb => hx ((beqF_iff _ _).1 hb))
        unfold rest
        rw [List.filter_cons, hb]
        simp
      have := rest_len f r h.2
      rw [h3]
      simp
      omega
theorem rest_good (l : List En) (f : Fl) (h : Good l) : Good (rest l f) :=
  ⟨fun x hx => h.1 x (List.mem_filter.1 hx).1, h.2.1.filter _, Nat.le_trans (List.length_filter_le _ _) h.2.2⟩
theorem put_shape (l : List En) (p : En) (hg : Good l) (hp : emB p = true) : ∃ y, put l p = y ++ [p] ∧ (∀ x ∈ y, x.f0 ≠ p.f0) ∧ Good (put l p) ∧ l.length ≤ (put l p).length := by
  have hr := rest_good l p.f0 hg
  have hn := rest_ne l p.f0
  have hlen := rest_len p.f0 l hg.2.1
  have h8 := hr.2.2
  have h9 := hg.2.2
  have key : ∀ y : List En, (∀ x ∈ y, x ∈ rest l p.f0) → y.Pairwise (fun a b => a.f0 ≠ b.f0) → y.length ≤ 7 → Good (y ++ [p]) := by
    intro y hy hpw hyl
    refine ⟨fun x hx => ?_, ?_, by simp; omega⟩
    · rcases List.mem_append.1 hx with h | h
      · exact hr.1 x (hy x h)
      · rw [List.mem_singleton.1 h]; exact hp
    · rw [List.pairwise_append]
      refine ⟨hpw, by simp, fun a ha b hb => ?_⟩
      rw [List.mem_singleton.1 hb]
      exact hn a (hy a ha)
  unfold put
  by_cases h : 8 < (out l p).length
  · rw [if_pos h]
    have ho : (out l p).length = (rest l p.f0).length + 1 := by unfold out; simp
    have hd : (out l p).drop 1 = (rest l p.f0).drop 1 ++ [p] := by
      unfold out
      rw [List.drop_append_of_le_length (by omega)]
    rw [hd]
    refine ⟨_, rfl, fun x hx => hn x (List.mem_of_mem_drop hx), key _ (fun x hx => List.mem_of_mem_drop hx) (hr.2.1.sublist (List.drop_sublist _ _)) (by simp; omega), by simp; omega⟩
  · rw [if_neg h]
    have ho : (out l p).length = (rest l p.f0).length + 1 := by unfold out; simp
    exact ⟨_, rfl, hn, key _ (fun x hx => hx) hr.2.1 (by omega), by rw [ho]; omega⟩
abbrev PutR := Option (List En × Int × Int × Int × Int × Int × Int × Bool × Int × Int × Bool × Int)
theorem put_bad (l : List En) (p : En) (k : Nat) (hl : l.length < k) (hl2 : l.length ≤ 9223372036854775807) (h : ¬ (Good l ∧ emB p = true)) :
    cache_Put.f k l p.f0.f0 p.f0.f1 p.f0.f2 p.f0.f3 p.f0.f4 p.f1 p.f2 p.f3 p.f4 = some ([], 0, 0, 0, 0, 0, 0, false, 0, 0, false, 1600) := by
  unfold cache_Put.f
  rw [mayE_f l k hl hl2, em_f p, Option.bind_some]
  by_cases hg : Good l
  · have hp : emB p = false := Bool.eq_false_iff.2 (fun hp => h ⟨hg, hp⟩)
    rw [decide_eq_true hg, if_pos rfl, hp, Option.bind_some, if_neg (by simp)]
  · rw [decide_eq_false hg, if_neg (by simp)]
theorem put_good (l : List En) (p : En) (k : Nat) (hl : l.length < k) (hl2 : l.length ≤ 9223372036854775807) (hg : Good l) (hp : emB p = true) :
    ∃ a b c d e f g h i, cache_Put.f k l p.f0.f0 p.f0.f1 p.f0.f2 p.f0.f3 p.f0.f4 p.f1 p.f2 p.f3 p.f4 = some (put l p, a, b, c, d, e, f, g, h, i, decide (8 < (out l p).length), 0) := by
  unfold cache_Put.f
  rw [mayE_f l k hl hl2, em_f p, Option.bind_some, decide_eq_true hg, if_pos rfl, hp, Option.bind_some, if_pos rfl]
  show ∃ a b c d e f g h i, putRes (out l p) = _
  unfold putRes put
  by_cases h : 8 < (out l p).length
  · simp only [if_pos h, decide_eq_true h]
    exact ⟨_, _, _, _, _, _, _, _, _, rfl⟩
  · simp only [if_neg h, decide_eq_false h]
    exact ⟨_, _, _, _, _, _, _, _, _, rfl⟩
theorem good_nil : Good [] := ⟨by simp, List.Pairwise.nil, by simp⟩

def fl (m : Int) : Fl := ⟨m, 167772161, 6, 7, 80⟩
theorem flow_f (m : Int) : wharfagelaw16_flow.f m = some (m, 167772161, 6, 7, 80) := rfl
theorem rdI (l : List Int) (i : Nat) (h : i < l.length) : rd l (i : Int) = l[i] := by
  unfold rd
  simp [List.getD, List.getElem?_eq_getElem h]
/-- The cache and the row of flows that is wanted. -/
def Inv (es : List En) (want : List Int) : Prop := Good es ∧ want = es.map (fun p => p.f0.f0) ∧ ∀ p ∈ es, p.f0 = fl p.f0.f0
theorem put_eq (l : List En) (p : En) (k : Nat) (hl : l.length < k) (hl2 : l.length ≤ 9223372036854775807) (hg : Good l) (hp : emB p = true) :
    cache_Put.f k l p.f0.f0 p.f0.f1 p.f0.f2 p.f0.f3 p.f0.f4 p.f1 p.f2 p.f3 p.f4 = putRes (out l p) := by
  unfold cache_Put.f
  rw [mayE_f l k hl hl2, em_f p, Option.bind_some, decide_eq_true hg, if_pos rfl, hp, Option.bind_some, if_pos rfl]
  rfl
theorem out_map (es : List En) (m i : Int) (h : ∀ p ∈ es, p.f0 = fl p.f0.f0) : (out es ⟨fl m, m, false, 0, i⟩).map (fun p => p.f0.f0) = ((es.map (fun p => p.f0.f0)).filter (fun x => !decide (x = m))) ++ [m] := by
  unfold out rest
  rw [List.map_append, List.filter_map]
  congr 2
  refine List.filter_congr (fun x hx => ?_)
  have hb : beqF x.f0 (fl m) = decide (x.f0.f0 = m) := by
    rw [Bool.eq_iff_iff, beqF_iff, decide_eq_true_eq]
    constructor
    · intro e; rw [e]; rfl
    · intro e; rw [h x hx, e]
  show (!beqF x.f0 (fl m)) = _
  rw [hb]
  rfl
theorem l2_lem (xs : List Int) (es : List En) (want : List Int) (i : Int) (hI : Inv es want) (K : Nat) (H : ∀ k, K ≤ k → wharfagelaw16_CacheRow.l0 k xs es want (wrap64 (i + 1)) = some true) (d : Nat) : ∀ (k j : Nat), es.length - j ≤ d → K + d + 1 ≤ k → j ≤ es.length → wharfagelaw16_CacheRow.l2 k xs es want i (j : Int) = some true := by
  have h8 := hI.1.2.2
  have hw : want.length = es.length := by rw [hI.2.1, List.length_map]
  induction d with
  | zero =>
    intro k j hd hk hj
    obtain ⟨k, rfl⟩ : ∃ m, k = m + 1 := ⟨k - 1, by omega⟩
    simp only [wharfagelaw16_CacheRow.l2]
    rw [if_neg (by omega)]
    exact H k (by omega)
  | succ d ih =>
    intro k j hd hk hj
    obtain ⟨k, rfl⟩ : ∃ m, k = m + 1 := ⟨k - 1, by omega⟩
    simp only [wharfagelaw16_CacheRow.l2]
    by_cases h : (j : Int) < (want.length : Int)
    · have hlt : j < es.length := by omega
      have e1 : rd want (j : Int) = (es[j]).f0.f0 := by
        rw [rdI _ _ (by omega)]
        simp only [hI.2.1, List.getElem_map]
      have e2 := hI.2.2 es[j] (List.getElem_mem hlt)
      rw [if_pos h, if_pos (by omega), if_pos (by omega), flow_f, Option.bind_some, e1, rdE _ _ hlt, if_neg, show wrap64 ((j : Int) + 1) = ((j + 1 : Nat) : Int) by unfold wrap64; omega]
      · exact ih k (j + 1) (by omega) (by omega) (by omega)
      · simp only []
        rw [e2]
        simp [fl]
    · rw [if_neg h]
      exact H k (by omega)
theorem l1_lem (xs want : List Int) (i m : Int) (o : List En) (ov : Bool) (g0 g1 g2 g3 g4 g5 : Int) (g6 : Bool) (g7 g8 : Int) (y y' : List Int) (h8 : want.length ≤ 8) (hy : y = want.filter (fun x => !decide (x = m)) ++ [m])
    (hov : ov = decide (8 < y.length)) (hy' : y' = if 8 < y.length then y.drop 1 else y) (ho : o.length = y'.length)
    (hg : if 8 < y.length then g0 = rd y 0 ∧ g1 = 167772161 ∧ g2 = 6 ∧ g3 = 7 ∧ g4 = 80 else g0 = 0 ∧ g1 = 0 ∧ g2 = 0 ∧ g3 = 0 ∧ g4 = 0 ∧ g5 = 0 ∧ g6 = false ∧ g7 = 0 ∧ g8 = 0)
    (K : Nat) (H : ∀ k, K ≤ k → wharfagelaw16_CacheRow.l2 k xs o y' i 0 = some true) (d : Nat) : ∀ (k j : Nat), want.length - j ≤ d → K + d + 1 ≤ k → j ≤ want.length → wharfagelaw16_CacheRow.l1 k xs want i m o ov ((want.take j).filter (fun x => !decide (x = m))) (j : Int) g0 g1 g2 g3 g4 g5 g6 g7 g8 = some true := by
  have hfl : ∀ j, ((want.take j).filter (fun x => !decide (x = m))).length ≤ 8 := fun j => Nat.le_trans (List.length_filter_le _ _) (Nat.le_trans (List.length_take_le' _ _) h8)
  have last : ∀ k, K ≤ k → wharfagelaw16_CacheRow.l1 (k + 1) xs want i m o ov (want.filter (fun x => !decide (x = m))) (want.length : Int) g0 g1 g2 g3 g4 g5 g6 g7 g8 = some true := by
    intro k hk
    simp only [wharfagelaw16_CacheRow.l1]
    have h9 := List.length_filter_le (fun x => !decide (x = m)) want
    rw [if_neg (by omega), if_pos (by omega), Option.bind_some, ← hy]
    have hyl : y.length ≤ 9 := by rw [hy]; simp; omega
    by_cases h : 8 < y.length
    · rw [if_pos h] at hy' hg
      obtain ⟨e0, e1, e2, e3, e4⟩ := hg
      rw [hov, decide_eq_true h, if_neg (by simp; omega), if_pos (by omega), if_pos (by omega), flow_f, Option.bind_some, e0, e1, e2, e3, e4, if_neg (by simp), Option.bind_some, if_pos (by omega), Option.bind_some, List.nil_append, if_pos (by simp; omega), Option.bind_some, ← hy', if_pos (by omega)]
      exact H k hk
    · rw [if_neg h] at hy' hg
      obtain ⟨e0, e1, e2, e3, e4, e5, e6, e7, e8⟩ := hg
      rw [hov, decide_eq_false h, if_neg (by simp; omega), if_neg (by omega), e0, e1, e2, e3, e4, e5, e6, e7, e8, if_neg (by simp), ← hy', if_pos (by omega)]
      exact H k hk
  induction d with
  | zero =>
    intro k j hd hk hj
    obtain ⟨k, rfl⟩ : ∃ m, k = m + 1 := ⟨k - 1, by omega⟩
    obtain rfl : j = want.length := by omega
    rw [List.take_length]
    exact last k (by omega)
  | succ d ih =>
    intro k j hd hk hj
    obtain ⟨k, rfl⟩ : ∃ m, k = m + 1 := ⟨k - 1, by omega⟩
    by_cases h : j < want.length
    · have nx := ih k (j + 1) (by omega) (by omega) (by omega)
      rw [List.take_add_one, List.getElem?_eq_getElem h, List.filter_append] at nx
      have hj8 := hfl j
      simp only [wharfagelaw16_CacheRow.l1]
      rw [if_pos (by omega), if_pos (by omega), rdI _ _ h, show wrap64 ((j : Int) + 1) = ((j + 1 : Nat) : Int) by unfold wrap64; omega]
      by_cases hm : want[j] = m
      · rw [if_pos hm]
        rw [show (some want[j]).toList.filter (fun x => !decide (x = m)) = [] by simp [hm], List.append_nil] at nx
        exact nx
      · rw [if_neg hm, if_pos (by omega)]
        rw [show (some want[j]).toList.filter (fun x => !decide (x = m)) = [want[j]] by simp [hm]] at nx
        exact nx
    · obtain rfl : j = want.length := by omega
      rw [List.take_length]
      exact last k (by omega)
theorem row_main (xs : List Int) (d : Nat) : ∀ (k i : Nat) (es : List En) (want : List Int), 50 - i ≤ d → 30 * d + 40 ≤ k → i ≤ 50 → Inv es want → wharfagelaw16_CacheRow.l0 k xs es want (i : Int) = some true := by
  induction d with
  | zero =>
    intro k i es want hd hk hi hI
    obtain ⟨k, rfl⟩ : ∃ m, k = m + 1 := ⟨k - 1, by omega⟩
    simp only [wharfagelaw16_CacheRow.l0]
    by_cases h : (i : Int) < (xs.length : Int)
    · rw [if_pos h, if_neg (by omega)]
    · rw [if_neg h]
  | succ d ih =>
    intro k i es want hd hk hi hI
    obtain ⟨k, rfl⟩ : ∃ m, k = m + 1 := ⟨k - 1, by omega⟩
    simp only [wharfagelaw16_CacheRow.l0]
    by_cases h : (i : Int) < (xs.length : Int)
    · rw [if_pos h]
      by_cases h5 : (i : Int) < 50
      · rw [if_pos h5, if_pos (by omega)]
        have hm : 0 ≤ wrap64 (Int.tmod (IntKind.u64.wrap (rd xs (i : Int))) 12) ∧ wrap64 (Int.tmod (IntKind.u64.wrap (rd xs (i : Int))) 12) ≤ 11 := by
          rw [wrap_u64_mod, tmod_nn _ _ (by omega), wrap64_in _ (by omega) (by omega)]
          omega
        generalize wrap64 (Int.tmod (IntKind.u64.wrap (rd xs (i : Int))) 12) = m at hm
        obtain ⟨p, hp⟩ : ∃ p : En, p = ⟨fl m, m, false, 0, (i : Int)⟩ := ⟨_, rfl⟩
        have hpe : emB p = true := by
          rw [hp]
          unfold emB
          rw [decide_eq_true_eq]
          exact ⟨⟨⟨hm.1, by show m < 4294967296; omega⟩, ⟨by simp [fl], by simp [fl]⟩, .inl rfl, ⟨by simp [fl], by simp [fl]⟩, ⟨by simp [fl], by simp [fl]⟩⟩, ⟨hm.1, by show m < 256; omega⟩, ⟨by simp, by simp⟩, ⟨by show (0 : Int) ≤ (i : Int); omega, by show (i : Int) ≤ 1048576; omega⟩⟩
        have h8 := hI.1.2.2
        have e1 := put_eq es p k (by omega) (by omega) hI.1 hpe
        obtain ⟨y, hy, _, hg1, hlen1⟩ := put_shape es p hI.1 hpe
        have hom : (out es p).map (fun p => p.f0.f0) = want.filter (fun x => !decide (x = m)) ++ [m] := by rw [hp, out_map es m _ hI.2.2, ← hI.2.1]
        have hin : ∀ q ∈ out es p, q.f0 = fl q.f0.f0 := by
          intro q hq
          unfold out at hq
          rcases List.mem_append.1 hq with h1 | h1
          · exact hI.2.2 q (List.mem_filter.1 h1).1
          · rw [List.mem_singleton.1 h1, hp]; rfl
        have hI2 : Inv (put es p) ((put es p).map (fun p => p.f0.f0)) := by
          refine ⟨hg1, rfl, fun q hq => hin q ?_⟩
          unfold put at hq
          split at hq
          · exact List.mem_of_mem_drop hq
          · exact hq
        have hwl : want.length ≤ 8 := by rw [hI.2.1, List.length_map]; exact h8
        have hyl : (want.filter (fun x => !decide (x = m)) ++ [m]).length = (out es p).length := by rw [← hom, List.length_map]
        have hy' : (put es p).map (fun p => p.f0.f0) = if 8 < (want.filter (fun x => !decide (x = m)) ++ [m]).length then (want.filter (fun x => !decide (x = m)) ++ [m]).drop 1 else want.filter (fun x => !decide (x = m)) ++ [m] := by
          rw [hyl]
          unfold put
          split
          · rw [← hom, List.map_drop]
          · exact hom
        have H2 := l2_lem xs (put es p) _ (i : Int) hI2 (30 * d + 40) (fun k' hk' => by rw [show wrap64 ((i : Int) + 1) = ((i + 1 : Nat) : Int) by unfold wrap64; omega]; exact ih k' (i + 1) _ _ (by omega) hk' (by omega) hI2) 8
        have h9 := hg1.2.2
        have H1 := fun ov g0 g1 g2 g3 g4 g5 g6 g7 g8 hov hg => l1_lem xs want (i : Int) m (put es p) ov g0 g1 g2 g3 g4 g5 g6 g7 g8 _ _ hwl rfl hov hy' (by rw [List.length_map]) hg (30 * d + 49) (fun k' hk' => H2 k' 0 (by omega) (by omega) (by omega)) 8 k 0 (by omega) (by omega) (by omega)
        have e2 : cache_Put.f k es m 167772161 6 7 80 m false 0 (i : Int) = putRes (out es p) := by rw [← e1, hp]; rfl
        rw [flow_f, Option.bind_some, e2]
        unfold putRes
        by_cases hv : 8 < (out es p).length
        · rw [if_pos hv, Option.bind_some, num_f, Option.bind_some, if_pos rfl]
          have hpo : put es p = (out es p).drop 1 := by unfold put; rw [if_pos hv]
          simp only []
          rw [← hpo]
          have hne : 0 < (out es p).length := by omega
          have hr0 : rd_T37 (out es p) 0 = (out es p)[0] := rdE (out es p) 0 hne
          have hrd : rd (want.filter (fun x => !decide (x = m)) ++ [m]) 0 = ((out es p)[0]).f0.f0 := by
            rw [← hom]
            have := rdI ((out es p).map (fun p => p.f0.f0)) 0 (by rw [List.length_map]; exact hne)
            rw [show ((0 : Nat) : Int) = 0 from rfl] at this
            rw [this, List.getElem_map]
          have hf := hin _ (List.getElem_mem hne)
          rw [hr0]
          refine H1 _ _ _ _ _ _ _ _ _ _ (decide_eq_true (by rw [hyl]; exact hv)).symm ?_
          rw [if_pos (by rw [hyl]; exact hv), hrd]
          refine ⟨rfl, ?_, ?_, ?_, ?_⟩ <;> rw [hf] <;> rfl
        · rw [if_neg hv, Option.bind_some, num_f, Option.bind_some, if_pos rfl]
          have hpo : put es p = out es p := by unfold put; rw [if_neg hv]
          simp only []
          rw [← hpo]
          refine H1 _ _ _ _ _ _ _ _ _ _ (decide_eq_false (by rw [hyl]; exact hv)).symm ?_
          rw [if_neg (by rw [hyl]; exact hv)]
          exact ⟨rfl, rfl, rfl, rfl, rfl, rfl, rfl, rfl, rfl⟩
      · rw [if_neg h5]
    · rw [if_neg h]
theorem CacheRow : wharfagelaw16_CacheRow.Pure := by
  intro xs _ _ _
  obtain ⟨k, hk⟩ : ∃ k : Nat, 1600 ≤ k := ⟨1600, Nat.le_refl _⟩
  refine ⟨k, ?_⟩
  unfold wharfagelaw16_CacheRow.f
  rw [show wharfagelaw16_awake.f = some true from rfl, Option.bind_some, if_pos rfl]
  exact row_main xs 50 k 0 [] [] (by omega) (by omega) (by omega) ⟨good_nil, rfl, by simp⟩

end Go.Proofs.Ytnocfhnandedoab.Pure
