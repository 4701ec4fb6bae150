/- Full and Targets answer as the document says, at any node and time; the node stays. -/
import Derived.Test.YtlapbhgkmmeeoaaPSparesx56
import Derived.Test.YtlapbhgkmmeeoaaOpenSpares
import Derived.Test.YtlapbhgkmmeeoaaNumMath
set_option linter.unusedVariables false
set_option linter.unusedSimpArgs false
namespace Go.Proofs.Ytlapbhgkmmeeoaa.Pure
open Go.RowKit Go.Proofs.Ytlapbhgkmmeeoaa.PSpares Go.Proofs.YtlapbhgkmmeeoaaW.PrintWords Go.Proofs.YtlapbhgkmmeeoaaW.PrintLast Go.Proofs.YtlapbhgkmmeeoaaW.PrintMore Go.Proofs.Ytlapbhgkmmeeoaa.NumMath

def repOk (a b c d : Int) : Bool := decide ((0 ≤ a ∧ a < 3) ∧ (0 ≤ b ∧ b < 65536) ∧ (0 ≤ c ∧ c < 256) ∧ (0 ≤ d ∧ d < 256))
def timeOk (t : Int) : Bool := decide (0 ≤ t ∧ t ≤ 1048576)
def noneSeen (v : S91) : Bool := decide (v.f1 = -1 ∧ v.f0.f0 = 0 ∧ v.f0.f1 = 0 ∧ v.f0.f2 = 0 ∧ v.f0.f3 = 0)
def seenOk (i : Int) (v : S91) : Bool := noneSeen v || (timeOk v.f1 && repOk v.f0.f0 v.f0.f1 v.f0.f2 v.f0.f3 && decide (v.f0.f0 = i))
def seensOk : Nat → List S91 → Bool
  | _, [] => true
  | i, v :: r => seenOk (i : Int) v && seensOk (i + 1) r
def mayV (l : List S91) : Bool := seensOk 0 l && decide (l.length = 3)
theorem rep_plain (a b c d : Int) : report_May.f a b c d = some (repOk a b c d) := by
  have hin : ∀ x : Int, ip_In.f x 8 = some (decide (0 ≤ x ∧ x < 256)) := by
    intro x
    unfold ip_In.f
    by_cases h : x ≥ 0
    · have e : shr .i64 x (8 : Int) = x / 256 := rfl
      rw [if_pos h, if_pos (by omega), e]; congr 1
      rw [Bool.eq_iff_iff]; simp only [beq_iff_eq, decide_eq_true_eq]; omega
    · rw [if_neg h]; congr 1; simp; omega
  have hs : report_Site.f a = some (decide (0 ≤ a ∧ a < 3)) := by
    unfold report_Site.f
    by_cases h : a ≥ 0
    · rw [if_pos h]; congr 1; simp; omega
    · rw [if_neg h]; congr 1; simp; omega
  have hr : report_serial.f b = some (decide (0 ≤ b ∧ b < 65536)) := by
    unfold report_serial.f
    by_cases h : b ≥ 0
    · rw [if_pos h]; congr 1; simp; omega
    · rw [if_neg h]; congr 1; simp; omega
  unfold report_May.f repOk
  rw [hs, hr, hin, hin]
  simp only [Option.bind_some]
  by_cases h1 : 0 ≤ a ∧ a < 3 <;> by_cases h2 : 0 ≤ b ∧ b < 65536 <;> by_cases h3 : 0 ≤ c ∧ c < 256 <;> by_cases h4 : 0 ≤ d ∧ d < 256 <;> simp [h1, h2, h3, h4]
theorem time_plain (t : Int) : conf_Time.f t = some (timeOk t) := by
  unfold conf_Time.f conf_to.f timeOk
  by_cases h : t ≥ 0
  · rw [if_pos h]; simp; omega
  · rw [if_neg h]; simp; omega
theorem may_loop (x0 l : List S91) (hl : l.length ≤ 9223372036854775807) (d : Nat) : ∀ (k i : Nat), l.length - i ≤ d → 2 * d + 1 ≤ k → i ≤ l.length → view_May.l0 k x0 l (l.length : Int) (i : Int) = some (seensOk i (l.drop i) && (x0.length : Int) == 3) := by
  induction d with
  | zero =>
    intro k i hd hk hi
    obtain ⟨k, rfl⟩ : ∃ m, k = m + 1 := ⟨k - 1, by omega⟩
    simp only [view_May.l0]
    rw [if_neg (by omega), List.drop_of_length_le (by omega)]; rfl
  | succ d ih =>
    intro k i hd hk hi
    obtain ⟨k, rfl⟩ : ∃ m, k = m + 2 := ⟨k - 2, by omega⟩
    by_cases h : (i : Int) < (l.length : Int)
    · have hlt : i < l.length := by omega
      have e : rd_T91 l (i : Int) = l[i] := by simp [rd_T91, hlt]
      have next : ∀ k', 2 * d + 1 ≤ k' → view_May.l0 k' x0 l (l.length : Int) (wrap64 ((i : Int) + 1)) = some (seensOk (i + 1) (l.drop (i + 1)) && (x0.length : Int) == 3) := by
        intro k' hk'
        rw [show wrap64 ((i : Int) + 1) = ((i + 1 : Nat) : Int) by unfold wrap64; omega]
        exact ih k' (i + 1) (by omega) hk' (by omega)
      have nk := next k (by omega)
      rw [List.drop_eq_getElem_cons hlt]
      simp only [view_May.l0, view_May.j1]
      rw [if_pos h, if_pos (show (0 : Int) ≤ (i : Int) by omega), if_pos h, e]
      unfold seensOk seenOk
      rw [time_plain, rep_plain]
      simp only [Option.bind_some]
      by_cases hn : noneSeen l[i] = true
      · have hn2 := hn
        unfold noneSeen at hn2
        rw [decide_eq_true_eq] at hn2
        obtain ⟨h1, h2, h3, h4, h5⟩ := hn2
        rw [if_pos h1, h2, h3, h4, h5, if_pos (by decide), nk, hn]
        simp
      · rw [Bool.not_eq_true] at hn
        have hb : (if l[i].f1 = -1 then view_May.j1 (k + 1) x0 i ((l[i].f0.f0) == 0 && ((l[i].f0.f1) == 0 && ((l[i].f0.f2) == 0 && (l[i].f0.f3) == 0))) l (l.length : Int) i l[i].f0.f0 l[i].f0.f1 l[i].f0.f2 l[i].f0.f3 l[i].f1 else view_May.j1 (k + 1) x0 i false l (l.length : Int) i l[i].f0.f0 l[i].f0.f1 l[i].f0.f2 l[i].f0.f3 l[i].f1) = view_May.j1 (k + 1) x0 i false l (l.length : Int) i l[i].f0.f0 l[i].f0.f1 l[i].f0.f2 l[i].f0.f3 l[i].f1 := by
          by_cases h1 : l[i].f1 = -1
          · rw [if_pos h1]
            congr 1
            unfold noneSeen at hn
            rw [decide_eq_false_iff_not] at hn
            rw [Bool.eq_false_iff]
            intro hh
            simp only [Bool.and_eq_true, beq_iff_eq] at hh
            exact hn ⟨h1, hh.1, hh.2.1, hh.2.2.1, hh.2.2.2⟩
          · rw [if_neg h1]
        simp only [view_May.j1, time_plain, rep_plain, Option.bind_some, Bool.false_eq_true, if_false] at hb
        simp only [Bool.false_eq_true, if_false]
        rw [hb, nk, hn, Bool.false_or]
        cases timeOk l[i].f1
        · simp
        · cases repOk l[i].f0.f0 l[i].f0.f1 l[i].f0.f2 l[i].f0.f3
          · simp
          · by_cases hs : l[i].f0.f0 = (i : Int)
            · simp [hs]
            · simp [hs]
    · simp only [view_May.l0]
      rw [if_neg h, List.drop_of_length_le (by omega)]; rfl
theorem may_plain (l : List S91) (hl : l.length ≤ 9223372036854775807) (k : Nat) (hk : 2 * l.length + 1 ≤ k) : view_May.f k l = some (mayV l) := by
  have h := may_loop l l hl l.length k 0 (by omega) hk (by omega)
  unfold view_May.f mayV
  rw [show (0 : Int) = ((0 : Nat) : Int) from rfl, h, List.drop_zero]
  congr 2
  rw [Bool.eq_iff_iff, beq_iff_eq, decide_eq_true_eq]; omega
theorem vw_at (l : List S91) (hm : mayV l = true) (i : Nat) (hi : i < 3) : (rd_T91 l (i : Int)).f1 = -1 ∨ (0 ≤ (rd_T91 l (i : Int)).f1 ∧ (rd_T91 l (i : Int)).f1 ≤ 1048576 ∧ repOk (rd_T91 l (i : Int)).f0.f0 (rd_T91 l (i : Int)).f0.f1 (rd_T91 l (i : Int)).f0.f2 (rd_T91 l (i : Int)).f0.f3 = true) := by
  unfold mayV at hm
  simp only [Bool.and_eq_true, decide_eq_true_eq] at hm
  obtain ⟨hm, hl⟩ := hm
  match l, hl with
  | [a, b, c], _ =>
    simp only [seensOk, Bool.and_eq_true] at hm
    have key : ∀ (j : Int) (v : S91), seenOk j v = true → v.f1 = -1 ∨ (0 ≤ v.f1 ∧ v.f1 ≤ 1048576 ∧ repOk v.f0.f0 v.f0.f1 v.f0.f2 v.f0.f3 = true) := by
      intro j v h
      unfold seenOk at h
      rw [Bool.or_eq_true] at h
      rcases h with h | h
      · unfold noneSeen at h
        rw [decide_eq_true_eq] at h
        exact .inl h.1
      · simp only [Bool.and_eq_true] at h
        have ht := h.1.1
        unfold timeOk at ht
        rw [decide_eq_true_eq] at ht
        exact .inr ⟨ht.1, ht.2, h.1.2⟩
    obtain rfl | rfl | rfl : i = 0 ∨ i = 1 ∨ i = 2 := by omega
    · exact key _ _ hm.1
    · exact key _ _ hm.2.1
    · exact key _ _ hm.2.2.1
def spareV (l : List S91) (site now : Int) : Int × Bool × Int :=
  if (mayV l && (timeOk now && decide (0 ≤ site ∧ site < 3))) = true then
    (if (rd_T91 l site).f1 = -1 ∨ now < (rd_T91 l site).f1 ∨ 10 ≤ now - (rd_T91 l site).f1 then (0, false, 0) else ((if 0 < (rd_T91 l site).f0.f3 - (rd_T91 l site).f0.f2 then (rd_T91 l site).f0.f3 - (rd_T91 l site).f0.f2 else 0), true, 0))
  else (0, false, 1200)
theorem vw_spare (l : List S91) (hl : l.length + 2 < 3518437208883) (k : Nat) (hk : 2 * l.length + 1 ≤ k) (site now : Int) : view_Spare.f k l site now = some (spareV l site now) := by
  obtain ⟨k, rfl⟩ : ∃ m, k = m + 1 := ⟨k - 1, by omega⟩
  have j1 : view_Spare.j0 (k + 1) l site now true = some (0, false, 1200) := by simp only [view_Spare.j0]; rfl
  have hs : report_Site.f site = some (decide (0 ≤ site ∧ site < 3)) := by
    unfold report_Site.f
    by_cases h : site ≥ 0
    · rw [if_pos h]; congr 1; simp; omega
    · rw [if_neg h]; congr 1; simp; omega
  unfold view_Spare.f spareV
  rw [may_plain l (by omega) _ hk, time_plain, hs]
  simp only [Option.bind_some]
  cases hm : mayV l
  · rw [if_neg (by simp), j1]; rfl
  cases ht : timeOk now
  · rw [if_pos rfl, if_neg (by simp), j1]; rfl
  by_cases hsite : 0 ≤ site ∧ site < 3
  · rw [decide_eq_true hsite]
    obtain ⟨i, rfl⟩ := Int.eq_ofNat_of_zero_le hsite.1
    have h3 : l.length = 3 := by unfold mayV at hm; simp only [Bool.and_eq_true, decide_eq_true_eq] at hm; exact hm.2
    have hat := vw_at l hm i (by omega)
    have htn := ht
    unfold timeOk at htn
    rw [decide_eq_true_eq] at htn
    rw [if_pos rfl, if_pos rfl, if_pos (show (true && (true && true)) = true from rfl)]
    simp only [view_Spare.j0]
    rw [if_neg (show ¬ ((!true) = true) by decide), if_pos (by omega), if_pos (by omega)]
    rcases hat with h1 | ⟨h1, h2, h4⟩
    · rw [if_pos h1, if_pos (.inl h1)]
    · rw [if_neg (by omega)]
      have e1 : wrap64 (now - (rd_T91 l (i : Int)).f1) = now - (rd_T91 l (i : Int)).f1 := by unfold wrap64; omega
      rw [e1]
      by_cases g1 : now - (rd_T91 l (i : Int)).f1 < 0
      · rw [if_pos g1, if_pos (.inr (.inl (by omega)))]
      · rw [if_neg g1]
        by_cases g2 : now - (rd_T91 l (i : Int)).f1 ≥ 10
        · rw [if_pos g2, if_pos (.inr (.inr (by omega)))]
        · unfold repOk at h4
          rw [decide_eq_true_eq] at h4
          have e2 : wrap64 ((rd_T91 l (i : Int)).f0.f3 - (rd_T91 l (i : Int)).f0.f2) = (rd_T91 l (i : Int)).f0.f3 - (rd_T91 l (i : Int)).f0.f2 := by unfold wrap64; omega
          rw [if_neg g2, if_neg (by omega), e2]
          unfold mx
          split <;> split <;> first | rfl | (exfalso; omega) | (congr 2; omega)
  · rw [decide_eq_false hsite, if_pos rfl, if_pos rfl, if_neg (by simp)]; exact j1
def Fm (a b c d e : Int) : Prop := (0 ≤ a ∧ a < 4294967296) ∧ (0 ≤ b ∧ b < 4294967296) ∧ (c = 6 ∨ c = 17) ∧ (0 ≤ d ∧ d < 65536) ∧ (0 ≤ e ∧ e < 65536)
instance (a b c d e : Int) : Decidable (Fm a b c d e) := by unfold Fm; infer_instance
def Em (a b c d e t p u : Int) : Prop := Fm a b c d e ∧ (0 ≤ t ∧ t < 256) ∧ (0 ≤ p ∧ p ≤ 2) ∧ (0 ≤ u ∧ u ≤ 1048576)
instance (a b c d e t p u : Int) : Decidable (Em a b c d e t p u) := by unfold Em; infer_instance
theorem in_any (x : Int) (b n : Nat) (hb : b ≤ 64) (hn : 2 ^ b = n) : ip_In.f x (b : Int) = some (decide (0 ≤ x ∧ x < (n : Int))) := by
  unfold ip_In.f
  by_cases h : x ≥ 0
  · rw [if_pos h, if_pos (by omega)]
    have hn0 : 0 < n := by rw [← hn]; exact Nat.two_pow_pos b
    have e : shr .i64 x (b : Int) = x / (n : Int) := by
      unfold shr
      rw [Int.toNat_natCast, Nat.min_eq_left (by simpa [IntKind.bits] using hb), ← hn]
      simp
    rw [e]; congr 1
    rw [Bool.eq_iff_iff]
    simp only [beq_iff_eq, decide_eq_true_eq]
    constructor
    · intro hz
      refine ⟨h, ?_⟩
      have := Int.lt_ediv_add_one_mul_self x (show (0 : Int) < n by omega)
      rw [hz] at this
      omega
    · rintro ⟨_, hlt⟩
      exact Int.ediv_eq_zero_of_lt h hlt
  · rw [if_neg h]; congr 1; simp; omega
theorem in32 (x : Int) : ip_In.f x 32 = some (decide (0 ≤ x ∧ x < 4294967296)) := in_any x 32 4294967296 (by decide) (by decide)
theorem in16 (x : Int) : ip_In.f x 16 = some (decide (0 ≤ x ∧ x < 65536)) := in_any x 16 65536 (by decide) (by decide)
theorem in8 (x : Int) : ip_In.f x 8 = some (decide (0 ≤ x ∧ x < 256)) := in_any x 8 256 (by decide) (by decide)
theorem handled_f (c : Int) : flow_handled.f c = some (decide (c = 6 ∨ c = 17)) := by
  unfold flow_handled.f
  by_cases h : c = 6
  · simp [h]
  · rw [if_neg h]; simp [h]
    rfl
theorem flowMay_f (a b c d e : Int) : flow_May.f a b c d e = some (decide (Fm a b c d e)) := by
  unfold flow_May.f
  rw [in32, in32, in16, in16, handled_f]
  simp only [Option.bind_some]
  by_cases h1 : 0 ≤ a ∧ a < 4294967296 <;> by_cases h2 : 0 ≤ b ∧ b < 4294967296 <;> by_cases h3 : c = 6 ∨ c = 17 <;> by_cases h4 : 0 ≤ d ∧ d < 65536 <;> by_cases h5 : 0 ≤ e ∧ e < 65536 <;> simp [Fm, h1, h2, h3, h4, h5]
theorem to_f (x m : Int) : conf_to.f x m = some (decide (0 ≤ x ∧ x ≤ m)) := by
  unfold conf_to.f
  by_cases h : x ≥ 0
  · rw [if_pos h]; congr 1; simp; omega
  · rw [if_neg h]; congr 1; simp; omega
theorem time_f (x : Int) : conf_Time.f x = some (decide (0 ≤ x ∧ x ≤ 1048576)) := by
  unfold conf_Time.f
  rw [to_f]; rfl
theorem may_f (a : Int) : track_May.f a = some (decide (0 ≤ a ∧ a ≤ 2)) := by
  unfold track_May.f
  by_cases h : a ≥ 0
  · rw [if_pos h]; congr 1; simp; omega
  · rw [if_neg h]; congr 1; simp; omega
theorem entryMay_f (a b c d e t : Int) (z : Bool) (p u : Int) : entry_May.f a b c d e t z p u = some (decide (Em a b c d e t p u)) := by
  unfold entry_May.f
  rw [flowMay_f, in8, may_f, time_f]
  simp only [Option.bind_some]
  by_cases h1 : Fm a b c d e <;> by_cases h2 : 0 ≤ t ∧ t < 256 <;> by_cases h3 : 0 ≤ p ∧ p ≤ 2 <;> by_cases h4 : 0 ≤ u ∧ u ≤ 1048576 <;> simp [Em, h1, h2, h3, h4]
abbrev En := S50
abbrev Fl := S48
def emB (x : En) : Bool := decide (Em x.f0.f0 x.f0.f1 x.f0.f2 x.f0.f3 x.f0.f4 x.f1 x.f3 x.f4)
theorem em_f (x : En) : entry_May.f x.f0.f0 x.f0.f1 x.f0.f2 x.f0.f3 x.f0.f4 x.f1 x.f2 x.f3 x.f4 = some (emB x) := entryMay_f _ _ _ _ _ _ _ _ _
theorem rdE (l : List En) (i : Nat) (h : i < l.length) : rd_T50 l (i : Int) = l[i] := by
  unfold rd_T50
  simp [List.getD, List.getElem?_eq_getElem h]
theorem idx_first (f : Fl) : ∀ (l : List En) (n j : Nat) (hj : j < l.length), (∀ i (hi : i < j), (l[i]'(by omega)).f0 ≠ f) → (l[j]).f0 = f → idxFrom f l n = ((n + j : Nat) : Int)
  | [], n, j, hj, _, _ => by simp at hj
  | x :: r, n, 0, _, _, he => by
    unfold idxFrom
    rw [if_pos (show beqF x.f0 f = true from (beqF_iff _ _).2 he)]
    rfl
  | x :: r, n, j + 1, hj, hn, he => by
    unfold idxFrom
    rw [if_neg (show ¬ (beqF x.f0 f = true) from fun hb => hn 0 (by omega) ((beqF_iff _ _).1 hb)), idx_first f r (n + 1) j (by simpa using hj) (fun i hi => hn (i + 1) (by omega)) he]
    congr 1
    omega
theorem idx_le (f : Fl) : ∀ (l : List En) (n i : Nat) (hi : i < l.length), (l[i]).f0 = f → idxFrom f l n ≤ ((n + i : Nat) : Int)
  | [], n, i, hi, _ => by simp at hi
  | x :: r, n, i, hi, he => by
    unfold idxFrom
    split
    · omega
    · rename_i hb
      cases i with
      | zero => exact absurd ((beqF_iff _ _).2 he) hb
      | succ i =>
        have := idx_le f r (n + 1) i (by simpa using hi) he
        omega
def Good (l : List En) : Prop := (∀ x ∈ l, emB x = true) ∧ l.Pairwise (fun a b => a.f0 ≠ b.f0) ∧ l.length ≤ 8
noncomputable instance (l : List En) : Decidable (Good l) := Classical.propDecidable _
theorem good_ix (l : List En) : Good l ↔ ((∀ j (hj : j < l.length), emB l[j] = true ∧ idxFrom (l[j]).f0 l 0 = (j : Int)) ∧ l.length ≤ 8) := by
  constructor
  · rintro ⟨h1, h2, h3⟩
    refine ⟨fun j hj => ⟨h1 _ (List.getElem_mem hj), ?_⟩, h3⟩
    have := idx_first (l[j]).f0 l 0 j hj (fun i hi => List.pairwise_iff_getElem.1 h2 i j (by omega) hj hi) rfl
    rw [this, Nat.zero_add]
  · rintro ⟨h1, h3⟩
    refine ⟨fun x hx => ?_, List.pairwise_iff_getElem.2 (fun i j hi hj hij he => ?_), h3⟩
    · obtain ⟨j, hj, rfl⟩ := List.getElem_of_mem hx
      exact (h1 j hj).1
    · have h4 := idx_le (l[j]).f0 l 0 i hi he
      rw [(h1 j hj).2] at h4
      omega
theorem may_l0 (l : List En) (hl : l.length ≤ 9223372036854775807) (d : Nat) : ∀ (k i : Nat), l.length - i ≤ d → d < k → i ≤ l.length → (∀ j (hj : j < l.length), j < i → emB l[j] = true ∧ idxFrom (l[j]).f0 l 0 = (j : Int)) → cache_May.l0 k l l (l.length : Int) (i : Int) = some (decide (Good l)) := by
  induction d with
  | zero =>
    intro k i hd hk hi hp
    obtain ⟨k, rfl⟩ : ∃ m, k = m + 1 := ⟨k - 1, by omega⟩
    simp only [cache_May.l0]
    rw [if_neg (by omega)]
    congr 1
    rw [decide_eq_decide, good_ix]
    constructor
    · intro h
      exact ⟨fun j hj => hp j hj (by omega), by omega⟩
    · intro h
      have := h.2
      omega
  | succ d ih =>
    intro k i hd hk hi hp
    obtain ⟨k, rfl⟩ : ∃ m, k = m + 1 := ⟨k - 1, by omega⟩
    simp only [cache_May.l0]
    by_cases h : (i : Int) < (l.length : Int)
    · have hlt : i < l.length := by omega
      rw [if_pos h, if_pos (show (0 : Int) ≤ (i : Int) by omega), if_pos h, rdE l i hlt, em_f, Option.bind_some]
      cases hb : emB l[i]
      · rw [if_neg (by simp)]
        congr 1
        rw [eq_comm, decide_eq_false_iff_not]
        intro hg
        rw [hg.1 _ (List.getElem_mem hlt)] at hb
        cases hb
      · rw [if_pos rfl]
        unfold cache_at.f
        rw [Option.bind_some]
        by_cases hx : idxFrom (l[i]).f0 l 0 = (i : Int)
        · rw [if_pos hx, show wrap64 ((i : Int) + 1) = ((i + 1 : Nat) : Int) by unfold wrap64; omega]
          refine ih k (i + 1) (by omega) (by omega) (by omega) (fun j hj hji => ?_)
          by_cases hj2 : j = i
          · subst hj2
            exact ⟨hb, hx⟩
          · exact hp j hj (by omega)
        · rw [if_neg hx]
          congr 1
          rw [eq_comm, decide_eq_false_iff_not]
          intro hg
          exact hx (((good_ix l).1 hg).1 i hlt).2
    · rw [if_neg h]
      congr 1
      rw [decide_eq_decide, good_ix]
      constructor
      · intro h
        exact ⟨fun j hj => hp j hj (by omega), by omega⟩
      · intro h
        have := h.2
        omega
theorem mayE_f (l : List En) (k : Nat) (hl : l.length < k) (hl2 : l.length ≤ 9223372036854775807) : cache_May.f k l = some (decide (Good l)) := may_l0 l hl2 l.length k 0 (by omega) hl (by omega) (fun j _ h => absurd h (by omega))
theorem all_k (l : List S86) (n : Int) (hl : l.length ≤ 9223372036854775807) (k : Nat) (hk : l.length + 2 ≤ k) : health_All.f k l n = some (allB l n) := by
  have := all_loop l l n hl l.length k 0 (by omega) (by omega) (by omega)
  exact this
abbrev Si := S53
abbrev He := S86
abbrev Se := S91
abbrev Ca := S70
theorem site_f (a : Int) : report_Site.f a = some (decide (0 ≤ a ∧ a < 3)) := by
  unfold report_Site.f
  by_cases h : a ≥ 0
  · rw [if_pos h]; congr 1; simp; omega
  · rw [if_neg h]; congr 1; simp; omega
/-- May what is asked of a node be? -/
noncomputable def mayN (a0 a1 : Int) (l2 : List Si) (l3 : List He) (l4 : List Se) (l5 : List En) : Bool := mayC a1 l2 && (decide (0 ≤ a0 ∧ a0 < 3) && (allB l3 4 && (mayV l4 && decide (Good l5))))
theorem mayN_f (k : Nat) (a0 a1 : Int) (l2 : List Si) (l3 : List He) (l4 : List Se) (l5 : List En) (a6 : Int) (h3 : l3.length ≤ 9223372036854775807) (h4 : l4.length ≤ 9223372036854775807) (h5 : l5.length ≤ 9223372036854775807) (hk : l3.length + 2 * l4.length + l5.length + 3 ≤ k) : spare_May.f k a0 a1 l2 l3 l4 l5 a6 = some (mayN a0 a1 l2 l3 l4 l5) := by
  unfold spare_May.f mayN
  rw [show conf_May.f a1 l2 = some (mayC a1 l2) from rfl, Option.bind_some, site_f, all_k l3 4 h3 k (by omega), may_plain l4 h4 k (by omega), mayE_f l5 k (by omega) h5]
  cases mayC a1 l2
  · rfl
  · rw [if_pos rfl, Option.bind_some]
    cases decide (0 ≤ a0 ∧ a0 < 3)
    · rfl
    · rw [if_pos rfl, Option.bind_some]
      cases allB l3 4
      · rfl
      · rw [if_pos rfl, Option.bind_some]
        cases mayV l4
        · rfl
        · rfl
theorem mayN_parts {a0 a1 : Int} {l2 : List Si} {l3 : List He} {l4 : List Se} {l5 : List En} (h : mayN a0 a1 l2 l3 l4 l5 = true) : mayC a1 l2 = true ∧ (0 ≤ a0 ∧ a0 < 3) ∧ allB l3 4 = true ∧ mayV l4 = true ∧ Good l5 := by
  unfold mayN at h
  simp only [Bool.and_eq_true, decide_eq_true_eq] at h
  exact ⟨h.1, h.2.1, h.2.2.1, h.2.2.2.1, h.2.2.2.2⟩
def tgC (l2 : List Si) (l4 : List Se) (a0 now : Int) : Nat → List Ca
  | 0 => []
  | i + 1 => tgC l2 l4 a0 now i ++ tgOne a0 (i : Int) (rd_T53 l2 (i : Int)) (spareV l4 (i : Int) now)
theorem tgL_f (k : Nat) (l2 : List Si) (l4 : List Se) (a0 now : Int) (h4 : l4.length + 2 < 3518437208883) (hk : 2 * l4.length + 1 ≤ k) : ∀ i, tgL k l2 l4 a0 now i = some (tgC l2 l4 a0 now i)
  | 0 => rfl
  | i + 1 => by
    show ((tgL k l2 l4 a0 now i).bind fun o => (view_Spare.f k l4 (i : Int) now).bind fun s => some (o ++ tgOne a0 (i : Int) (rd_T53 l2 (i : Int)) s)) = _
    rw [tgL_f k l2 l4 a0 now h4 hk i, Option.bind_some, vw_spare l4 h4 k hk, Option.bind_some]
    rfl
theorem tg_len (l2 : List Si) (l4 : List Se) (a0 now : Int) : ∀ i, (tgC l2 l4 a0 now i).length ≤ i
  | 0 => Nat.le_refl _
  | i + 1 => by
    have h := tg_len l2 l4 a0 now i
    have h3 : (tgOne a0 (i : Int) (rd_T53 l2 (i : Int)) (spareV l4 (i : Int) now)).length ≤ 1 := by unfold tgOne; split <;> simp
    show (tgC l2 l4 a0 now i ++ _).length ≤ _
    rw [List.length_append]
    omega
theorem targets_f (k : Nat) (a0 a1 : Int) (l2 : List Si) (l3 : List He) (l4 : List Se) (l5 : List En) (a6 now : Int) (h3 : l3.length ≤ 9223372036854775807) (h4 : l4.length + 2 < 3518437208883) (h5 : l5.length ≤ 9223372036854775807) (hk : l3.length + 2 * l4.length + l5.length + 3 ≤ k) : spare_Targets.f k a0 a1 l2 l3 l4 l5 a6 now = some (if (mayN a0 a1 l2 l3 l4 l5 && timeOk now) = true then (tgC l2 l4 a0 now l2.length, 0) else ([], 1700)) := by
  unfold spare_Targets.f
  rw [mayN_f k a0 a1 l2 l3 l4 l5 a6 h3 (by omega) h5 hk, Option.bind_some, time_plain, tgL_f k l2 l4 a0 now h4 (by omega)]
  cases mayN a0 a1 l2 l3 l4 l5
  · rfl
  · cases timeOk now
    · rfl
    · rfl

def fullB (a0 a1 : Int) (l2 : List Si) (l3 : List He) (l5 : List En) : Bool :=
  if 0 ≤ a0 ∧ a0 < (l2.length : Int) then (if (rd_T53 l2 a0).f1 = true then true else (if (if cand_Backs.ok a1 l2 a0 l3 = true then picked (rd_T53 l2 a0).f3 l3 (rd_T53 l2 a0).f3.length else []).length = 0 then true else decide (loadN l5 ≥ (rd_T53 l2 a0).f2))) else true
theorem full_f (k : Nat) (a0 a1 : Int) (l2 : List Si) (l3 : List He) (l4 : List Se) (l5 : List En) (a6 : Int) (h3 : l3.length ≤ 9223372036854775807) (h4 : l4.length ≤ 9223372036854775807) (h5 : l5.length ≤ 9223372036854775807) (hk : l3.length + 2 * l4.length + l5.length + 3 ≤ k) : spare_Full.f k a0 a1 l2 l3 l4 l5 a6 = some (if mayN a0 a1 l2 l3 l4 l5 = true then (fullB a0 a1 l2 l3 l5, 0) else (false, 1700)) := by
  unfold spare_Full.f
  rw [mayN_f k a0 a1 l2 l3 l4 l5 a6 h3 h4 h5 hk, Option.bind_some]
  cases mayN a0 a1 l2 l3 l4 l5
  · rfl
  · rw [if_pos rfl, if_pos rfl]
    unfold cand_Backs.f fullB
    rw [Option.bind_some]
    by_cases h0 : 0 ≤ a0
    · rw [if_pos h0]
      by_cases h1 : a0 < (l2.length : Int)
      · rw [if_pos h1, if_pos (show 0 ≤ a0 ∧ a0 < (l2.length : Int) from ⟨h0, h1⟩)]
        by_cases h2 : (rd_T53 l2 a0).f1 = true
        · rw [if_pos h2, if_pos h2]
        · rw [if_neg h2, if_neg h2]
          by_cases h6 : cand_Backs.ok a1 l2 a0 l3 = true
          · rw [if_pos h6]
            simp only []
            rw [if_pos h6]
            by_cases h7 : (picked (rd_T53 l2 a0).f3 l3 (rd_T53 l2 a0).f3.length).length = 0
            · rw [if_pos h7, if_pos h7]
            · rw [if_neg h7, if_neg h7]
          · rw [if_neg h6]
            simp only []
            rw [if_neg h6]
            first | rfl | simp
      · rw [if_neg h1, if_neg (fun q => h1 q.2)]
    · rw [if_neg h0, if_neg (fun q => h0 q.1)]

theorem rdS (l : List Si) (i : Nat) (h : i < l.length) : rd_T53 l (i : Int) = l[i] := by simp [rd_T53, h]
theorem copy_l0 (v : Int) (l : List Si) (hl : l.length < 2932031007402) (hb : ∀ x ∈ l, x.f3.length < 8796093022208) (d : Nat) : ∀ (k i : Nat), l.length - i ≤ d → d < k → i ≤ l.length → wharfagelaw0_CopyConfig.l0 k (i : Int) v l v (l.take i) = some (v, l) := by
  induction d with
  | zero =>
    intro k i hd hk hi
    obtain ⟨k, rfl⟩ : ∃ m, k = m + 1 := ⟨k - 1, by omega⟩
    obtain rfl : i = l.length := by omega
    simp only [wharfagelaw0_CopyConfig.l0]
    rw [if_neg (by omega), List.take_length]
  | succ d ih =>
    intro k i hd hk hi
    obtain ⟨k, rfl⟩ : ∃ m, k = m + 1 := ⟨k - 1, by omega⟩
    simp only [wharfagelaw0_CopyConfig.l0]
    by_cases h : (i : Int) < (l.length : Int)
    · have hlt : i < l.length := by omega
      have hx := hb l[i] (List.getElem_mem hlt)
      have ht : (l.take i).length ≤ i := List.length_take_le _ _
      have e : (⟨(l[i]).f0, (l[i]).f1, (l[i]).f2, (l[i]).f3⟩ : Si) = l[i] := rfl
      rw [if_pos h, if_pos (by omega), Option.bind_some, rdS l i hlt]
      simp only [List.nil_append, List.length_nil, Nat.zero_add]
      rw [if_pos hx, if_pos (by omega), e, show wrap64 ((i : Int) + 1) = ((i + 1 : Nat) : Int) by unfold wrap64; omega]
      have nx := ih k (i + 1) (by omega) (by omega) (by omega)
      rw [List.take_add_one, List.getElem?_eq_getElem hlt] at nx
      exact nx
    · obtain rfl : i = l.length := by omega
      rw [if_neg h, List.take_length]
theorem copyC_f (v : Int) (l : List Si) (hl : l.length < 2932031007402) (hb : ∀ x ∈ l, x.f3.length < 8796093022208) (k : Nat) (hk : l.length < k) : wharfagelaw0_CopyConfig.f k v l = some (v, l) := by
  unfold wharfagelaw0_CopyConfig.f
  exact copy_l0 v l hl hb l.length k 0 (by omega) hk (by omega)
theorem copyN_f (a0 a1 : Int) (l2 : List Si) (l3 : List He) (l4 : List Se) (l5 : List En) (a6 : Int) (hl : l2.length < 2932031007402) (hb : ∀ x ∈ l2, x.f3.length < 8796093022208) (h3 : l3.length < 8796093022208) (h4 : l4.length < 3518437208883) (h5 : l5.length < 1954687338268) (k : Nat) (hk : l2.length < k) : wharfagelaw0_CopyNode.f k a0 a1 l2 l3 l4 l5 a6 = some (a0, a1, l2, l3, l4, l5, a6) := by
  unfold wharfagelaw0_CopyNode.f
  rw [copyC_f a1 l2 hl hb k hk, Option.bind_some, if_pos ⟨h3, h4, h5⟩]

theorem cx_picked_succ (bs : List S83) (hs : List S86) (i : Nat) : picked bs hs (i + 1) = addOne (picked bs hs i) (i : Int) (rd_T83 bs (i : Int)) (rd_T86 hs (i : Int)) := rfl
theorem cx_mayC_len {v : Int} {l : List S53} (h : mayC v l = true) : l.length ≤ 3 := by
  unfold mayC at h; simp only [Bool.and_eq_true, decide_eq_true_eq] at h; exact h.2
theorem cx_mayC_in {v : Int} {l : List S53} (h : mayC v l = true) {x : S53} (hx : x ∈ l) : siteOk x = true := by
  unfold mayC at h; simp only [Bool.and_eq_true, decide_eq_true_eq] at h
  exact List.all_eq_true.1 h.1.1 x hx
theorem cx_siteOk_len {x : S53} (h : siteOk x = true) : x.f3.length ≤ 4 := by
  unfold siteOk at h; simp only [Bool.and_eq_true, decide_eq_true_eq] at h; exact h.2
theorem cx_allB_len {l : List S86} {n : Int} (h : allB l n = true) : (l.length : Int) = n := by
  unfold allB at h; simp only [Bool.and_eq_true, beq_iff_eq] at h; exact h.2
theorem cm_l1 (R : Bool) (N : Nat) (i v : Int) (L : List S53) (f0 : Int) (f1 : Bool) (f2 : Int) (bs : List S83) (hb : bs.length ≤ 4) (P : ∀ k, N ≤ k → wharfageref10_ConfMay.l0 k (wrap64 (i + 1)) v L = some R) (e : Nat) : ∀ (k j : Nat), bs.length - j ≤ e → N + e + 1 ≤ k → j ≤ bs.length → wharfageref10_ConfMay.l1 k i (j : Int) v L f0 f1 f2 bs = some ((bs.drop j).all backOk && R) := by
  induction e with
  | zero =>
    intro k j hd hk hj
    obtain ⟨k, rfl⟩ : ∃ m, k = m + 1 := ⟨k - 1, by omega⟩
    simp only [wharfageref10_ConfMay.l1]
    rw [if_neg (by omega), List.drop_of_length_le (by omega), P k (by omega)]; simp
  | succ e ih =>
    intro k j hd hk hj
    obtain ⟨k, rfl⟩ : ∃ m, k = m + 1 := ⟨k - 1, by omega⟩
    simp only [wharfageref10_ConfMay.l1]
    by_cases h : (j : Int) < (bs.length : Int)
    · have hlt : j < bs.length := by omega
      have er : rd_T83 bs (j : Int) = bs[j] := by simp [rd_T83, hlt]
      have nx := ih k (j + 1) (by omega) (by omega) (by omega)
      rw [if_pos h, if_pos (by omega), er, List.drop_eq_getElem_cons hlt, List.all_cons, show wrap64 ((j : Int) + 1) = ((j + 1 : Nat) : Int) by unfold wrap64; omega, nx]
      by_cases h1 : bs[j].f0 < 0
      · rw [if_pos h1, show backOk bs[j] = false from decide_eq_false (by omega)]; simp
      · rw [if_neg h1]
        by_cases h2 : bs[j].f0 > 16
        · rw [if_pos h2, show backOk bs[j] = false from decide_eq_false (by omega)]; simp
        · rw [if_neg h2, show backOk bs[j] = true from decide_eq_true (by omega)]; simp
    · rw [if_neg h, List.drop_of_length_le (by omega), P k (by omega)]; simp
theorem cm_l0 (v : Int) (L : List S53) (hL : L.length ≤ 3) (m : Nat) : ∀ (k i : Nat), L.length - i ≤ m → 8 * m + 1 ≤ k → i ≤ L.length → wharfageref10_ConfMay.l0 k (i : Int) v L = some ((L.drop i).all siteOk) := by
  induction m with
  | zero =>
    intro k i hd hk hi
    obtain ⟨k, rfl⟩ : ∃ m, k = m + 1 := ⟨k - 1, by omega⟩
    simp only [wharfageref10_ConfMay.l0]
    rw [if_neg (by omega), List.drop_of_length_le (by omega)]; rfl
  | succ m ih =>
    intro k i hd hk hi
    obtain ⟨k, rfl⟩ : ∃ m, k = m + 2 := ⟨k - 2, by omega⟩
    by_cases h : (i : Int) < (L.length : Int)
    · have hlt : i < L.length := by omega
      have er : rd_T53 L (i : Int) = L[i] := by simp [rd_T53, hlt]
      have jt : ∀ f0 f1 f2 bs, wharfageref10_ConfMay.j2 (k + 1) (i : Int) true v L f0 f1 f2 bs = some false := fun _ _ _ _ => by simp only [wharfageref10_ConfMay.j2]; rfl
      have jf : ∀ f0 f1 f2 (bs : List S83), bs.length ≤ 4 → wharfageref10_ConfMay.j2 (k + 1) (i : Int) false v L f0 f1 f2 bs = some (bs.all backOk && (L.drop (i + 1)).all siteOk) := fun f0 f1 f2 bs hb => by
        simp only [wharfageref10_ConfMay.j2]
        rw [if_neg (by decide)]
        have := cm_l1 ((L.drop (i + 1)).all siteOk) (8 * m + 1) (i : Int) v L f0 f1 f2 bs hb (fun k hk => by rw [show wrap64 ((i : Int) + 1) = ((i + 1 : Nat) : Int) by unfold wrap64; omega]; exact ih k (i + 1) (by omega) hk (by omega)) 4 k 0 (by omega) (by omega) (by omega)
        rw [List.drop_zero] at this
        exact this
      rw [List.drop_eq_getElem_cons hlt, List.all_cons]
      simp only [wharfageref10_ConfMay.l0]
      rw [if_pos h, if_pos (by omega), er, jt]
      rw [show siteOk L[i] = (L[i].f3.all backOk && decide (0 ≤ L[i].f0 ∧ L[i].f0 ≤ 16) && decide (0 ≤ L[i].f2 ∧ L[i].f2 ≤ 8) && decide (L[i].f3.length ≤ 4)) from rfl]
      by_cases h1 : L[i].f0 < 0
      · rw [if_pos h1, decide_eq_false (show ¬ (0 ≤ L[i].f0 ∧ L[i].f0 ≤ 16) by omega)]; simp
      rw [if_neg h1]
      by_cases h2 : L[i].f0 > 16
      · rw [if_pos h2, decide_eq_false (show ¬ (0 ≤ L[i].f0 ∧ L[i].f0 ≤ 16) by omega)]; simp
      rw [if_neg h2, decide_eq_true (show 0 ≤ L[i].f0 ∧ L[i].f0 ≤ 16 by omega)]
      by_cases h3 : L[i].f2 < 0
      · rw [if_pos h3, decide_eq_false (show ¬ (0 ≤ L[i].f2 ∧ L[i].f2 ≤ 8) by omega)]; simp
      rw [if_neg h3]
      by_cases h4 : L[i].f2 > 8
      · rw [if_pos h4, decide_eq_false (show ¬ (0 ≤ L[i].f2 ∧ L[i].f2 ≤ 8) by omega)]; simp
      rw [if_neg h4, decide_eq_true (show 0 ≤ L[i].f2 ∧ L[i].f2 ≤ 8 by omega)]
      by_cases h5 : L[i].f3.length ≤ 4
      · rw [decide_eq_false (show ¬ ((L[i].f3.length : Int) > 4) by omega), jf _ _ _ _ h5, decide_eq_true h5]; simp
      · rw [decide_eq_true (show (L[i].f3.length : Int) > 4 by omega), jt, decide_eq_false h5]; simp
    · simp only [wharfageref10_ConfMay.l0]
      rw [if_neg h, List.drop_of_length_le (by omega)]; rfl
theorem cm_f (v : Int) (L : List S53) (k : Nat) (hk : 60 ≤ k) : wharfageref10_ConfMay.f k v L = some (mayC v L) := by
  obtain ⟨k, rfl⟩ : ∃ m, k = m + 1 := ⟨k - 1, by omega⟩
  have jt : wharfageref10_ConfMay.j0 (k + 1) true v L = some false := by simp only [wharfageref10_ConfMay.j0]; rfl
  unfold wharfageref10_ConfMay.f mayC
  rw [jt]
  by_cases h1 : v < 0
  · rw [if_pos h1, decide_eq_false (show ¬ (0 ≤ v ∧ v ≤ 1048576) by omega)]; simp
  rw [if_neg h1]
  by_cases h2 : v > 1048576
  · rw [if_pos h2, decide_eq_false (show ¬ (0 ≤ v ∧ v ≤ 1048576) by omega)]; simp
  rw [if_neg h2, decide_eq_true (show 0 ≤ v ∧ v ≤ 1048576 by omega)]
  by_cases h3 : L.length ≤ 3
  · rw [decide_eq_false (show ¬ ((L.length : Int) > 3) by omega), decide_eq_true h3]
    simp only [wharfageref10_ConfMay.j0]
    rw [if_neg (by decide)]
    have := cm_l0 v L h3 3 k 0 (by omega) (by omega) (by omega)
    rw [List.drop_zero] at this
    rw [show (0 : Int) = ((0 : Nat) : Int) from rfl, this]; simp
  · rw [decide_eq_true (show (L.length : Int) > 3 by omega), jt, decide_eq_false h3]; simp
theorem hm_l0 (l : List S86) (n : Int) (hl : l.length ≤ 9223372036854775806) (d : Nat) : ∀ (k i : Nat), l.length - i ≤ d → d < k → i ≤ l.length → wharfageref10_healthsMay.l0 k l n (i : Int) = some ((l.drop i).all (fun h => healthOk h.f0 h.f1) && (l.length : Int) == n) := by
  have he : ∀ (u : Bool) (c : Int), wharfageref10_HealthMay.f u c = some (healthOk u c) := by
    intro u c
    unfold wharfageref10_HealthMay.f healthOk
    cases u
    all_goals
      by_cases h : c ≥ 0
      · simp [h]
      · have h2 : ¬ 0 ≤ c := by omega
        simp [h, h2]
  induction d with
  | zero =>
    intro k i hd hk hi
    obtain ⟨k, rfl⟩ : ∃ m, k = m + 1 := ⟨k - 1, by omega⟩
    simp only [wharfageref10_healthsMay.l0]
    rw [if_neg (by omega), List.drop_of_length_le (by omega)]; rfl
  | succ d ih =>
    intro k i hd hk hi
    obtain ⟨k, rfl⟩ : ∃ m, k = m + 1 := ⟨k - 1, by omega⟩
    simp only [wharfageref10_healthsMay.l0]
    by_cases h : (i : Int) < (l.length : Int)
    · have hlt : i < l.length := by omega
      have er : rd_T86 l (i : Int) = l[i] := by simp [rd_T86, hlt]
      rw [if_pos h, if_pos (by omega), er, he, Option.bind_some, List.drop_eq_getElem_cons hlt, List.all_cons, show wrap64 ((i : Int) + 1) = ((i + 1 : Nat) : Int) by unfold wrap64; omega]
      cases hh : healthOk l[i].f0 l[i].f1
      · simp
      · rw [if_pos rfl, ih k (i + 1) (by omega) (by omega) (by omega)]; simp
    · rw [if_neg h, List.drop_of_length_le (by omega)]; rfl
theorem hm_f (l : List S86) (n : Int) (hl : l.length ≤ 9223372036854775806) (k : Nat) (hk : l.length < k) : wharfageref10_healthsMay.f k l n = some (allB l n) := by
  have := hm_l0 l n hl l.length k 0 (by omega) hk (by omega)
  exact this
theorem bo_l0 (bs : List S83) (hs : List S86) (hl : bs.length ≤ 4) (hh : bs.length ≤ hs.length) (d : Nat) : ∀ (k i : Nat), bs.length - i ≤ d → d < k → i ≤ bs.length → wharfageref10_BacksOf.l0 k hs (picked bs hs i) bs (i : Int) = some (picked bs hs bs.length, 0) := by
  induction d with
  | zero =>
    intro k i hd hk hi
    obtain ⟨k, rfl⟩ : ∃ m, k = m + 1 := ⟨k - 1, by omega⟩
    obtain rfl : i = bs.length := by omega
    simp only [wharfageref10_BacksOf.l0]
    rw [if_neg (by omega)]
  | succ d ih =>
    intro k i hd hk hi
    obtain ⟨k, rfl⟩ : ∃ m, k = m + 1 := ⟨k - 1, by omega⟩
    simp only [wharfageref10_BacksOf.l0]
    by_cases h : (i : Int) < (bs.length : Int)
    · have hp := picked_len bs hs i
      have nx := ih k (i + 1) (by omega) (by omega) (by omega)
      rw [cx_picked_succ] at nx
      unfold addOne at nx
      rw [if_pos h, if_pos (show (0 : Int) ≤ (i : Int) by omega), if_pos (by omega), show wrap64 ((i : Int) + 1) = ((i + 1 : Nat) : Int) by unfold wrap64; omega]
      by_cases h1 : (rd_T86 hs (i : Int)).f0 = true
      · rw [if_pos h1]
        by_cases h2 : (rd_T83 bs (i : Int)).f1 = true
        · rw [if_pos h2]
          rw [if_neg (by rintro ⟨_, h3, _⟩; rw [h2] at h3; cases h3)] at nx
          exact nx
        · rw [if_neg h2]
          by_cases h3 : (rd_T83 bs (i : Int)).f0 > 0
          · rw [if_pos h3, if_pos (by omega)]
            rw [if_pos ⟨h1, by simpa using h2, h3⟩] at nx
            exact nx
          · rw [if_neg h3]
            rw [if_neg (fun h4 => h3 h4.2.2)] at nx
            exact nx
      · rw [if_neg h1]
        rw [if_neg (fun h4 => h1 h4.1)] at nx
        exact nx
    · obtain rfl : i = bs.length := by omega
      rw [if_neg h]
theorem bo_f (v : Int) (l : List S53) (site : Int) (hs : List S86) (hh : hs.length ≤ 9223372036854775806) (k : Nat) (hk : hs.length + 60 ≤ k) : wharfageref10_BacksOf.f k v l site hs = cand_Backs.f v l site hs := by
  obtain ⟨k, rfl⟩ : ∃ m, k = m + 1 := ⟨k - 1, by omega⟩
  unfold wharfageref10_BacksOf.f cand_Backs.f cand_Backs.ok wharfageref10_Has.f
  rw [cm_f v l (k + 1) (by omega)]
  cases hm : mayC v l
  · simp [wharfageref10_BacksOf.j0]
  · simp only [Option.bind_some, if_true]
    rw [hm_f hs 4 hh (k + 1) (by omega)]
    cases ha : allB hs 4
    · simp [wharfageref10_BacksOf.j0]
    · have hl := cx_mayC_len hm
      have h4 := cx_allB_len ha
      simp only [Option.bind_some, if_true]
      by_cases hs0 : site ≥ 0
      · by_cases hs1 : site < (l.length : Int)
        · obtain ⟨i, rfl⟩ := Int.eq_ofNat_of_zero_le hs0
          have hlt : i < l.length := by omega
          have er : rd_T53 l (i : Int) = l[i] := by simp [rd_T53, hlt]
          have hb := cx_siteOk_len (cx_mayC_in hm (List.getElem_mem hlt))
          rw [if_pos hs0, if_pos hs1]
          simp only [if_true, Option.bind_some, wharfageref10_BacksOf.j0, Bool.not_true, Bool.false_eq_true, if_false]
          rw [if_pos (by omega), if_pos hs1, er]
          have := bo_l0 l[i].f3 hs hb (by omega) 4 k 0 (by omega) (by omega) (by omega)
          rw [decide_eq_true (show 0 ≤ (i : Int) ∧ (i : Int) < (l.length : Int) by omega)]
          simp only [Bool.and_self, if_true]
          exact this
        · rw [if_pos hs0, if_neg hs1, decide_eq_false (show ¬ (0 ≤ site ∧ site < (l.length : Int)) by omega)]
          simp [wharfageref10_BacksOf.j0]
      · rw [if_neg hs0, decide_eq_false (show ¬ (0 ≤ site ∧ site < (l.length : Int)) by omega)]
        simp [wharfageref10_BacksOf.j0]
theorem sca_l0 (l : List S70) (hl : l.length ≤ 9223372036854775806) (d : Nat) : ∀ (k i : Nat), l.length - i ≤ d → d < k → wharfagelaw0_SameCandidates.l0 k l l (i : Int) = some true := by
  induction d with
  | zero =>
    intro k i hd hk
    obtain ⟨k, rfl⟩ : ∃ m, k = m + 1 := ⟨k - 1, by omega⟩
    simp only [wharfagelaw0_SameCandidates.l0]
    rw [if_neg (by omega)]
  | succ d ih =>
    intro k i hd hk
    obtain ⟨k, rfl⟩ : ∃ m, k = m + 1 := ⟨k - 1, by omega⟩
    simp only [wharfagelaw0_SameCandidates.l0]
    by_cases h : (i : Int) < (l.length : Int)
    · rw [if_pos h, if_pos (show (0 : Int) ≤ (i : Int) by omega), if_pos h, if_neg (by simp), show wrap64 ((i : Int) + 1) = ((i + 1 : Nat) : Int) by unfold wrap64; omega]
      exact ih k (i + 1) (by omega) (by omega)
    · rw [if_neg h]
theorem sca_f (l : List S70) (hl : l.length ≤ 9223372036854775806) : wharfagelaw0_SameCandidates.f (l.length + 1) l l = some true := by
  unfold wharfagelaw0_SameCandidates.f
  rw [if_pos rfl]
  exact sca_l0 l hl l.length _ 0 (by omega) (by omega)
theorem spo_l0 (d : Nat) : ∀ (k i : Nat) (l : List S70), l.length ≤ 9223372036854775806 → l.length - i ≤ d → d < k → i ≤ l.length → ∃ r, wharfagelaw0_SpoilCandidates.l0 k l (i : Int) = some r := by
  induction d with
  | zero =>
    intro k i l hl hd hk hi
    obtain ⟨k, rfl⟩ : ∃ m, k = m + 1 := ⟨k - 1, by omega⟩
    simp only [wharfagelaw0_SpoilCandidates.l0]
    rw [if_neg (by omega)]; exact ⟨_, rfl⟩
  | succ d ih =>
    intro k i l hl hd hk hi
    obtain ⟨k, rfl⟩ : ∃ m, k = m + 1 := ⟨k - 1, by omega⟩
    simp only [wharfagelaw0_SpoilCandidates.l0]
    by_cases h : (i : Int) < (l.length : Int)
    · rw [if_pos h, if_pos (by omega), show wrap64 ((i : Int) + 1) = ((i + 1 : Nat) : Int) by unfold wrap64; omega]
      exact ih k (i + 1) _ (by rw [List.length_set]; exact hl) (by rw [List.length_set]; omega) (by omega) (by rw [List.length_set]; omega)
    · rw [if_neg h]; exact ⟨_, rfl⟩
theorem spo_f (l : List S70) (hl : l.length ≤ 9223372036854775806) : ∃ r, wharfagelaw0_SpoilCandidates.f (l.length + 1) l = some r := spo_l0 l.length (l.length + 1) 0 l hl (by omega) (by omega) (by omega)
theorem vw_rep (a b c d : Int) : wharfageref1_ReportMay.f a b c d = some (repOk a b c d) := by
  have hin : ∀ x : Int, wharfageref1_within.f x 8 = some (decide (0 ≤ x ∧ x < 256)) := by
    intro x
    unfold wharfageref1_within.f
    by_cases h : x ≥ 0
    · have e : shl .i64 1 (8 : Int) = 256 := by kernel_rfl
      rw [if_pos h, if_pos (by omega), e]; congr 1
      exact decide_eq_decide.2 (by omega)
    · rw [if_neg h]; congr 1; simp; omega
  unfold wharfageref1_ReportMay.f repOk
  rw [hin, hin]
  simp only [Option.bind_some]
  by_cases h1 : a ≥ 0
  · rw [if_pos h1]
    by_cases h2 : a < 3
    · rw [if_pos h2]
      by_cases h3 : b ≥ 0
      · rw [if_pos h3]
        by_cases h4 : b < 65536
        · rw [if_pos h4]
          by_cases h5 : 0 ≤ c ∧ c < 256 <;> by_cases h6 : 0 ≤ d ∧ d < 256 <;> simp [h1, h2, h3, h4, h5, h6]
        · rw [if_neg h4]; congr 1; exact (decide_eq_false (by omega)).symm
      · rw [if_neg h3]; congr 1; exact (decide_eq_false (by omega)).symm
    · rw [if_neg h2]; congr 1; exact (decide_eq_false (by omega)).symm
  · rw [if_neg h1]; congr 1; exact (decide_eq_false (by omega)).symm
theorem vw_now (t : Int) : wharfageref10_nowMay.f t = some (timeOk t) := by
  unfold wharfageref10_nowMay.f timeOk
  by_cases h : t ≥ 0
  · rw [if_pos h]; simp; omega
  · rw [if_neg h]; simp; omega
theorem vw_may_l0 (l : List S91) (hl : l.length ≤ 9223372036854775806) (d : Nat) : ∀ (k i : Nat), l.length - i ≤ d → d + 1 ≤ k → i ≤ l.length → wharfageref10_ViewMay.l0 k l (i : Int) = some (seensOk i (l.drop i) && (l.length : Int) == 3) := by
  induction d with
  | zero =>
    intro k i hd hk hi
    obtain ⟨k, rfl⟩ : ∃ m, k = m + 1 := ⟨k - 1, by omega⟩
    simp only [wharfageref10_ViewMay.l0]
    rw [if_neg (by omega), List.drop_of_length_le (by omega)]; rfl
  | succ d ih =>
    intro k i hd hk hi
    obtain ⟨k, rfl⟩ : ∃ m, k = m + 1 := ⟨k - 1, by omega⟩
    by_cases h : (i : Int) < (l.length : Int)
    · have hlt : i < l.length := by omega
      have e : rd_T91 l (i : Int) = l[i] := by simp [rd_T91, hlt]
      have nk : wharfageref10_ViewMay.l0 k l (wrap64 ((i : Int) + 1)) = some (seensOk (i + 1) (l.drop (i + 1)) && (l.length : Int) == 3) := by
        rw [show wrap64 ((i : Int) + 1) = ((i + 1 : Nat) : Int) by unfold wrap64; omega]
        exact ih k (i + 1) (by omega) (by omega) (by omega)
      rw [List.drop_eq_getElem_cons hlt]
      simp only [wharfageref10_ViewMay.l0]
      rw [if_pos h, if_pos (show (0 : Int) ≤ (i : Int) by omega), e, nk, vw_rep]
      simp only [Option.bind_some]
      rw [show seensOk i (l[i] :: l.drop (i + 1)) = (seenOk (i : Int) l[i] && seensOk (i + 1) (l.drop (i + 1))) from rfl]
      unfold seenOk
      by_cases hn : noneSeen l[i] = true
      · have hn2 := hn
        unfold noneSeen at hn2
        rw [decide_eq_true_eq] at hn2
        obtain ⟨h1, h2, h3, h4, h5⟩ := hn2
        rw [if_pos h1, h2, h3, h4, h5, if_pos (by decide), hn]; simp
      · rw [Bool.not_eq_true] at hn
        rw [hn, Bool.false_or]
        have tail : (if l[i].f1 < 0 then some false else (if l[i].f1 > 1048576 then some false else (if repOk l[i].f0.f0 l[i].f0.f1 l[i].f0.f2 l[i].f0.f3 = true then (if l[i].f0.f0 = (i : Int) then some (seensOk (i + 1) (l.drop (i + 1)) && (l.length : Int) == 3) else some false) else some false))) = some ((timeOk l[i].f1 && repOk l[i].f0.f0 l[i].f0.f1 l[i].f0.f2 l[i].f0.f3 && decide (l[i].f0.f0 = (i : Int))) && seensOk (i + 1) (l.drop (i + 1)) && (l.length : Int) == 3) := by
          by_cases h1 : l[i].f1 < 0
          · rw [if_pos h1, show timeOk l[i].f1 = false from decide_eq_false (by omega)]; simp
          rw [if_neg h1]
          by_cases h2 : l[i].f1 > 1048576
          · rw [if_pos h2, show timeOk l[i].f1 = false from decide_eq_false (by omega)]; simp
          rw [if_neg h2, show timeOk l[i].f1 = true from decide_eq_true (by omega)]
          cases repOk l[i].f0.f0 l[i].f0.f1 l[i].f0.f2 l[i].f0.f3
          · simp
          · by_cases h3 : l[i].f0.f0 = (i : Int) <;> simp [h3]
        by_cases h1 : l[i].f1 = -1
        · rw [if_pos h1, if_neg (by
            intro hh
            simp only [Bool.and_eq_true, beq_iff_eq] at hh
            unfold noneSeen at hn
            rw [decide_eq_false_iff_not] at hn
            exact hn ⟨h1, hh.1, hh.2.1, hh.2.2.1, hh.2.2.2⟩)]
          exact tail
        · rw [if_neg h1]; exact tail
    · simp only [wharfageref10_ViewMay.l0]
      rw [if_neg h, List.drop_of_length_le (by omega)]; rfl
theorem vw_may (l : List S91) (hl : l.length ≤ 9223372036854775806) (k : Nat) (hk : l.length + 1 ≤ k) : wharfageref10_ViewMay.f k l = some (mayV l) := by
  have h := vw_may_l0 l hl l.length k 0 (by omega) hk (by omega)
  unfold wharfageref10_ViewMay.f mayV
  rw [show (0 : Int) = ((0 : Nat) : Int) from rfl, h, List.drop_zero]
  congr 2
  rw [Bool.eq_iff_iff, beq_iff_eq, decide_eq_true_eq]; omega
theorem vw_spare2 (l : List S91) (hl : l.length + 2 < 3518437208883) (k : Nat) (hk : l.length + 1 ≤ k) (site now : Int) : wharfageref10_SpareOf.f k l site now = some (spareV l site now) := by
  obtain ⟨k, rfl⟩ : ∃ m, k = m + 1 := ⟨k - 1, by omega⟩
  have j1 : wharfageref10_SpareOf.j0 (k + 1) l site now true = some (0, false, 1200) := by simp only [wharfageref10_SpareOf.j0]; rfl
  unfold wharfageref10_SpareOf.f spareV
  rw [vw_may l (by omega) _ hk, vw_now]
  simp only [Option.bind_some]
  cases hm : mayV l
  · rw [if_neg (by simp), j1]; rfl
  cases ht : timeOk now
  · rw [if_pos rfl, if_neg (by simp), j1]; rfl
  rw [if_pos rfl, if_pos rfl]
  by_cases hs0 : site < 0
  · rw [if_pos hs0, decide_eq_false (by omega)]; exact j1
  rw [if_neg hs0]
  by_cases hs1 : site ≥ 3
  · rw [decide_eq_true hs1, decide_eq_false (by omega)]; exact j1
  rw [decide_eq_false hs1, decide_eq_true (by omega)]
  obtain ⟨i, rfl⟩ := Int.eq_ofNat_of_zero_le (show 0 ≤ site by omega)
  have h3 : l.length = 3 := by unfold mayV at hm; simp only [Bool.and_eq_true, decide_eq_true_eq] at hm; exact hm.2
  have hat := vw_at l hm i (by omega)
  have htn := ht
  unfold timeOk at htn
  rw [decide_eq_true_eq] at htn
  rw [if_pos (show (true && (true && true)) = true from rfl)]
  simp only [wharfageref10_SpareOf.j0]
  rw [if_neg (by decide), if_pos (by omega), if_pos (by omega)]
  rcases hat with h1 | ⟨h1, h2, h4⟩
  · rw [if_pos (by omega), if_pos (.inl h1)]
  · rw [if_neg (by omega)]
    by_cases g1 : now < (rd_T91 l (i : Int)).f1
    · rw [if_pos g1, if_pos (.inr (.inl g1))]
    · have e1 : wrap64 (now - (rd_T91 l (i : Int)).f1) = now - (rd_T91 l (i : Int)).f1 := by unfold wrap64; omega
      rw [if_neg g1, e1]
      by_cases g2 : now - (rd_T91 l (i : Int)).f1 ≥ 10
      · rw [if_pos g2, if_pos (.inr (.inr (by omega)))]
      · unfold repOk at h4
        rw [decide_eq_true_eq] at h4
        have e2 : wrap64 ((rd_T91 l (i : Int)).f0.f3 - (rd_T91 l (i : Int)).f0.f2) = (rd_T91 l (i : Int)).f0.f3 - (rd_T91 l (i : Int)).f0.f2 := by unfold wrap64; omega
        rw [if_neg g2, if_neg (by omega), e2]
        rfl
theorem within_any (x : Int) (b : Nat) (n : Nat) (hb : b < 63) (hn : 2 ^ b = n) (hs : shl .i64 1 (b : Int) = (n : Int)) : wharfageref1_within.f x (b : Int) = some (decide (0 ≤ x ∧ x < (n : Int))) := by
  unfold wharfageref1_within.f
  by_cases h : x ≥ 0
  · rw [if_pos h, if_pos (by omega), hs]; congr 1; simp; omega
  · rw [if_neg h]; congr 1; simp; omega
theorem within32 (x : Int) : wharfageref1_within.f x 32 = some (decide (0 ≤ x ∧ x < 4294967296)) := within_any x 32 4294967296 (by decide) (by decide) (by decide)
theorem within16 (x : Int) : wharfageref1_within.f x 16 = some (decide (0 ≤ x ∧ x < 65536)) := within_any x 16 65536 (by decide) (by decide) (by decide)
theorem refFlowMay_f (a b c d e : Int) : wharfageref1_FlowMay.f a b c d e = some (decide (Fm a b c d e)) := by
  unfold wharfageref1_FlowMay.f
  rw [within32, within32, within16, within16]
  simp only [Option.bind_some]
  by_cases h1 : 0 ≤ a ∧ a < 4294967296 <;> by_cases h2 : 0 ≤ b ∧ b < 4294967296 <;> by_cases h3 : c = 6 <;> by_cases h6 : c = 17 <;> by_cases h4 : 0 ≤ d ∧ d < 65536 <;> by_cases h5 : 0 ≤ e ∧ e < 65536 <;> simp [Fm, h1, h2, h3, h4, h5, h6]
theorem nowMay_f (x : Int) : wharfageref10_nowMay.f x = some (decide (0 ≤ x ∧ x ≤ 1048576)) := by
  unfold wharfageref10_nowMay.f
  by_cases h : x ≥ 0
  · rw [if_pos h]; congr 1; simp; omega
  · rw [if_neg h]; congr 1; simp; omega
theorem phaseMay_f (x : Int) : wharfageref10_phaseMay.f x = some (decide (0 ≤ x ∧ x ≤ 2)) := may_f x
theorem refMay_f (a b c d e t : Int) (z : Bool) (p u : Int) : wharfageref10_EntryMay.f a b c d e t z p u = some (decide (Em a b c d e t p u)) := by
  unfold wharfageref10_EntryMay.f
  rw [refFlowMay_f, phaseMay_f, nowMay_f]
  simp only [Option.bind_some]
  by_cases h1 : Fm a b c d e <;> by_cases h2 : 0 ≤ t <;> by_cases h5 : t < 256 <;> by_cases h3 : 0 ≤ p ∧ p ≤ 2 <;> by_cases h4 : 0 ≤ u ∧ u ≤ 1048576 <;> simp [Em, h1, h2, h3, h4, h5, show (t ≤ 255) ↔ (t < 256) by omega]
theorem emr_f (x : En) : wharfageref10_EntryMay.f x.f0.f0 x.f0.f1 x.f0.f2 x.f0.f3 x.f0.f4 x.f1 x.f2 x.f3 x.f4 = some (emB x) := refMay_f _ _ _ _ _ _ _ _ _
theorem good_at (l : List En) : Good l ↔ (∀ i (hi : i < l.length), emB l[i] = true ∧ ∀ j (hj : j < i), (l[j]'(by omega)).f0 ≠ (l[i]).f0) ∧ l.length ≤ 8 := by
  constructor
  · rintro ⟨h1, h2, h3⟩
    exact ⟨fun i hi => ⟨h1 _ (List.getElem_mem hi), fun j hj => List.pairwise_iff_getElem.1 h2 j i (by omega) hi hj⟩, h3⟩
  · rintro ⟨h1, h3⟩
    refine ⟨fun x hx => ?_, List.pairwise_iff_getElem.2 (fun i j hi hj hij => (h1 j hj).2 i hij), h3⟩
    obtain ⟨j, hj, rfl⟩ := List.getElem_of_mem hx
    exact (h1 j hj).1
theorem beq_lit (x : En) (f : Fl) : (x.f0.f0 == f.f0 && (x.f0.f1 == f.f1 && (x.f0.f2 == f.f2 && (x.f0.f3 == f.f3 && x.f0.f4 == f.f4)))) = beqF x.f0 f := rfl
theorem cr_l1 (l : List En) (hl : l.length ≤ 9223372036854775806) (i : Nat) (hi : i < l.length) (hu : ∀ m (hm : m < i), (l[m]'(by omega)).f0 ≠ (l[i]).f0) (R : Bool) (N : Nat) (hR : ∀ k, N ≤ k → wharfageref10_CacheMay.l0 k l (wrap64 ((i : Int) + 1)) = some R) (d : Nat) : ∀ (k j : Nat), i - j ≤ d → N + d + 1 ≤ k → j ≤ i →
    wharfageref10_CacheMay.l1 k l (i : Int) (j : Int) = some R := by
  induction d with
  | zero =>
    intro k j hd hk hj
    obtain ⟨k, rfl⟩ : ∃ m, k = m + 1 := ⟨k - 1, by omega⟩
    obtain rfl : j = i := by omega
    simp only [wharfageref10_CacheMay.l1]
    rw [if_neg (by omega), hR k (by omega)]
  | succ d ih =>
    intro k j hd hk hj
    obtain ⟨k, rfl⟩ : ∃ m, k = m + 1 := ⟨k - 1, by omega⟩
    simp only [wharfageref10_CacheMay.l1]
    by_cases h : j < i
    · rw [if_pos (by omega), if_pos (by omega), if_pos (by omega), if_pos (by omega), if_pos (by omega), rdE l j (by omega), rdE l i hi]
      rw [beq_lit, if_neg (fun hb => hu j h ((beqF_iff _ _).1 hb)), show wrap64 ((j : Int) + 1) = ((j + 1 : Nat) : Int) by unfold wrap64; omega]
      exact ih k (j + 1) (by omega) (by omega) (by omega)
    · obtain rfl : j = i := by omega
      rw [if_neg (by omega), hR k (by omega)]
theorem cr_dup (l : List En) (hl : l.length ≤ 9223372036854775806) (i : Nat) (hi : i < l.length) (hu : ¬ ∀ m (hm : m < i), (l[m]'(by omega)).f0 ≠ (l[i]).f0) (d : Nat) : ∀ (k j : Nat) (_ : i - j ≤ d) (_ : d + 1 ≤ k) (hj : j ≤ i), (∀ m (hm : m < j), (l[m]'(by omega)).f0 ≠ (l[i]).f0) →
    wharfageref10_CacheMay.l1 k l (i : Int) (j : Int) = some false := by
  induction d with
  | zero =>
    intro k j hd hk hj hn
    obtain rfl : j = i := by omega
    exact absurd hn hu
  | succ d ih =>
    intro k j hd hk hj hn
    obtain ⟨k, rfl⟩ : ∃ m, k = m + 1 := ⟨k - 1, by omega⟩
    simp only [wharfageref10_CacheMay.l1]
    by_cases h : j < i
    · rw [if_pos (by omega), if_pos (by omega), if_pos (by omega), if_pos (by omega), if_pos (by omega), rdE l j (by omega), rdE l i hi]
      rw [beq_lit]
      by_cases hb : beqF (l[j]'(by omega)).f0 (l[i]).f0 = true
      · rw [if_pos hb]
      · rw [if_neg hb, show wrap64 ((j : Int) + 1) = ((j + 1 : Nat) : Int) by unfold wrap64; omega]
        refine ih k (j + 1) (by omega) (by omega) (by omega) (fun m hm => ?_)
        by_cases hmj : m < j
        · exact hn m hmj
        · obtain rfl : m = j := by omega
          exact fun e => hb ((beqF_iff _ _).2 e)
    · obtain rfl : j = i := by omega
      exact absurd hn hu
theorem cr_l0 (l : List En) (hl : l.length ≤ 9223372036854775806) (d : Nat) : ∀ (k i : Nat), l.length - i ≤ d → d * (l.length + 2) + 1 ≤ k → i ≤ l.length → (∀ j (hj : j < l.length), j < i → emB l[j] = true ∧ ∀ m (hm : m < j), (l[m]'(by omega)).f0 ≠ (l[j]).f0) →
    wharfageref10_CacheMay.l0 k l (i : Int) = some (decide (Good l)) := by
  induction d with
  | zero =>
    intro k i hd hk hi hp
    obtain ⟨k, rfl⟩ : ∃ m, k = m + 1 := ⟨k - 1, by omega⟩
    obtain rfl : i = l.length := by omega
    simp only [wharfageref10_CacheMay.l0]
    rw [if_neg (by omega)]
    congr 1
    refine decide_eq_decide.2 ?_
    rw [good_at]
    exact ⟨fun h => ⟨fun j hj => hp j hj hj, by omega⟩, fun h => by omega⟩
  | succ d ih =>
    intro k i hd hk hi hp
    obtain ⟨k, rfl⟩ : ∃ m, k = m + 1 := ⟨k - 1, by omega⟩
    rw [Nat.succ_mul] at hk
    by_cases h : i < l.length
    · simp only [wharfageref10_CacheMay.l0]
      rw [if_pos (by omega), if_pos (by omega), rdE l i h, emr_f, Option.bind_some]
      by_cases he : emB l[i] = true
      · rw [if_pos he]
        by_cases hu : ∀ m (hm : m < i), (l[m]'(by omega)).f0 ≠ (l[i]).f0
        · have hR : ∀ k', d * (l.length + 2) + 1 ≤ k' → wharfageref10_CacheMay.l0 k' l (wrap64 ((i : Int) + 1)) = some (decide (Good l)) := by
            intro k' hk'
            rw [show wrap64 ((i : Int) + 1) = ((i + 1 : Nat) : Int) by unfold wrap64; omega]
            refine ih k' (i + 1) (by omega) hk' (by omega) (fun j hj hji => ?_)
            by_cases hlt : j < i
            · exact hp j hj hlt
            · obtain rfl : j = i := by omega
              exact ⟨he, hu⟩
          exact cr_l1 l hl i h hu _ _ hR i k 0 (by omega) (by omega) (by omega)
        · have hng : decide (Good l) = false := decide_eq_false (fun hg => hu (((good_at l).1 hg).1 i h).2)
          rw [hng]
          exact cr_dup l hl i h hu i k 0 (by omega) (by omega) (by omega) (fun m hm => by omega)
      · rw [if_neg he]
        congr 1
        exact (decide_eq_false (fun hg => he (((good_at l).1 hg).1 i h).1)).symm
    · obtain rfl : i = l.length := by omega
      simp only [wharfageref10_CacheMay.l0]
      rw [if_neg (by omega)]
      congr 1
      refine decide_eq_decide.2 ?_
      rw [good_at]
      exact ⟨fun h => ⟨fun j hj => hp j hj hj, by omega⟩, fun h => by omega⟩
theorem cr_f (l : List En) (hl : l.length ≤ 9223372036854775806) (k : Nat) (hk : l.length * (l.length + 2) + 1 ≤ k) : wharfageref10_CacheMay.f k l = some (decide (Good l)) :=
  cr_l0 l hl l.length k 0 (by omega) hk (by omega) (fun _ _ h => absurd h (by omega))
theorem rmay_f (k : Nat) (a0 a1 : Int) (l2 : List Si) (l3 : List He) (l4 : List Se) (l5 : List En) (a6 : Int) (h3 : l3.length ≤ 9223372036854775806) (h4 : l4.length ≤ 9223372036854775806) (h5 : l5.length ≤ 9223372036854775806) (hk : l3.length + 2 * l4.length + l5.length * (l5.length + 2) + 100 ≤ k) : wharfageref10_spareMay.f k a0 a1 l2 l3 l4 l5 a6 = some (mayN a0 a1 l2 l3 l4 l5) := by
  unfold wharfageref10_spareMay.f mayN
  rw [cm_f a1 l2 k (by omega), hm_f l3 4 h3 k (by omega), vw_may l4 h4 k (by omega), cr_f l5 h5 k (by omega), Option.bind_some]
  cases mayC a1 l2
  · rfl
  · rw [if_pos rfl]
    by_cases h0 : a0 ≥ 0
    · rw [if_pos h0]
      by_cases h1 : a0 < 3
      · rw [if_pos h1, Option.bind_some, decide_eq_true (show 0 ≤ a0 ∧ a0 < 3 from ⟨h0, h1⟩)]
        cases allB l3 4
        · rfl
        · rw [if_pos rfl, Option.bind_some]
          cases mayV l4
          · rfl
          · rfl
      · rw [if_neg h1, decide_eq_false (show ¬ (0 ≤ a0 ∧ a0 < 3) from fun q => h1 q.2)]
        rfl
    · rw [if_neg h0, decide_eq_false (show ¬ (0 ≤ a0 ∧ a0 < 3) from fun q => h0 q.1)]
      rfl
theorem rhas_f (k : Nat) (v : Int) (l : List Si) (a : Int) (hk : 60 ≤ k) : wharfageref10_Has.f k v l a (-1) = some (mayC v l && decide (0 ≤ a ∧ a < (l.length : Int))) := by
  unfold wharfageref10_Has.f
  rw [cm_f v l k hk, Option.bind_some]
  cases mayC v l
  · rfl
  · rw [if_pos rfl]
    by_cases h0 : a ≥ 0
    · rw [if_pos h0]
      by_cases h1 : a < (l.length : Int)
      · rw [if_pos h1, if_pos rfl, decide_eq_true (show 0 ≤ a ∧ a < (l.length : Int) from ⟨h0, h1⟩)]
        rfl
      · rw [if_neg h1, decide_eq_false (fun q => h1 q.2)]
        rfl
    · rw [if_neg h0, decide_eq_false (fun q => h0 q.1)]
      rfl
theorem rload_l0 (a0 a1 : Int) (l2 : List Si) (l3 : List He) (l4 : List Se) (l5 : List En) (a6 : Int) (hl : l5.length ≤ 1000) (d : Nat) : ∀ (k i : Nat), l5.length - i ≤ d → d < k → i ≤ l5.length → wharfageref10_Load.l0 k (loadN (l5.take i)) (i : Int) a0 a1 l2 l3 l4 l5 a6 = some (loadN l5) := by
  induction d with
  | zero =>
    intro k i hd hk hi
    obtain ⟨k, rfl⟩ : ∃ m, k = m + 1 := ⟨k - 1, by omega⟩
    obtain rfl : i = l5.length := by omega
    simp only [wharfageref10_Load.l0]
    rw [if_neg (by omega), List.take_length]
  | succ d ih =>
    intro k i hd hk hi
    obtain ⟨k, rfl⟩ : ∃ m, k = m + 1 := ⟨k - 1, by omega⟩
    simp only [wharfageref10_Load.l0]
    by_cases h : (i : Int) < (l5.length : Int)
    · have hlt : i < l5.length := by omega
      have nx := ih k (i + 1) (by omega) (by omega) (by omega)
      have h6 : (l5.take i).length ≤ i := List.length_take_le _ _
      have hn : loadN (l5.take (i + 1)) = loadN (l5.take i) + (if (l5[i]).f2 = true then 0 else 1) := by
        unfold loadN
        rw [List.take_add_one, List.getElem?_eq_getElem hlt, List.filter_append, List.length_append]
        cases hq : (l5[i]).f2 <;> simp [hq]
      rw [if_pos h, if_pos (by omega), rdE l5 i hlt, show wrap64 ((i : Int) + 1) = ((i + 1 : Nat) : Int) by unfold wrap64; omega]
      rw [hn] at nx
      by_cases hq : (l5[i]).f2 = true
      · rw [if_pos hq, Int.add_zero] at nx
        rw [if_pos hq]
        exact nx
      · rw [if_neg hq] at nx
        rw [if_neg hq, show wrap64 (loadN (l5.take i) + 1) = loadN (l5.take i) + 1 by (have h9 : loadN (l5.take i) ≤ (i : Int) ∧ 0 ≤ loadN (l5.take i) := ⟨Int.le_trans (Int.ofNat_le.2 (List.length_filter_le _ _)) (Int.ofNat_le.2 h6), Int.natCast_nonneg _⟩); unfold wrap64; omega]
        exact nx
    · obtain rfl : i = l5.length := by omega
      rw [if_neg h, List.take_length]
theorem rload_f (a0 a1 : Int) (l2 : List Si) (l3 : List He) (l4 : List Se) (l5 : List En) (a6 : Int) (hl : l5.length ≤ 1000) (k : Nat) (hk : l5.length < k) : wharfageref10_Load.f k a0 a1 l2 l3 l4 l5 a6 = some (loadN l5) :=
  rload_l0 a0 a1 l2 l3 l4 l5 a6 hl l5.length k 0 (by omega) hk (by omega)
theorem rfull_f (k : Nat) (a0 a1 : Int) (l2 : List Si) (l3 : List He) (l4 : List Se) (l5 : List En) (a6 : Int) (h3 : l3.length ≤ 9223372036854775806) (h4 : l4.length ≤ 9223372036854775806) (h5 : l5.length ≤ 9223372036854775806) (hk : l3.length + 2 * l4.length + l5.length * (l5.length + 2) + l5.length + 100 ≤ k) : wharfageref10_Full.f k a0 a1 l2 l3 l4 l5 a6 = some (if mayN a0 a1 l2 l3 l4 l5 = true then (fullB a0 a1 l2 l3 l5, 0) else (false, 1700)) := by
  unfold wharfageref10_Full.f
  rw [rmay_f k a0 a1 l2 l3 l4 l5 a6 h3 h4 h5 (by omega), Option.bind_some]
  by_cases hm : mayN a0 a1 l2 l3 l4 l5 = true
  · obtain ⟨m1, m2, m3, m4, m5⟩ := mayN_parts hm
    rw [if_pos hm, if_pos hm, rhas_f k a1 l2 a0 (by omega), Option.bind_some, m1]
    unfold fullB
    by_cases hin : 0 ≤ a0 ∧ a0 < (l2.length : Int)
    · rw [decide_eq_true hin, if_pos (show (true && true) = true from rfl), if_pos hin.1, if_pos hin.2, if_pos hin, bo_f a1 l2 a0 l3 h3 k (by omega)]
      unfold cand_Backs.f
      rw [Option.bind_some, rload_f a0 a1 l2 l3 l4 l5 a6 (by have := m5.2.2; omega) k (by omega)]
      by_cases h1 : (rd_T53 l2 a0).f1 = true
      · rw [if_pos h1, if_pos h1]
      · rw [if_neg h1, if_neg h1]
        by_cases h6 : cand_Backs.ok a1 l2 a0 l3 = true
        · rw [if_pos h6]
          simp only []
          rw [if_pos h6]
          by_cases h7 : (picked (rd_T53 l2 a0).f3 l3 (rd_T53 l2 a0).f3.length).length = 0
          · rw [if_pos h7, if_pos h7]
          · rw [if_neg h7, if_neg h7]
            rfl
        · rw [if_neg h6]
          simp only []
          rw [if_neg h6]
          first | rfl | simp
    · rw [decide_eq_false hin, if_neg hin]
      rfl
  · rw [if_neg hm, if_neg hm]
theorem rgL_f (k : Nat) (l2 : List Si) (l4 : List Se) (a0 now : Int) (h4 : l4.length + 2 < 3518437208883) (hk : l4.length + 1 ≤ k) : ∀ i, rgL k l2 l4 a0 now i = some (tgC l2 l4 a0 now i)
  | 0 => rfl
  | i + 1 => by
    show ((rgL k l2 l4 a0 now i).bind fun o => (wharfageref10_SpareOf.f k l4 (i : Int) now).bind fun s => some (o ++ tgOne a0 (i : Int) (rd_T53 l2 (i : Int)) s)) = _
    rw [rgL_f k l2 l4 a0 now h4 hk i, Option.bind_some, vw_spare2 l4 h4 k hk, Option.bind_some]
    rfl
theorem rtargets_f (k : Nat) (a0 a1 : Int) (l2 : List Si) (l3 : List He) (l4 : List Se) (l5 : List En) (a6 now : Int) (h3 : l3.length ≤ 9223372036854775806) (h4 : l4.length + 2 < 3518437208883) (h5 : l5.length ≤ 9223372036854775806) (hk : l3.length + 2 * l4.length + l5.length * (l5.length + 2) + 100 ≤ k) : wharfageref10_Targets.f k a0 a1 l2 l3 l4 l5 a6 now = some (if (mayN a0 a1 l2 l3 l4 l5 && timeOk now) = true then (tgC l2 l4 a0 now l2.length, 0) else ([], 1700)) := by
  unfold wharfageref10_Targets.f
  rw [rmay_f k a0 a1 l2 l3 l4 l5 a6 h3 (by omega) h5 hk, Option.bind_some, vw_now, rgL_f k l2 l4 a0 now h4 (by omega)]
  cases mayN a0 a1 l2 l3 l4 l5
  · rfl
  · rw [if_pos rfl, Option.bind_some]
    cases timeOk now
    · rfl
    · rfl

theorem sh_l0 (l : List He) (hl : l.length ≤ 9223372036854775806) (d : Nat) : ∀ (k i : Nat), l.length - i ≤ d → d < k → wharfagelaw0_SameHealths.l0 k l l (i : Int) = some true := by
  induction d with
  | zero =>
    intro k i hd hk
    obtain ⟨k, rfl⟩ : ∃ m, k = m + 1 := ⟨k - 1, by omega⟩
    simp only [wharfagelaw0_SameHealths.l0]
    rw [if_neg (by omega)]
  | succ d ih =>
    intro k i hd hk
    obtain ⟨k, rfl⟩ : ∃ m, k = m + 1 := ⟨k - 1, by omega⟩
    simp only [wharfagelaw0_SameHealths.l0]
    by_cases h : (i : Int) < (l.length : Int)
    · rw [if_pos h, if_pos (show (0 : Int) ≤ (i : Int) by omega), if_pos h, if_neg (by simp), show wrap64 ((i : Int) + 1) = ((i + 1 : Nat) : Int) by unfold wrap64; omega]
      exact ih k (i + 1) (by omega) (by omega)
    · rw [if_neg h]
theorem sh_f (l : List He) (hl : l.length ≤ 9223372036854775806) (k : Nat) (hk : l.length < k) : wharfagelaw0_SameHealths.f k l l = some true := by
  unfold wharfagelaw0_SameHealths.f
  rw [if_pos rfl]
  exact sh_l0 l hl l.length _ 0 (by omega) hk
theorem ss_l0 (l : List Se) (hl : l.length ≤ 9223372036854775806) (d : Nat) : ∀ (k i : Nat), l.length - i ≤ d → d < k → wharfagelaw0_SameSeens.l0 k l l (i : Int) = some true := by
  induction d with
  | zero =>
    intro k i hd hk
    obtain ⟨k, rfl⟩ : ∃ m, k = m + 1 := ⟨k - 1, by omega⟩
    simp only [wharfagelaw0_SameSeens.l0]
    rw [if_neg (by omega)]
  | succ d ih =>
    intro k i hd hk
    obtain ⟨k, rfl⟩ : ∃ m, k = m + 1 := ⟨k - 1, by omega⟩
    simp only [wharfagelaw0_SameSeens.l0]
    by_cases h : (i : Int) < (l.length : Int)
    · rw [if_pos h, if_pos (show (0 : Int) ≤ (i : Int) by omega), if_pos h, if_neg (by simp), show wrap64 ((i : Int) + 1) = ((i + 1 : Nat) : Int) by unfold wrap64; omega]
      exact ih k (i + 1) (by omega) (by omega)
    · rw [if_neg h]
theorem ss_f (l : List Se) (hl : l.length ≤ 9223372036854775806) (k : Nat) (hk : l.length < k) : wharfagelaw0_SameSeens.f k l l = some true := by
  unfold wharfagelaw0_SameSeens.f
  rw [if_pos rfl]
  exact ss_l0 l hl l.length _ 0 (by omega) hk
theorem se_l0 (l : List En) (hl : l.length ≤ 9223372036854775806) (d : Nat) : ∀ (k i : Nat), l.length - i ≤ d → d < k → wharfagelaw0_SameEntrys.l0 k l l (i : Int) = some true := by
  induction d with
  | zero =>
    intro k i hd hk
    obtain ⟨k, rfl⟩ : ∃ m, k = m + 1 := ⟨k - 1, by omega⟩
    simp only [wharfagelaw0_SameEntrys.l0]
    rw [if_neg (by omega)]
  | succ d ih =>
    intro k i hd hk
    obtain ⟨k, rfl⟩ : ∃ m, k = m + 1 := ⟨k - 1, by omega⟩
    simp only [wharfagelaw0_SameEntrys.l0]
    by_cases h : (i : Int) < (l.length : Int)
    · rw [if_pos h, if_pos (show (0 : Int) ≤ (i : Int) by omega), if_pos h, if_neg (by simp), show wrap64 ((i : Int) + 1) = ((i + 1 : Nat) : Int) by unfold wrap64; omega]
      exact ih k (i + 1) (by omega) (by omega)
    · rw [if_neg h]
theorem se_f (l : List En) (hl : l.length ≤ 9223372036854775806) (k : Nat) (hk : l.length < k) : wharfagelaw0_SameEntrys.f k l l = some true := by
  unfold wharfagelaw0_SameEntrys.f
  rw [if_pos rfl]
  exact se_l0 l hl l.length _ 0 (by omega) hk
theorem awake_fS (k : Nat) (hk : 60 ≤ k) : wharfagelaw17_awake.f k = some true := at_rounds wharfagelaw17_awake.mono (k := 60) hk (by kernel_rfl)
theorem num_fS (a : Int) : wharfagelaw0_Num.f a = some a := rfl
theorem scS_f (a : Int) (l : List Si) (hl : l.length < 2932031007402) (k : Nat) (hb : ∀ x ∈ l, x.f3.length < k ∧ x.f3.length < 8796093022208) : wharfagelaw0_SameConfig.f k a l a l = some true := by
  unfold wharfagelaw0_SameConfig.f
  rw [if_pos ⟨rfl, rfl, hl, hb⟩]
theorem sn_f (a0 a1 : Int) (l2 : List Si) (l3 : List He) (l4 : List Se) (l5 : List En) (a6 : Int) (hl : l2.length < 2932031007402) (h3 : l3.length < 8796093022208) (h4 : l4.length + 2 < 3518437208883) (h5 : l5.length < 1954687338268) (k : Nat) (hb : ∀ x ∈ l2, x.f3.length < k ∧ x.f3.length < 8796093022208) (hk : l3.length + l4.length + l5.length < k) : wharfagelaw0_SameNode.f k a0 a1 l2 l3 l4 l5 a6 a0 a1 l2 l3 l4 l5 a6 = some true := by
  unfold wharfagelaw0_SameNode.f
  rw [if_pos rfl, if_pos rfl, scS_f a1 l2 hl k hb, Option.bind_some, if_pos rfl, sh_f l3 (by omega) k (by omega), Option.bind_some, if_pos rfl, ss_f l4 (by omega) k (by omega), Option.bind_some, if_pos rfl, se_f l5 (by omega) k (by omega), Option.bind_some]
theorem spares_law (a0 a1 : Int) (l2 : List Si) (l3 : List He) (l4 : List Se) (l5 : List En) (a6 now : Int) (hl : l2.length < 2932031007402) (hb : ∀ x ∈ l2, x.f3.length < 8796093022208) (h3 : l3.length < 8796093022208) (h4 : l4.length + 2 < 3518437208883) (h5 : l5.length < 1954687338268) (k : Nat) (hk : 8796093022208 + l2.length + l3.length + 2 * l4.length + l5.length * (l5.length + 2) + l5.length + 100 ≤ k) : wharfagelaw17_Spares.f k a0 a1 l2 l3 l4 l5 a6 now = some true := by
  unfold wharfagelaw17_Spares.f
  rw [copyN_f a0 a1 l2 l3 l4 l5 a6 hl hb h3 (by omega) h5 k (by omega), Option.bind_some]
  simp only []
  rw [full_f k a0 a1 l2 l3 l4 l5 a6 (by omega) (by omega) (by omega) (by omega), rfull_f k a0 a1 l2 l3 l4 l5 a6 (by omega) (by omega) (by omega) (by omega), Option.bind_some, Option.bind_some, targets_f k a0 a1 l2 l3 l4 l5 a6 now (by omega) h4 (by omega) (by omega), rtargets_f k a0 a1 l2 l3 l4 l5 a6 now (by omega) h4 (by omega) (by omega), Option.bind_some, Option.bind_some]
  obtain ⟨F, hF⟩ : ∃ F, (if mayN a0 a1 l2 l3 l4 l5 = true then (fullB a0 a1 l2 l3 l5, (0 : Int)) else (false, 1700)) = F := ⟨_, rfl⟩
  obtain ⟨T, hT⟩ : ∃ T, (if (mayN a0 a1 l2 l3 l4 l5 && timeOk now) = true then (tgC l2 l4 a0 now l2.length, (0 : Int)) else ([], 1700)) = T := ⟨_, rfl⟩
  rw [hF, hT]
  have htl : T.1.length ≤ l2.length := by
    rw [← hT]
    split
    · exact tg_len l2 l4 a0 now l2.length
    · simp
  have e1 : (F.1 != F.1) = false := bne_self_eq_false _
  obtain ⟨q, hq⟩ := spo_f T.1 (by omega)
  have hs := at_rounds (fun k => wharfagelaw0_SameCandidates.mono T.1 T.1 k) (k := T.1.length + 1) (k' := k) (by omega) (sca_f T.1 (by omega))
  have hp := at_rounds (fun k => wharfagelaw0_SpoilCandidates.mono T.1 k) (k := T.1.length + 1) (k' := k) (by omega) hq
  rw [e1, if_neg (by decide), num_fS, Option.bind_some, if_pos rfl, hs, Option.bind_some, if_pos rfl, num_fS, Option.bind_some, if_pos rfl, hp, Option.bind_some, sn_f a0 a1 l2 l3 l4 l5 a6 hl h3 h4 h5 k (fun x hx => ⟨by have := hb x hx; omega, hb x hx⟩) (by omega), Option.bind_some, if_pos rfl, awake_fS k (by omega), Option.bind_some]
theorem Spares : wharfagelaw17_Spares.PureX := by
  rintro x now g _
  obtain ⟨_, g2, g3, g4, g5, _⟩ := g
  have h2 := g2.2
  have h3 := g3.2.1
  have h4 := g4.2.1
  have h5 := g5.2.1
  have h2l := h2.2.1
  exact ⟨8796093022208 + x.f1.f1.length + x.f2.length + 2 * x.f3.length + x.f4.length * (x.f4.length + 2) + x.f4.length + 100, spares_law _ _ _ _ _ _ _ _ (by omega) (fun s hs => by have := (h2.2.2 s hs).2.2.2.2.1; omega) (by omega) (by omega) (by omega) _ (Nat.le_refl _)⟩

end Go.Proofs.Ytlapbhgkmmeeoaa.Pure
