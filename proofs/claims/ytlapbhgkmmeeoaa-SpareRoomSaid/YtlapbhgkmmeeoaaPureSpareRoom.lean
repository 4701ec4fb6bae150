/- As long as flows that are here are fewer than its Cap a site that does not drain, and has somebody, is not full. -/
import Derived.Test.YtlapbhgkmmeeoaaPSpareRoomx29
import Derived.Test.YtlapbhgkmmeeoaaOpenSpareRoom
import Derived.Test.YtlapbhgkmmeeoaaNumMath
set_option linter.unusedVariables false
set_option linter.unusedSimpArgs false
namespace Go.Proofs.Ytlapbhgkmmeeoaa.Pure
open Go.RowKit Go.Proofs.Ytlapbhgkmmeeoaa.PSpareRoom Go.Proofs.YtlapbhgkmmeeoaaW.PrintWords Go.Proofs.YtlapbhgkmmeeoaaW.PrintLast Go.Proofs.YtlapbhgkmmeeoaaW.PrintMore Go.Proofs.Ytlapbhgkmmeeoaa.NumMath

def repOk (a b c d : Int) : Bool := decide ((0 ≤ a ∧ a < 3) ∧ (0 ≤ b ∧ b < 65536) ∧ (0 ≤ c ∧ c < 256) ∧ (0 ≤ d ∧ d < 256))
def timeOk (t : Int) : Bool := decide (0 ≤ t ∧ t ≤ 1048576)
def noneSeen (v : S91) : Bool := decide (v.f1 = -1 ∧ v.f0.f0 = 0 ∧ v.f0.f1 = 0 ∧ v.f0.f2 = 0 ∧ v.f0.f3 = 0)
def seenOk (i : Int) (v : S91) : Bool := noneSeen v || (timeOk v.f1 && repOk v.f0.f0 v.f0.f1 v.f0.f2 v.f0.f3 && decide (v.f0.f0 = i))
def seensOk : Nat → List S91 → Bool
  | _, [] => true
  | i, v :: r => seenOk (i : Int) v && seensOk (i + 1) r
def mayV (l : List S91) : Bool := seensOk 0 l && decide (l.length = 3)
theorem rep_plain (a b c d : Int) : report_May.f a b c d = some (repOk a b c d) := by
  have hin : ∀ x : Int, ip_In.f x 8 = some (decide (0 ≤ x ∧ x < 256)) := by
    intro x
    unfold ip_In.f
    by_cases h : x ≥ 0
    · have e : shr .i64 x (8 : Int) = x / 256 := rfl
      rw [if_pos h, if_pos (by omega), e]; congr 1
      rw [Bool.eq_iff_iff]; simp only [beq_iff_eq, decide_eq_true_eq]; omega
    · rw [if_neg h]; congr 1; simp; omega
  have hs : report_Site.f a = some (decide (0 ≤ a ∧ a < 3)) := by
    unfold report_Site.f
    by_cases h : a ≥ 0
    · rw [if_pos h]; congr 1; simp; omega
    · rw [if_neg h]; congr 1; simp; omega
  have hr : report_serial.f b = some (decide (0 ≤ b ∧ b < 65536)) := by
    unfold report_serial.f
    by_cases h : b ≥ 0
    · rw [if_pos h]; congr 1; simp; omega
    · rw [if_neg h]; congr 1; simp; omega
  unfold report_May.f repOk
  rw [hs, hr, hin, hin]
  simp only [Option.bind_some]
  by_cases h1 : 0 ≤ a ∧ a < 3 <;> by_cases h2 : 0 ≤ b ∧ b < 65536 <;> by_cases h3 : 0 ≤ c ∧ c < 256 <;> by_cases h4 : 0 ≤ d ∧ d < 256 <;> simp [h1, h2, h3, h4]
theorem time_plain (t : Int) : conf_Time.f t = some (timeOk t) := by
  unfold conf_Time.f conf_to.f timeOk
  by_cases h : t ≥ 0
  · rw [if_pos h]; simp; omega
  · rw [if_neg h]; simp; omega
theorem may_loop (x0 l : List S91) (hl : l.length ≤ 9223372036854775807) (d : Nat) : ∀ (k i : Nat), l.length - i ≤ d → 2 * d + 1 ≤ k → i ≤ l.length → view_May.l0 k x0 l (l.length : Int) (i : Int) = some (seensOk i (l.drop i) && (x0.length : Int) == 3) := by
  induction d with
  | zero =>
    intro k i hd hk hi
    obtain ⟨k, rfl⟩ : ∃ m, k = m + 1 := ⟨k - 1, by omega⟩
    simp only [view_May.l0]
    rw [if_neg (by omega), List.drop_of_length_le (by omega)]; rfl
  | succ d ih =>
    intro k i hd hk hi
    obtain ⟨k, rfl⟩ : ∃ m, k = m + 2 := ⟨k - 2, by omega⟩
    by_cases h : (i : Int) < (l.length : Int)
    · have hlt : i < l.length := by omega
      have e : rd_T91 l (i : Int) = l[i] := by simp [rd_T91, hlt]
      have next : ∀ k', 2 * d + 1 ≤ k' → view_May.l0 k' x0 l (l.length : Int) (wrap64 ((i : Int) + 1)) = some (seensOk (i + 1) (l.drop (i + 1)) && (x0.length : Int) == 3) := by
        intro k' hk'
        rw [show wrap64 ((i : Int) + 1) = ((i + 1 : Nat) : Int) by unfold wrap64; omega]
        exact ih k' (i + 1) (by omega) hk' (by omega)
      have nk := next k (by omega)
      rw [List.drop_eq_getElem_cons hlt]
      simp only [view_May.l0, view_May.j1]
      rw [if_pos h, if_pos (show (0 : Int) ≤ (i : Int) by omega), if_pos h, e]
      unfold seensOk seenOk
      rw [time_plain, rep_plain]
      simp only [Option.bind_some]
      by_cases hn : noneSeen l[i] = true
      · have hn2 := hn
        unfold noneSeen at hn2
        rw [decide_eq_true_eq] at hn2
        obtain ⟨h1, h2, h3, h4, h5⟩ := hn2
        rw [if_pos h1, h2, h3, h4, h5, if_pos (by decide), nk, hn]
        simp
      · rw [Bool.not_eq_true] at hn
        have hb : (if l[i].f1 = -1 then view_May.j1 (k + 1) x0 i ((l[i].f0.f0) == 0 && ((l[i].f0.f1) == 0 && ((l[i].f0.f2) == 0 && (l[i].f0.f3) == 0))) l (l.length : Int) i l[i].f0.f0 l[i].f0.f1 l[i].f0.f2 l[i].f0.f3 l[i].f1 else view_May.j1 (k + 1) x0 i false l (l.length : Int) i l[i].f0.f0 l[i].f0.f1 l[i].f0.f2 l[i].f0.f3 l[i].f1) = view_May.j1 (k + 1) x0 i false l (l.length : Int) i l[i].f0.f0 l[i].f0.f1 l[i].f0.f2 l[i].f0.f3 l[i].f1 := by
          by_cases h1 : l[i].f1 = -1
          · rw [if_pos h1]
            congr 1
            unfold noneSeen at hn
            rw [decide_eq_false_iff_not] at hn
            rw [Bool.eq_false_iff]
            intro hh
            simp only [Bool.and_eq_true, beq_iff_eq] at hh
            exact hn ⟨h1, hh.1, hh.2.1, hh.2.2.1, hh.2.2.2⟩
          · rw [if_neg h1]
        simp only [view_May.j1, time_plain, rep_plain, Option.bind_some, Bool.false_eq_true, if_false] at hb
        simp only [Bool.false_eq_true, if_false]
        rw [hb, nk, hn, Bool.false_or]
        cases timeOk l[i].f1
        · simp
        · cases repOk l[i].f0.f0 l[i].f0.f1 l[i].f0.f2 l[i].f0.f3
          · simp
          · by_cases hs : l[i].f0.f0 = (i : Int)
            · simp [hs]
            · simp [hs]
    · simp only [view_May.l0]
      rw [if_neg h, List.drop_of_length_le (by omega)]; rfl
theorem may_plain (l : List S91) (hl : l.length ≤ 9223372036854775807) (k : Nat) (hk : 2 * l.length + 1 ≤ k) : view_May.f k l = some (mayV l) := by
  have h := may_loop l l hl l.length k 0 (by omega) hk (by omega)
  unfold view_May.f mayV
  rw [show (0 : Int) = ((0 : Nat) : Int) from rfl, h, List.drop_zero]
  congr 2
  rw [Bool.eq_iff_iff, beq_iff_eq, decide_eq_true_eq]; omega
theorem vw_at (l : List S91) (hm : mayV l = true) (i : Nat) (hi : i < 3) : (rd_T91 l (i : Int)).f1 = -1 ∨ (0 ≤ (rd_T91 l (i : Int)).f1 ∧ (rd_T91 l (i : Int)).f1 ≤ 1048576 ∧ repOk (rd_T91 l (i : Int)).f0.f0 (rd_T91 l (i : Int)).f0.f1 (rd_T91 l (i : Int)).f0.f2 (rd_T91 l (i : Int)).f0.f3 = true) := by
  unfold mayV at hm
  simp only [Bool.and_eq_true, decide_eq_true_eq] at hm
  obtain ⟨hm, hl⟩ := hm
  match l, hl with
  | [a, b, c], _ =>
    simp only [seensOk, Bool.and_eq_true] at hm
    have key : ∀ (j : Int) (v : S91), seenOk j v = true → v.f1 = -1 ∨ (0 ≤ v.f1 ∧ v.f1 ≤ 1048576 ∧ repOk v.f0.f0 v.f0.f1 v.f0.f2 v.f0.f3 = true) := by
      intro j v h
      unfold seenOk at h
      rw [Bool.or_eq_true] at h
      rcases h with h | h
      · unfold noneSeen at h
        rw [decide_eq_true_eq] at h
        exact .inl h.1
      · simp only [Bool.and_eq_true] at h
        have ht := h.1.1
        unfold timeOk at ht
        rw [decide_eq_true_eq] at ht
        exact .inr ⟨ht.1, ht.2, h.1.2⟩
    obtain rfl | rfl | rfl : i = 0 ∨ i = 1 ∨ i = 2 := by omega
    · exact key _ _ hm.1
    · exact key _ _ hm.2.1
    · exact key _ _ hm.2.2.1
def spareV (l : List S91) (site now : Int) : Int × Bool × Int :=
  if (mayV l && (timeOk now && decide (0 ≤ site ∧ site < 3))) = true then
    (if (rd_T91 l site).f1 = -1 ∨ now < (rd_T91 l site).f1 ∨ 10 ≤ now - (rd_T91 l site).f1 then (0, false, 0) else ((if 0 < (rd_T91 l site).f0.f3 - (rd_T91 l site).f0.f2 then (rd_T91 l site).f0.f3 - (rd_T91 l site).f0.f2 else 0), true, 0))
  else (0, false, 1200)
theorem vw_spare (l : List S91) (hl : l.length + 2 < 3518437208883) (k : Nat) (hk : 2 * l.length + 1 ≤ k) (site now : Int) : view_Spare.f k l site now = some (spareV l site now) := by
  obtain ⟨k, rfl⟩ : ∃ m, k = m + 1 := ⟨k - 1, by omega⟩
  have j1 : view_Spare.j0 (k + 1) l site now true = some (0, false, 1200) := by simp only [view_Spare.j0]; rfl
  have hs : report_Site.f site = some (decide (0 ≤ site ∧ site < 3)) := by
    unfold report_Site.f
    by_cases h : site ≥ 0
    · rw [if_pos h]; congr 1; simp; omega
    · rw [if_neg h]; congr 1; simp; omega
  unfold view_Spare.f spareV
  rw [may_plain l (by omega) _ hk, time_plain, hs]
  simp only [Option.bind_some]
  cases hm : mayV l
  · rw [if_neg (by simp), j1]; rfl
  cases ht : timeOk now
  · rw [if_pos rfl, if_neg (by simp), j1]; rfl
  by_cases hsite : 0 ≤ site ∧ site < 3
  · rw [decide_eq_true hsite]
    obtain ⟨i, rfl⟩ := Int.eq_ofNat_of_zero_le hsite.1
    have h3 : l.length = 3 := by unfold mayV at hm; simp only [Bool.and_eq_true, decide_eq_true_eq] at hm; exact hm.2
    have hat := vw_at l hm i (by omega)
    have htn := ht
    unfold timeOk at htn
    rw [decide_eq_true_eq] at htn
    rw [if_pos rfl, if_pos rfl, if_pos (show (true && (true && true)) = true from rfl)]
    simp only [view_Spare.j0]
    rw [if_neg (show ¬ ((!true) = true) by decide), if_pos (by omega), if_pos (by omega)]
    rcases hat with h1 | ⟨h1, h2, h4⟩
    · rw [if_pos h1, if_pos (.inl h1)]
    · rw [if_neg (by omega)]
      have e1 : wrap64 (now - (rd_T91 l (i : Int)).f1) = now - (rd_T91 l (i : Int)).f1 := by unfold wrap64; omega
      rw [e1]
      by_cases g1 : now - (rd_T91 l (i : Int)).f1 < 0
      · rw [if_pos g1, if_pos (.inr (.inl (by omega)))]
      · rw [if_neg g1]
        by_cases g2 : now - (rd_T91 l (i : Int)).f1 ≥ 10
        · rw [if_pos g2, if_pos (.inr (.inr (by omega)))]
        · unfold repOk at h4
          rw [decide_eq_true_eq] at h4
          have e2 : wrap64 ((rd_T91 l (i : Int)).f0.f3 - (rd_T91 l (i : Int)).f0.f2) = (rd_T91 l (i : Int)).f0.f3 - (rd_T91 l (i : Int)).f0.f2 := by unfold wrap64; omega
          rw [if_neg g2, if_neg (by omega), e2]
          unfold mx
          split <;> split <;> first | rfl | (exfalso; omega) | (congr 2; omega)
  · rw [decide_eq_false hsite, if_pos rfl, if_pos rfl, if_neg (by simp)]; exact j1
def Fm (a b c d e : Int) : Prop := (0 ≤ a ∧ a < 4294967296) ∧ (0 ≤ b ∧ b < 4294967296) ∧ (c = 6 ∨ c = 17) ∧ (0 ≤ d ∧ d < 65536) ∧ (0 ≤ e ∧ e < 65536)
instance (a b c d e : Int) : Decidable (Fm a b c d e) := by unfold Fm; infer_instance
def Em (a b c d e t p u : Int) : Prop := Fm a b c d e ∧ (0 ≤ t ∧ t < 256) ∧ (0 ≤ p ∧ p ≤ 2) ∧ (0 ≤ u ∧ u ≤ 1048576)
instance (a b c d e t p u : Int) : Decidable (Em a b c d e t p u) := by unfold Em; infer_instance
theorem in_any (x : Int) (b n : Nat) (hb : b ≤ 64) (hn : 2 ^ b = n) : ip_In.f x (b : Int) = some (decide (0 ≤ x ∧ x < (n : Int))) := by
  unfold ip_In.f
  by_cases h : x ≥ 0
  · rw [if_pos h, if_pos (by omega)]
    have hn0 : 0 < n := by rw [← hn]; exact Nat.two_pow_pos b
    have e : shr .i64 x (b : Int) = x / (n : Int) := by
      unfold shr
      rw [Int.toNat_natCast, Nat.min_eq_left (by simpa [IntKind.bits] using hb), ← hn]
      simp
    rw [e]; congr 1
    rw [Bool.eq_iff_iff]
    simp only [beq_iff_eq, decide_eq_true_eq]
    constructor
    · intro hz
      refine ⟨h, ?_⟩
      have := Int.lt_ediv_add_one_mul_self x (show (0 : Int) < n by omega)
      rw [hz] at this
      omega
    · rintro ⟨_, hlt⟩
      exact Int.ediv_eq_zero_of_lt h hlt
  · rw [if_neg h]; congr 1; simp; omega
theorem in32 (x : Int) : ip_In.f x 32 = some (decide (0 ≤ x ∧ x < 4294967296)) := in_any x 32 4294967296 (by decide) (by decide)
theorem in16 (x : Int) : ip_In.f x 16 = some (decide (0 ≤ x ∧ x < 65536)) := in_any x 16 65536 (by decide) (by decide)
theorem in8 (x : Int) : ip_In.f x 8 = some (decide (0 ≤ x ∧ x < 256)) := in_any x 8 256 (by decide) (by decide)
theorem handled_f (c : Int) : flow_handled.f c = some (decide (c = 6 ∨ c = 17)) := by
  unfold flow_handled.f
  by_cases h : c = 6
  · simp [h]
  · rw [if_neg h]; simp [h]
    rfl
theorem flowMay_f (a b c d e : Int) : flow_May.f a b c d e = some (decide (Fm a b c d e)) := by
  unfold flow_May.f
  rw [in32, in32, in16, in16, handled_f]
  simp only [Option.bind_some]
  by_cases h1 : 0 ≤ a ∧ a < 4294967296 <;> by_cases h2 : 0 ≤ b ∧ b < 4294967296 <;> by_cases h3 : c = 6 ∨ c = 17 <;> by_cases h4 : 0 ≤ d ∧ d < 65536 <;> by_cases h5 : 0 ≤ e ∧ e < 65536 <;> simp [Fm, h1, h2, h3, h4, h5]
theorem to_f (x m : Int) : conf_to.f x m = some (decide (0 ≤ x ∧ x ≤ m)) := by
  unfold conf_to.f
  by_cases h : x ≥ 0
  · rw [if_pos h]; congr 1; simp; omega
  · rw [if_neg h]; congr 1; simp; omega
theorem time_f (x : Int) : conf_Time.f x = some (decide (0 ≤ x ∧ x ≤ 1048576)) := by
  unfold conf_Time.f
  rw [to_f]; rfl
theorem may_f (a : Int) : track_May.f a = some (decide (0 ≤ a ∧ a ≤ 2)) := by
  unfold track_May.f
  by_cases h : a ≥ 0
  · rw [if_pos h]; congr 1; simp; omega
  · rw [if_neg h]; congr 1; simp; omega
theorem entryMay_f (a b c d e t : Int) (z : Bool) (p u : Int) : entry_May.f a b c d e t z p u = some (decide (Em a b c d e t p u)) := by
  unfold entry_May.f
  rw [flowMay_f, in8, may_f, time_f]
  simp only [Option.bind_some]
  by_cases h1 : Fm a b c d e <;> by_cases h2 : 0 ≤ t ∧ t < 256 <;> by_cases h3 : 0 ≤ p ∧ p ≤ 2 <;> by_cases h4 : 0 ≤ u ∧ u ≤ 1048576 <;> simp [Em, h1, h2, h3, h4]
theorem num_f (a : Int) : wharfagelaw0_Num.f a = some a := rfl
abbrev En := S50
abbrev Fl := S48
def emB (x : En) : Bool := decide (Em x.f0.f0 x.f0.f1 x.f0.f2 x.f0.f3 x.f0.f4 x.f1 x.f3 x.f4)
theorem em_f (x : En) : entry_May.f x.f0.f0 x.f0.f1 x.f0.f2 x.f0.f3 x.f0.f4 x.f1 x.f2 x.f3 x.f4 = some (emB x) := entryMay_f _ _ _ _ _ _ _ _ _
theorem rdE (l : List En) (i : Nat) (h : i < l.length) : rd_T50 l (i : Int) = l[i] := by
  unfold rd_T50
  simp [List.getD, List.getElem?_eq_getElem h]
theorem idx_lo (f : Fl) : ∀ (l : List En) (n : Nat), idxFrom f l n = -1 ∨ (n : Int) ≤ idxFrom f l n
  | [], n => .inl rfl
  | x :: r, n => by
    unfold idxFrom
    split
    · exact .inr (Int.le_refl _)
    · rcases idx_lo f r (n + 1) with h | h
      · exact .inl h
      · exact .inr (by omega)
theorem idx_none (f : Fl) : ∀ (l : List En) (n : Nat), (∀ x ∈ l, x.f0 ≠ f) → idxFrom f l n = -1
  | [], n, _ => rfl
  | x :: r, n, h => by
    unfold idxFrom
    rw [if_neg (fun hb => h x List.mem_cons_self ((beqF_iff _ _).1 hb))]
    exact idx_none f r (n + 1) (fun y hy => h y (List.mem_cons_of_mem _ hy))
theorem idx_first (f : Fl) : ∀ (l : List En) (n j : Nat) (hj : j < l.length), (∀ i (hi : i < j), (l[i]'(by omega)).f0 ≠ f) → (l[j]).f0 = f → idxFrom f l n = ((n + j : Nat) : Int)
  | [], n, j, hj, _, _ => by simp at hj
  | x :: r, n, 0, _, _, he => by
    unfold idxFrom
    rw [if_pos (show beqF x.f0 f = true from (beqF_iff _ _).2 he)]
    rfl
  | x :: r, n, j + 1, hj, hn, he => by
    unfold idxFrom
    rw [if_neg (show ¬ (beqF x.f0 f = true) from fun hb => hn 0 (by omega) ((beqF_iff _ _).1 hb)), idx_first f r (n + 1) j (by simpa using hj) (fun i hi => hn (i + 1) (by omega)) he]
    congr 1
    omega
theorem idx_le (f : Fl) : ∀ (l : List En) (n i : Nat) (hi : i < l.length), (l[i]).f0 = f → idxFrom f l n ≤ ((n + i : Nat) : Int)
  | [], n, i, hi, _ => by simp at hi
  | x :: r, n, i, hi, he => by
    unfold idxFrom
    split
    · omega
    · rename_i hb
      cases i with
      | zero => exact absurd ((beqF_iff _ _).2 he) hb
      | succ i =>
        have := idx_le f r (n + 1) i (by simpa using hi) he
        omega
def Good (l : List En) : Prop := (∀ x ∈ l, emB x = true) ∧ l.Pairwise (fun a b => a.f0 ≠ b.f0) ∧ l.length ≤ 8
noncomputable instance (l : List En) : Decidable (Good l) := Classical.propDecidable _
theorem good_ix (l : List En) : Good l ↔ ((∀ j (hj : j < l.length), emB l[j] = true ∧ idxFrom (l[j]).f0 l 0 = (j : Int)) ∧ l.length ≤ 8) := by
  constructor
  · rintro ⟨h1, h2, h3⟩
    refine ⟨fun j hj => ⟨h1 _ (List.getElem_mem hj), ?_⟩, h3⟩
    have := idx_first (l[j]).f0 l 0 j hj (fun i hi => List.pairwise_iff_getElem.1 h2 i j (by omega) hj hi) rfl
    rw [this, Nat.zero_add]
  · rintro ⟨h1, h3⟩
    refine ⟨fun x hx => ?_, List.pairwise_iff_getElem.2 (fun i j hi hj hij he => ?_), h3⟩
    · obtain ⟨j, hj, rfl⟩ := List.getElem_of_mem hx
      exact (h1 j hj).1
    · have h4 := idx_le (l[j]).f0 l 0 i hi he
      rw [(h1 j hj).2] at h4
      omega
theorem may_l0 (l : List En) (hl : l.length ≤ 9223372036854775807) (d : Nat) : ∀ (k i : Nat), l.length - i ≤ d → d < k → i ≤ l.length → (∀ j (hj : j < l.length), j < i → emB l[j] = true ∧ idxFrom (l[j]).f0 l 0 = (j : Int)) → cache_May.l0 k l l (l.length : Int) (i : Int) = some (decide (Good l)) := by
  induction d with
  | zero =>
    intro k i hd hk hi hp
    obtain ⟨k, rfl⟩ : ∃ m, k = m + 1 := ⟨k - 1, by omega⟩
    simp only [cache_May.l0]
    rw [if_neg (by omega)]
    congr 1
    rw [decide_eq_decide, good_ix]
    constructor
    · intro h
      exact ⟨fun j hj => hp j hj (by omega), by omega⟩
    · intro h
      have := h.2
      omega
  | succ d ih =>
    intro k i hd hk hi hp
    obtain ⟨k, rfl⟩ : ∃ m, k = m + 1 := ⟨k - 1, by omega⟩
    simp only [cache_May.l0]
    by_cases h : (i : Int) < (l.length : Int)
    · have hlt : i < l.length := by omega
      rw [if_pos h, if_pos (show (0 : Int) ≤ (i : Int) by omega), if_pos h, rdE l i hlt, em_f, Option.bind_some]
      cases hb : emB l[i]
      · rw [if_neg (by simp)]
        congr 1
        rw [eq_comm, decide_eq_false_iff_not]
        intro hg
        rw [hg.1 _ (List.getElem_mem hlt)] at hb
        cases hb
      · rw [if_pos rfl]
        unfold cache_at.f
        rw [Option.bind_some]
        by_cases hx : idxFrom (l[i]).f0 l 0 = (i : Int)
        · rw [if_pos hx, show wrap64 ((i : Int) + 1) = ((i + 1 : Nat) : Int) by unfold wrap64; omega]
          refine ih k (i + 1) (by omega) (by omega) (by omega) (fun j hj hji => ?_)
          by_cases hj2 : j = i
          · subst hj2
            exact ⟨hb, hx⟩
          · exact hp j hj (by omega)
        · rw [if_neg hx]
          congr 1
          rw [eq_comm, decide_eq_false_iff_not]
          intro hg
          exact hx (((good_ix l).1 hg).1 i hlt).2
    · rw [if_neg h]
      congr 1
      rw [decide_eq_decide, good_ix]
      constructor
      · intro h
        exact ⟨fun j hj => hp j hj (by omega), by omega⟩
      · intro h
        have := h.2
        omega
theorem mayE_f (l : List En) (k : Nat) (hl : l.length < k) (hl2 : l.length ≤ 9223372036854775807) : cache_May.f k l = some (decide (Good l)) := may_l0 l hl2 l.length k 0 (by omega) hl (by omega) (fun j _ h => absurd h (by omega))
theorem all_k (l : List S86) (n : Int) (hl : l.length ≤ 9223372036854775807) (k : Nat) (hk : l.length + 2 ≤ k) : health_All.f k l n = some (allB l n) := by
  have := all_loop l l n hl l.length k 0 (by omega) (by omega) (by omega)
  exact this
abbrev Si := S53
abbrev He := S86
abbrev Se := S91
abbrev Ca := S70
theorem site_f (a : Int) : report_Site.f a = some (decide (0 ≤ a ∧ a < 3)) := by
  unfold report_Site.f
  by_cases h : a ≥ 0
  · rw [if_pos h]; congr 1; simp; omega
  · rw [if_neg h]; congr 1; simp; omega
/-- May what is asked of a node be? -/
noncomputable def mayN (a0 a1 : Int) (l2 : List Si) (l3 : List He) (l4 : List Se) (l5 : List En) : Bool := mayC a1 l2 && (decide (0 ≤ a0 ∧ a0 < 3) && (allB l3 4 && (mayV l4 && decide (Good l5))))
theorem mayN_f (k : Nat) (a0 a1 : Int) (l2 : List Si) (l3 : List He) (l4 : List Se) (l5 : List En) (a6 : Int) (h3 : l3.length ≤ 9223372036854775807) (h4 : l4.length ≤ 9223372036854775807) (h5 : l5.length ≤ 9223372036854775807) (hk : l3.length + 2 * l4.length + l5.length + 3 ≤ k) : spare_May.f k a0 a1 l2 l3 l4 l5 a6 = some (mayN a0 a1 l2 l3 l4 l5) := by
  unfold spare_May.f mayN
  rw [show conf_May.f a1 l2 = some (mayC a1 l2) from rfl, Option.bind_some, site_f, all_k l3 4 h3 k (by omega), may_plain l4 h4 k (by omega), mayE_f l5 k (by omega) h5]
  cases mayC a1 l2
  · rfl
  · rw [if_pos rfl, Option.bind_some]
    cases decide (0 ≤ a0 ∧ a0 < 3)
    · rfl
    · rw [if_pos rfl, Option.bind_some]
      cases allB l3 4
      · rfl
      · rw [if_pos rfl, Option.bind_some]
        cases mayV l4
        · rfl
        · rfl
theorem mayN_parts {a0 a1 : Int} {l2 : List Si} {l3 : List He} {l4 : List Se} {l5 : List En} (h : mayN a0 a1 l2 l3 l4 l5 = true) : mayC a1 l2 = true ∧ (0 ≤ a0 ∧ a0 < 3) ∧ allB l3 4 = true ∧ mayV l4 = true ∧ Good l5 := by
  unfold mayN at h
  simp only [Bool.and_eq_true, decide_eq_true_eq] at h
  exact ⟨h.1, h.2.1, h.2.2.1, h.2.2.2.1, h.2.2.2.2⟩
theorem mayC_len {v : Int} {l : List Si} (h : mayC v l = true) : l.length ≤ 3 := by
  unfold mayC at h; simp only [Bool.and_eq_true, decide_eq_true_eq] at h; exact h.2
theorem mayV_len {l : List Se} (h : mayV l = true) : l.length = 3 := by
  unfold mayV at h; simp only [Bool.and_eq_true, decide_eq_true_eq] at h; exact h.2
def tgC (l2 : List Si) (l4 : List Se) (a0 now : Int) : Nat → List Ca
  | 0 => []
  | i + 1 => tgC l2 l4 a0 now i ++ tgOne a0 (i : Int) (rd_T53 l2 (i : Int)) (spareV l4 (i : Int) now)
theorem tgL_f (k : Nat) (l2 : List Si) (l4 : List Se) (a0 now : Int) (h4 : l4.length + 2 < 3518437208883) (hk : 2 * l4.length + 1 ≤ k) : ∀ i, tgL k l2 l4 a0 now i = some (tgC l2 l4 a0 now i)
  | 0 => rfl
  | i + 1 => by
    show ((tgL k l2 l4 a0 now i).bind fun o => (view_Spare.f k l4 (i : Int) now).bind fun s => some (o ++ tgOne a0 (i : Int) (rd_T53 l2 (i : Int)) s)) = _
    rw [tgL_f k l2 l4 a0 now h4 hk i, Option.bind_some, vw_spare l4 h4 k hk, Option.bind_some]
    rfl
theorem tg_len (l2 : List Si) (l4 : List Se) (a0 now : Int) : ∀ i, (tgC l2 l4 a0 now i).length ≤ i
  | 0 => Nat.le_refl _
  | i + 1 => by
    have h := tg_len l2 l4 a0 now i
    have h3 : (tgOne a0 (i : Int) (rd_T53 l2 (i : Int)) (spareV l4 (i : Int) now)).length ≤ 1 := by unfold tgOne; split <;> simp
    show (tgC l2 l4 a0 now i ++ _).length ≤ _
    rw [List.length_append]
    omega
theorem tg_mem (l2 : List Si) (l4 : List Se) (a0 now : Int) : ∀ (n : Nat) (c : Ca), c ∈ tgC l2 l4 a0 now n → ∃ i : Nat, i < n ∧ ((i : Int) ≠ a0 ∧ (rd_T53 l2 (i : Int)).f1 = false ∧ 0 < (rd_T53 l2 (i : Int)).f0 ∧ (spareV l4 (i : Int) now).2.1 = true ∧ 0 < (spareV l4 (i : Int) now).1) ∧ c = ⟨(i : Int), mn (spareV l4 (i : Int) now).1 16⟩
  | 0, c, h => by cases h
  | n + 1, c, h => by
    rcases List.mem_append.1 h with h | h
    · obtain ⟨i, hi, hc⟩ := tg_mem l2 l4 a0 now n c h
      exact ⟨i, by omega, hc⟩
    · unfold tgOne at h
      split at h
      · rename_i hc
        exact ⟨n, by omega, hc, List.mem_singleton.1 h⟩
      · cases h
theorem sp_true (l : List Se) (i : Nat) (hi : i < 3) (hm : mayV l = true) (now : Int) (h : (spareV l (i : Int) now).2.1 = true) : 0 ≤ (rd_T91 l (i : Int)).f1 ∧ (rd_T91 l (i : Int)).f1 ≤ now ∧ now - (rd_T91 l (i : Int)).f1 < 10 ∧ (spareV l (i : Int) now).1 = (if 0 < (rd_T91 l (i : Int)).f0.f3 - (rd_T91 l (i : Int)).f0.f2 then (rd_T91 l (i : Int)).f0.f3 - (rd_T91 l (i : Int)).f0.f2 else 0) ∧ ((0 ≤ (rd_T91 l (i : Int)).f0.f2 ∧ (rd_T91 l (i : Int)).f0.f2 < 256) ∧ (0 ≤ (rd_T91 l (i : Int)).f0.f3 ∧ (rd_T91 l (i : Int)).f0.f3 < 256)) := by
  have hat := vw_at l hm i hi
  unfold spareV at h ⊢
  split at h
  · rename_i h1
    rw [if_pos h1]
    split at h
    · cases h
    · rename_i h2
      rw [if_neg h2]
      rcases hat with h3 | ⟨h3, _, h5⟩
      · exact absurd (.inl h3) h2
      · unfold repOk at h5
        rw [decide_eq_true_eq] at h5
        refine ⟨h3, ?_, ?_, rfl, h5.2.2.1, h5.2.2.2⟩
        · have := fun q => h2 (.inr (.inl q)); omega
        · have := fun q => h2 (.inr (.inr q)); omega
  · cases h
theorem rdC (l : List Ca) (i : Nat) (h : i < l.length) : rd_T70 l (i : Int) = l[i] := by simp [rd_T70, h]
theorem targets_f (k : Nat) (a0 a1 : Int) (l2 : List Si) (l3 : List He) (l4 : List Se) (l5 : List En) (a6 now : Int) (h3 : l3.length ≤ 9223372036854775807) (h4 : l4.length + 2 < 3518437208883) (h5 : l5.length ≤ 9223372036854775807) (hk : l3.length + 2 * l4.length + l5.length + 3 ≤ k) : spare_Targets.f k a0 a1 l2 l3 l4 l5 a6 now = some (if (mayN a0 a1 l2 l3 l4 l5 && timeOk now) = true then (tgC l2 l4 a0 now l2.length, 0) else ([], 1700)) := by
  unfold spare_Targets.f
  rw [mayN_f k a0 a1 l2 l3 l4 l5 a6 h3 (by omega) h5 hk, Option.bind_some, time_plain, tgL_f k l2 l4 a0 now h4 (by omega)]
  cases mayN a0 a1 l2 l3 l4 l5
  · rfl
  · cases timeOk now
    · rfl
    · rfl

def fullB (a0 a1 : Int) (l2 : List Si) (l3 : List He) (l5 : List En) : Bool :=
  if 0 ≤ a0 ∧ a0 < (l2.length : Int) then (if (rd_T53 l2 a0).f1 = true then true else (if (if cand_Backs.ok a1 l2 a0 l3 = true then picked (rd_T53 l2 a0).f3 l3 (rd_T53 l2 a0).f3.length else []).length = 0 then true else decide (loadN l5 ≥ (rd_T53 l2 a0).f2))) else true
theorem full_f (k : Nat) (a0 a1 : Int) (l2 : List Si) (l3 : List He) (l4 : List Se) (l5 : List En) (a6 : Int) (h3 : l3.length ≤ 9223372036854775807) (h4 : l4.length ≤ 9223372036854775807) (h5 : l5.length ≤ 9223372036854775807) (hk : l3.length + 2 * l4.length + l5.length + 3 ≤ k) : spare_Full.f k a0 a1 l2 l3 l4 l5 a6 = some (if mayN a0 a1 l2 l3 l4 l5 = true then (fullB a0 a1 l2 l3 l5, 0) else (false, 1700)) := by
  unfold spare_Full.f
  rw [mayN_f k a0 a1 l2 l3 l4 l5 a6 h3 h4 h5 hk, Option.bind_some]
  cases mayN a0 a1 l2 l3 l4 l5
  · rfl
  · rw [if_pos rfl, if_pos rfl]
    unfold cand_Backs.f fullB
    rw [Option.bind_some]
    by_cases h0 : 0 ≤ a0
    · rw [if_pos h0]
      by_cases h1 : a0 < (l2.length : Int)
      · rw [if_pos h1, if_pos (show 0 ≤ a0 ∧ a0 < (l2.length : Int) from ⟨h0, h1⟩)]
        by_cases h2 : (rd_T53 l2 a0).f1 = true
        · rw [if_pos h2, if_pos h2]
        · rw [if_neg h2, if_neg h2]
          by_cases h6 : cand_Backs.ok a1 l2 a0 l3 = true
          · rw [if_pos h6]
            simp only []
            rw [if_pos h6]
            by_cases h7 : (picked (rd_T53 l2 a0).f3 l3 (rd_T53 l2 a0).f3.length).length = 0
            · rw [if_pos h7, if_pos h7]
            · rw [if_neg h7, if_neg h7]
          · rw [if_neg h6]
            simp only []
            rw [if_neg h6]
            first | rfl | simp
      · rw [if_neg h1, if_neg (fun q => h1 q.2)]
    · rw [if_neg h0, if_neg (fun q => h0 q.1)]

theorem rdS (l : List Si) (i : Nat) (h : i < l.length) : rd_T53 l (i : Int) = l[i] := by simp [rd_T53, h]
theorem copy_l0 (v : Int) (l : List Si) (hl : l.length < 2932031007402) (hb : ∀ x ∈ l, x.f3.length < 8796093022208) (d : Nat) : ∀ (k i : Nat), l.length - i ≤ d → d < k → i ≤ l.length → wharfagelaw0_CopyConfig.l0 k (i : Int) v l v (l.take i) = some (v, l) := by
  induction d with
  | zero =>
    intro k i hd hk hi
    obtain ⟨k, rfl⟩ : ∃ m, k = m + 1 := ⟨k - 1, by omega⟩
    obtain rfl : i = l.length := by omega
    simp only [wharfagelaw0_CopyConfig.l0]
    rw [if_neg (by omega), List.take_length]
  | succ d ih =>
    intro k i hd hk hi
    obtain ⟨k, rfl⟩ : ∃ m, k = m + 1 := ⟨k - 1, by omega⟩
    simp only [wharfagelaw0_CopyConfig.l0]
    by_cases h : (i : Int) < (l.length : Int)
    · have hlt : i < l.length := by omega
      have hx := hb l[i] (List.getElem_mem hlt)
      have ht : (l.take i).length ≤ i := List.length_take_le _ _
      have e : (⟨(l[i]).f0, (l[i]).f1, (l[i]).f2, (l[i]).f3⟩ : Si) = l[i] := rfl
      rw [if_pos h, if_pos (by omega), Option.bind_some, rdS l i hlt]
      simp only [List.nil_append, List.length_nil, Nat.zero_add]
      rw [if_pos hx, if_pos (by omega), e, show wrap64 ((i : Int) + 1) = ((i + 1 : Nat) : Int) by unfold wrap64; omega]
      have nx := ih k (i + 1) (by omega) (by omega) (by omega)
      rw [List.take_add_one, List.getElem?_eq_getElem hlt] at nx
      exact nx
    · obtain rfl : i = l.length := by omega
      rw [if_neg h, List.take_length]
theorem copyC_f (v : Int) (l : List Si) (hl : l.length < 2932031007402) (hb : ∀ x ∈ l, x.f3.length < 8796093022208) (k : Nat) (hk : l.length < k) : wharfagelaw0_CopyConfig.f k v l = some (v, l) := by
  unfold wharfagelaw0_CopyConfig.f
  exact copy_l0 v l hl hb l.length k 0 (by omega) hk (by omega)
theorem copyN_f (a0 a1 : Int) (l2 : List Si) (l3 : List He) (l4 : List Se) (l5 : List En) (a6 : Int) (hl : l2.length < 2932031007402) (hb : ∀ x ∈ l2, x.f3.length < 8796093022208) (h3 : l3.length < 8796093022208) (h4 : l4.length < 3518437208883) (h5 : l5.length < 1954687338268) (k : Nat) (hk : l2.length < k) : wharfagelaw0_CopyNode.f k a0 a1 l2 l3 l4 l5 a6 = some (a0, a1, l2, l3, l4, l5, a6) := by
  unfold wharfagelaw0_CopyNode.f
  rw [copyC_f a1 l2 hl hb k hk, Option.bind_some, if_pos ⟨h3, h4, h5⟩]

theorem good_nil0 : Good [] := ⟨by simp, List.Pairwise.nil, by simp⟩
theorem awake_f (k : Nat) (hk : 60 ≤ k) : wharfagelaw17_awake.f k = some true := at_rounds wharfagelaw17_awake.mono (k := 60) hk (by kernel_rfl)
theorem num_f2 (a : Int) : wharfagelaw0_Num.f a = some a := rfl
theorem load_loop (a0 a1 : Int) (l2 : List Si) (l3 : List He) (l4 : List Se) (l5 : List En) (a6 : Int) (is : Bool) (ha : 0 ≤ a0 ∧ a0 < (l2.length : Int)) (hl : l5.length ≤ 1000) (d : Nat) : ∀ (k i : Nat), l5.length - i ≤ d → d < k → i ≤ l5.length → wharfagelaw17_SpareRoom.l0 k is (loadN (l5.take i)) (i : Int) a0 a1 l2 l3 l4 l5 a6 = some (is == decide (loadN l5 ≥ (rd_T53 l2 a0).f2)) := by
  induction d with
  | zero =>
    intro k i hd hk hi
    obtain ⟨k, rfl⟩ : ∃ m, k = m + 1 := ⟨k - 1, by omega⟩
    obtain rfl : i = l5.length := by omega
    simp only [wharfagelaw17_SpareRoom.l0]
    rw [if_neg (by omega), if_pos ha.1, if_pos ha.2, List.take_length]
  | succ d ih =>
    intro k i hd hk hi
    obtain ⟨k, rfl⟩ : ∃ m, k = m + 1 := ⟨k - 1, by omega⟩
    simp only [wharfagelaw17_SpareRoom.l0]
    by_cases h : (i : Int) < (l5.length : Int)
    · have hlt : i < l5.length := by omega
      have nx := ih k (i + 1) (by omega) (by omega) (by omega)
      have h6 : (l5.take i).length ≤ i := List.length_take_le _ _
      have h7 := List.length_filter_le (fun p : En => !p.f2) (l5.take i)
      have hn : loadN (l5.take (i + 1)) = loadN (l5.take i) + (if (l5[i]).f2 = true then 0 else 1) := by
        unfold loadN
        rw [List.take_add_one, List.getElem?_eq_getElem hlt, List.filter_append, List.length_append]
        cases hq : (l5[i]).f2 <;> simp [hq]
      rw [if_pos h, if_pos (by omega), rdE l5 i hlt, show wrap64 ((i : Int) + 1) = ((i + 1 : Nat) : Int) by unfold wrap64; omega]
      rw [hn] at nx
      by_cases hq : (l5[i]).f2 = true
      · rw [if_pos hq, Int.add_zero] at nx
        rw [if_pos hq]
        exact nx
      · rw [if_neg hq] at nx
        rw [if_neg hq, show wrap64 (loadN (l5.take i) + 1) = loadN (l5.take i) + 1 by (have h9 : loadN (l5.take i) ≤ (i : Int) ∧ 0 ≤ loadN (l5.take i) := ⟨Int.le_trans (Int.ofNat_le.2 (List.length_filter_le _ _)) (Int.ofNat_le.2 h6), Int.natCast_nonneg _⟩); unfold wrap64; omega]
        exact nx
    · obtain rfl : i = l5.length := by omega
      rw [if_neg h, if_pos ha.1, if_pos ha.2, List.take_length]
theorem loadN_nonneg (l : List En) : 0 ≤ loadN l := by unfold loadN; omega
theorem room_law (a0 a1 : Int) (l2 : List Si) (l3 : List He) (l4 : List Se) (l5 : List En) (a6 : Int) (hl : l2.length < 2932031007402) (hb : ∀ x ∈ l2, x.f3.length < 8796093022208) (h3 : l3.length < 8796093022208) (h4 : l4.length < 3518437208883) (h5 : l5.length < 1954687338268) (k : Nat) (hk : l2.length + l3.length + 2 * l4.length + l5.length + 100 ≤ k) : wharfagelaw17_SpareRoom.f k a0 a1 l2 l3 l4 l5 a6 = some true := by
  unfold wharfagelaw17_SpareRoom.f
  rw [awake_f k (by omega), Option.bind_some, if_pos rfl, full_f k a0 a1 l2 l3 l4 l5 a6 (by omega) (by omega) (by omega) (by omega), Option.bind_some]
  by_cases hm : mayN a0 a1 l2 l3 l4 l5 = true
  · obtain ⟨m1, m2, m3, m4, m5⟩ := mayN_parts hm
    have hm0 : mayN a0 a1 l2 l3 l4 [] = true := by
      unfold mayN
      rw [m1, m3, m4, decide_eq_true m2, decide_eq_true good_nil0]
      rfl
    rw [if_pos hm, num_f2, Option.bind_some, if_pos rfl, copyN_f a0 a1 l2 l3 l4 l5 a6 hl hb h3 h4 h5 k (by omega), Option.bind_some]
    simp only []
    rw [full_f k a0 a1 l2 l3 l4 [] a6 (by omega) (by omega) (by simp) (by simp; omega), Option.bind_some, if_pos hm0, num_f2, Option.bind_some, if_pos rfl]
    simp only []
    by_cases hin : 0 ≤ a0 ∧ a0 < (l2.length : Int)
    · have h8 := m5.2.2
      have hl0 := load_loop a0 a1 l2 l3 l4 l5 a6 (fullB a0 a1 l2 l3 l5) hin (by omega) l5.length k 0 (by omega) (by omega) (by omega)
      rw [show loadN (l5.take 0) = 0 from rfl, show ((0 : Nat) : Int) = 0 from rfl] at hl0
      unfold fullB at hl0 ⊢
      rw [if_pos hin] at hl0
      simp only [if_pos hin]
      by_cases h1 : (rd_T53 l2 a0).f1 = true
      · simp only [if_pos h1, if_true]
      · rw [if_neg h1] at hl0
        simp only [if_neg h1]
        by_cases h2 : (if cand_Backs.ok a1 l2 a0 l3 = true then picked (rd_T53 l2 a0).f3 l3 (rd_T53 l2 a0).f3.length else []).length = 0
        · simp only [if_pos h2, if_true]
        · rw [if_neg h2] at hl0
          simp only [if_neg h2]
          have hz : loadN ([] : List En) = 0 := rfl
          have hn := loadN_nonneg l5
          by_cases h6 : (rd_T53 l2 a0).f2 ≤ 0
          · rw [hz, if_pos (decide_eq_true h6), if_pos (decide_eq_true (show loadN l5 ≥ _ by omega))]
          · rw [hz, decide_eq_false (show ¬ (0 : Int) ≥ (rd_T53 l2 a0).f2 by omega), if_neg (by decide), if_neg (by omega), if_neg (by omega), hl0]
            simp
    · unfold fullB
      rw [if_neg hin]
      simp only [if_true]
      first | done | rfl | (split <;> first | rfl | simp_all) | (simp_all; done)
  · rw [if_neg hm, num_f2, Option.bind_some, if_neg (by decide)]
    rfl
theorem SpareRoom : wharfagelaw17_SpareRoom.PureX := by
  rintro x g
  obtain ⟨_, g2, g3, g4, g5, _⟩ := g
  have h2 := g2.2
  have h3 := g3.2.1
  have h4 := g4.2.1
  have h5 := g5.2.1
  have h2l := h2.2.1
  exact ⟨x.f1.f1.length + x.f2.length + 2 * x.f3.length + x.f4.length + 100, room_law _ _ _ _ _ _ _ (by omega) (fun s hs => by have := (h2.2.2 s hs).2.2.2.2.1; omega) (by omega) (by omega) (by omega) _ (Nat.le_refl _)⟩

end Go.Proofs.Ytlapbhgkmmeeoaa.Pure
