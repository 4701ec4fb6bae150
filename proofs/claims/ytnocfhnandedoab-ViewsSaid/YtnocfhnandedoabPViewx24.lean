/- Contracts: what calls of these functions of the program do, each as a plain function; written by a program of this session. -/
import Derived.Test.YtnocfhnandedoabPViewx0
import Derived.Test.YtnocfhnandedoabPViewx3
import Derived.Test.YtnocfhnandedoabPViewx5
import Derived.Test.YtnocfhnandedoabPViewx7
import Derived.Test.YtnocfhnandedoabPViewx8
import Derived.Test.YtnocfhnandedoabPViewx9
import Derived.Test.YtnocfhnandedoabPViewx10
import Derived.Test.YtnocfhnandedoabPViewx11
import Derived.Test.YtnocfhnandedoabPViewx14
import Derived.Test.YtnocfhnandedoabPViewx16
import Derived.Test.YtnocfhnandedoabPViewx17
import Derived.Test.YtnocfhnandedoabPViewx18
import Derived.Test.YtnocfhnandedoabPViewx19
import Derived.Test.YtnocfhnandedoabPViewx20
import Derived.Test.YtnocfhnandedoabPViewx21
import Derived.Test.YtnocfhnandedoabPViewx22
import Derived.Test.YtnocfhnandedoabPViewx23
namespace Go.Proofs.Ytnocfhnandedoab.PView
open Go.RowKit Go.Proofs.YtnocfhnandedoabW.PrintWords Go.Proofs.YtnocfhnandedoabW.PrintLast Go.Proofs.YtnocfhnandedoabW.PrintMore
attribute [local go_sem] max2_int min2_int max_two min_two max_three min_three max_four min_four   -- for this text's walks alone
set_option linter.unusedVariables false
set_option linter.unusedSimpArgs false

/-! ### wharfagelaw12_Views: function 10, by hand -/
def wharfagelaw12_Views.f (l0 : List S85) (a1_0 a1_1 a1_2 a1_3 a2 a3 : Int) : Option Bool := if l0.length + 2 < 3518437208883 then some true else none
theorem vw_rep (a b c d : Int) : wharfageref1_ReportMay.f a b c d = some (repOk a b c d) := by
  have hin : ∀ x : Int, wharfageref1_within.f x 8 = some (decide (0 ≤ x ∧ x < 256)) := by
    intro x
    unfold wharfageref1_within.f
    by_cases h : x ≥ 0
    · have e : shl .i64 1 (8 : Int) = 256 := by kernel_rfl
      rw [if_pos h, if_pos (by omega), e]; congr 1
      exact decide_eq_decide.2 (by omega)
    · rw [if_neg h]; congr 1; simp; omega
  unfold wharfageref1_ReportMay.f repOk
  rw [hin, hin]
  simp only [Option.bind_some]
  by_cases h1 : a ≥ 0
  · rw [if_pos h1]
    by_cases h2 : a < 3
    · rw [if_pos h2]
      by_cases h3 : b ≥ 0
      · rw [if_pos h3]
        by_cases h4 : b < 65536
        · rw [if_pos h4]
          by_cases h5 : 0 ≤ c ∧ c < 256 <;> by_cases h6 : 0 ≤ d ∧ d < 256 <;> simp [h1, h2, h3, h4, h5, h6]
        · rw [if_neg h4]; congr 1; exact (decide_eq_false (by omega)).symm
      · rw [if_neg h3]; congr 1; exact (decide_eq_false (by omega)).symm
    · rw [if_neg h2]; congr 1; exact (decide_eq_false (by omega)).symm
  · rw [if_neg h1]; congr 1; exact (decide_eq_false (by omega)).symm
theorem vw_now (t : Int) : wharfageref10_nowMay.f t = some (timeOk t) := by
  unfold wharfageref10_nowMay.f timeOk
  by_cases h : t ≥ 0
  · rw [if_pos h]; simp; omega
  · rw [if_neg h]; simp; omega
theorem vw_newer (a b : Int) : ∃ q, wharfageref1_Newer.f a b = some (newerB a b, q) := by
  unfold wharfageref1_Newer.f newerB
  by_cases h1 : a < 0
  · rw [if_pos h1, decide_eq_false (by omega)]; exact ⟨_, rfl⟩
  rw [if_neg h1]
  by_cases h2 : a ≥ 65536
  · rw [if_pos h2, decide_eq_false (by omega)]; exact ⟨_, rfl⟩
  rw [if_neg h2]
  by_cases h3 : b < 0
  · rw [if_pos h3, decide_eq_false (by omega)]; exact ⟨_, rfl⟩
  rw [if_neg h3]
  by_cases h4 : b ≥ 65536
  · rw [if_pos h4, decide_eq_false (by omega)]; exact ⟨_, rfl⟩
  rw [if_neg h4]
  have e : Int.tmod (wrap64 ((wrap64 (a - b)) + 65536)) 65536 = (a - b) % 65536 := by
    have e1 : wrap64 (a - b) = a - b := by unfold wrap64; omega
    have e2 : wrap64 (a - b + 65536) = a - b + 65536 := by unfold wrap64; omega
    rw [e1, e2, Int.tmod_eq_emod_of_nonneg (by omega)]; omega
  rw [e]
  by_cases h5 : (a - b) % 65536 ≥ 1
  · rw [if_pos h5]
    exact ⟨0, by congr 2; exact decide_eq_decide.2 (by omega)⟩
  · rw [if_neg h5, decide_eq_false (by omega)]; exact ⟨_, rfl⟩
theorem vw_may_l0 (l : List S85) (hl : l.length ≤ 9223372036854775806) (d : Nat) : ∀ (k i : Nat), l.length - i ≤ d → d + 1 ≤ k → i ≤ l.length → wharfageref10_ViewMay.l0 k l (i : Int) = some (seensOk i (l.drop i) && (l.length : Int) == 3) := by
  induction d with
  | zero =>
    intro k i hd hk hi
    obtain ⟨k, rfl⟩ : ∃ m, k = m + 1 := ⟨k - 1, by omega⟩
    simp only [wharfageref10_ViewMay.l0]
    rw [if_neg (by omega), List.drop_of_length_le (by omega)]; rfl
  | succ d ih =>
    intro k i hd hk hi
    obtain ⟨k, rfl⟩ : ∃ m, k = m + 1 := ⟨k - 1, by omega⟩
    by_cases h : (i : Int) < (l.length : Int)
    · have hlt : i < l.length := by omega
      have e : rd_T85 l (i : Int) = l[i] := by simp [rd_T85, hlt]
      have nk : wharfageref10_ViewMay.l0 k l (wrap64 ((i : Int) + 1)) = some (seensOk (i + 1) (l.drop (i + 1)) && (l.length : Int) == 3) := by
        rw [show wrap64 ((i : Int) + 1) = ((i + 1 : Nat) : Int) by unfold wrap64; omega]
        exact ih k (i + 1) (by omega) (by omega) (by omega)
      rw [List.drop_eq_getElem_cons hlt]
      simp only [wharfageref10_ViewMay.l0]
      rw [if_pos h, if_pos (show (0 : Int) ≤ (i : Int) by omega), e, nk, vw_rep]
      simp only [Option.bind_some]
      rw [show seensOk i (l[i] :: l.drop (i + 1)) = (seenOk (i : Int) l[i] && seensOk (i + 1) (l.drop (i + 1))) from rfl]
      unfold seenOk
      by_cases hn : noneSeen l[i] = true
      · have hn2 := hn
        unfold noneSeen at hn2
        rw [decide_eq_true_eq] at hn2
        obtain ⟨h1, h2, h3, h4, h5⟩ := hn2
        rw [if_pos h1, h2, h3, h4, h5, if_pos (by decide), hn]; simp
      · rw [Bool.not_eq_true] at hn
        rw [hn, Bool.false_or]
        have tail : (if l[i].f1 < 0 then some false else (if l[i].f1 > 1048576 then some false else (if repOk l[i].f0.f0 l[i].f0.f1 l[i].f0.f2 l[i].f0.f3 = true then (if l[i].f0.f0 = (i : Int) then some (seensOk (i + 1) (l.drop (i + 1)) && (l.length : Int) == 3) else some false) else some false))) = some ((timeOk l[i].f1 && repOk l[i].f0.f0 l[i].f0.f1 l[i].f0.f2 l[i].f0.f3 && decide (l[i].f0.f0 = (i : Int))) && seensOk (i + 1) (l.drop (i + 1)) && (l.length : Int) == 3) := by
          by_cases h1 : l[i].f1 < 0
          · rw [if_pos h1, show timeOk l[i].f1 = false from decide_eq_false (by omega)]; simp
          rw [if_neg h1]
          by_cases h2 : l[i].f1 > 1048576
          · rw [if_pos h2, show timeOk l[i].f1 = false from decide_eq_false (by omega)]; simp
          rw [if_neg h2, show timeOk l[i].f1 = true from decide_eq_true (by omega)]
          cases repOk l[i].f0.f0 l[i].f0.f1 l[i].f0.f2 l[i].f0.f3
          · simp
          · by_cases h3 : l[i].f0.f0 = (i : Int) <;> simp [h3]
        by_cases h1 : l[i].f1 = -1
        · rw [if_pos h1, if_neg (by
            intro hh
            simp only [Bool.and_eq_true, beq_iff_eq] at hh
            unfold noneSeen at hn
            rw [decide_eq_false_iff_not] at hn
            exact hn ⟨h1, hh.1, hh.2.1, hh.2.2.1, hh.2.2.2⟩)]
          exact tail
        · rw [if_neg h1]; exact tail
    · simp only [wharfageref10_ViewMay.l0]
      rw [if_neg h, List.drop_of_length_le (by omega)]; rfl
theorem vw_may (l : List S85) (hl : l.length ≤ 9223372036854775806) (k : Nat) (hk : l.length + 1 ≤ k) : wharfageref10_ViewMay.f k l = some (mayV l) := by
  have h := vw_may_l0 l hl l.length k 0 (by omega) hk (by omega)
  unfold wharfageref10_ViewMay.f mayV
  rw [show (0 : Int) = ((0 : Nat) : Int) from rfl, h, List.drop_zero]
  congr 2
  rw [Bool.eq_iff_iff, beq_iff_eq, decide_eq_true_eq]; omega
theorem vw_at (l : List S85) (hm : mayV l = true) (i : Nat) (hi : i < 3) : (rd_T85 l (i : Int)).f1 = -1 ∨ (0 ≤ (rd_T85 l (i : Int)).f1 ∧ (rd_T85 l (i : Int)).f1 ≤ 1048576 ∧ repOk (rd_T85 l (i : Int)).f0.f0 (rd_T85 l (i : Int)).f0.f1 (rd_T85 l (i : Int)).f0.f2 (rd_T85 l (i : Int)).f0.f3 = true) := by
  unfold mayV at hm
  simp only [Bool.and_eq_true, decide_eq_true_eq] at hm
  obtain ⟨hm, hl⟩ := hm
  match l, hl with
  | [a, b, c], _ =>
    simp only [seensOk, Bool.and_eq_true] at hm
    have key : ∀ (j : Int) (v : S85), seenOk j v = true → v.f1 = -1 ∨ (0 ≤ v.f1 ∧ v.f1 ≤ 1048576 ∧ repOk v.f0.f0 v.f0.f1 v.f0.f2 v.f0.f3 = true) := by
      intro j v h
      unfold seenOk at h
      rw [Bool.or_eq_true] at h
      rcases h with h | h
      · unfold noneSeen at h
        rw [decide_eq_true_eq] at h
        exact .inl h.1
      · simp only [Bool.and_eq_true] at h
        have ht := h.1.1
        unfold timeOk at ht
        rw [decide_eq_true_eq] at ht
        exact .inr ⟨ht.1, ht.2, h.1.2⟩
    obtain rfl | rfl | rfl : i = 0 ∨ i = 1 ∨ i = 2 := by omega
    · exact key _ _ hm.1
    · exact key _ _ hm.2.1
    · exact key _ _ hm.2.2.1
theorem vw_take (l : List S85) (hl : l.length + 2 < 3518437208883) (k : Nat) (hk : l.length + 1 ≤ k) (a b c d now : Int) : wharfageref10_TakeReport.f k l a b c d now = some (takeF l a b c d now) := by
  obtain ⟨k, rfl⟩ : ∃ m, k = m + 1 := ⟨k - 1, by omega⟩
  have j1 : ∀ x, wharfageref10_TakeReport.j0 (k + 1) l x true a b c d = some ([], false, 1200) := fun x => by simp only [wharfageref10_TakeReport.j0]; rfl
  unfold wharfageref10_TakeReport.f takeF
  rw [vw_may l (by omega) _ hk, vw_rep, vw_now]
  simp only [Option.bind_some]
  cases hm : mayV l
  · rw [if_neg (by simp), j1]; rfl
  cases hr : repOk a b c d
  · rw [if_pos rfl, if_neg (by simp), j1]; rfl
  cases ht : timeOk now
  · rw [if_pos rfl, if_pos rfl, show (!false) = true from rfl, j1]; rfl
  have hr2 := hr
  unfold repOk at hr2
  rw [decide_eq_true_eq] at hr2
  obtain ⟨i, rfl⟩ := Int.eq_ofNat_of_zero_le hr2.1.1
  have hi : i < 3 := by omega
  have h3 : l.length = 3 := by unfold mayV at hm; simp only [Bool.and_eq_true, decide_eq_true_eq] at hm; exact hm.2
  have hat := vw_at l hm i hi
  obtain ⟨q, hq⟩ := vw_newer b (rd_T85 l (i : Int)).f0.f1
  rw [if_pos rfl, if_pos rfl, if_pos (show (true && (true && true)) = true from rfl)]
  simp only [wharfageref10_TakeReport.j0]
  rw [if_neg (show ¬ ((!true) = true) by decide)]
  simp only [Option.bind_some, List.length_nil, Nat.zero_add, List.nil_append]
  rw [if_pos (by omega), if_pos (by omega), if_pos (by omega), hq]
  simp only [Option.bind_some]
  rcases hat with h1 | ⟨h1, _, _⟩
  · rw [if_neg (by omega), if_pos (by omega), if_neg (fun h => h.1 h1)]
  · rw [if_pos (by omega)]
    cases hn : newerB b (rd_T85 l (i : Int)).f0.f1
    · rw [if_neg (by simp), if_pos ⟨by omega, rfl⟩]
    · rw [if_pos rfl, if_pos (by omega), if_neg (by simp)]
def spareV (l : List S85) (site now : Int) : Int × Bool × Int :=
  if (mayV l && (timeOk now && decide (0 ≤ site ∧ site < 3))) = true then
    (if (rd_T85 l site).f1 = -1 ∨ now < (rd_T85 l site).f1 ∨ 10 ≤ now - (rd_T85 l site).f1 then (0, false, 0) else ((if 0 < (rd_T85 l site).f0.f3 - (rd_T85 l site).f0.f2 then (rd_T85 l site).f0.f3 - (rd_T85 l site).f0.f2 else 0), true, 0))
  else (0, false, 1200)
theorem vw_spare (l : List S85) (hl : l.length + 2 < 3518437208883) (k : Nat) (hk : 2 * l.length + 1 ≤ k) (site now : Int) : view_Spare.f k l site now = some (spareV l site now) := by
  obtain ⟨k, rfl⟩ : ∃ m, k = m + 1 := ⟨k - 1, by omega⟩
  have j1 : view_Spare.j0 (k + 1) l site now true = some (0, false, 1200) := by simp only [view_Spare.j0]; rfl
  have hs : report_Site.f site = some (decide (0 ≤ site ∧ site < 3)) := by
    unfold report_Site.f
    by_cases h : site ≥ 0
    · rw [if_pos h]; congr 1; simp; omega
    · rw [if_neg h]; congr 1; simp; omega
  unfold view_Spare.f spareV
  rw [may_plain l (by omega) _ hk, time_plain, hs]
  simp only [Option.bind_some]
  cases hm : mayV l
  · rw [if_neg (by simp), j1]; rfl
  cases ht : timeOk now
  · rw [if_pos rfl, if_neg (by simp), j1]; rfl
  by_cases hsite : 0 ≤ site ∧ site < 3
  · rw [decide_eq_true hsite]
    obtain ⟨i, rfl⟩ := Int.eq_ofNat_of_zero_le hsite.1
    have h3 : l.length = 3 := by unfold mayV at hm; simp only [Bool.and_eq_true, decide_eq_true_eq] at hm; exact hm.2
    have hat := vw_at l hm i (by omega)
    have htn := ht
    unfold timeOk at htn
    rw [decide_eq_true_eq] at htn
    rw [if_pos rfl, if_pos rfl, if_pos (show (true && (true && true)) = true from rfl)]
    simp only [view_Spare.j0]
    rw [if_neg (show ¬ ((!true) = true) by decide), if_pos (by omega), if_pos (by omega)]
    rcases hat with h1 | ⟨h1, h2, h4⟩
    · rw [if_pos h1, if_pos (.inl h1)]
    · rw [if_neg (by omega)]
      have e1 : wrap64 (now - (rd_T85 l (i : Int)).f1) = now - (rd_T85 l (i : Int)).f1 := by unfold wrap64; omega
      rw [e1]
      by_cases g1 : now - (rd_T85 l (i : Int)).f1 < 0
      · rw [if_pos g1, if_pos (.inr (.inl (by omega)))]
      · rw [if_neg g1]
        by_cases g2 : now - (rd_T85 l (i : Int)).f1 ≥ 10
        · rw [if_pos g2, if_pos (.inr (.inr (by omega)))]
        · unfold repOk at h4
          rw [decide_eq_true_eq] at h4
          have e2 : wrap64 ((rd_T85 l (i : Int)).f0.f3 - (rd_T85 l (i : Int)).f0.f2) = (rd_T85 l (i : Int)).f0.f3 - (rd_T85 l (i : Int)).f0.f2 := by unfold wrap64; omega
          rw [if_neg g2, if_neg (by omega), e2]
          unfold mx
          split <;> split <;> first | rfl | (exfalso; omega) | (congr 2; omega)
  · rw [decide_eq_false hsite, if_pos rfl, if_pos rfl, if_neg (by simp)]; exact j1
theorem vw_spare2 (l : List S85) (hl : l.length + 2 < 3518437208883) (k : Nat) (hk : l.length + 1 ≤ k) (site now : Int) : wharfageref10_SpareOf.f k l site now = some (spareV l site now) := by
  obtain ⟨k, rfl⟩ : ∃ m, k = m + 1 := ⟨k - 1, by omega⟩
  have j1 : wharfageref10_SpareOf.j0 (k + 1) l site now true = some (0, false, 1200) := by simp only [wharfageref10_SpareOf.j0]; rfl
  unfold wharfageref10_SpareOf.f spareV
  rw [vw_may l (by omega) _ hk, vw_now]
  simp only [Option.bind_some]
  cases hm : mayV l
  · rw [if_neg (by simp), j1]; rfl
  cases ht : timeOk now
  · rw [if_pos rfl, if_neg (by simp), j1]; rfl
  rw [if_pos rfl, if_pos rfl]
  by_cases hs0 : site < 0
  · rw [if_pos hs0, decide_eq_false (by omega)]; exact j1
  rw [if_neg hs0]
  by_cases hs1 : site ≥ 3
  · rw [decide_eq_true hs1, decide_eq_false (by omega)]; exact j1
  rw [decide_eq_false hs1, decide_eq_true (by omega)]
  obtain ⟨i, rfl⟩ := Int.eq_ofNat_of_zero_le (show 0 ≤ site by omega)
  have h3 : l.length = 3 := by unfold mayV at hm; simp only [Bool.and_eq_true, decide_eq_true_eq] at hm; exact hm.2
  have hat := vw_at l hm i (by omega)
  have htn := ht
  unfold timeOk at htn
  rw [decide_eq_true_eq] at htn
  rw [if_pos (show (true && (true && true)) = true from rfl)]
  simp only [wharfageref10_SpareOf.j0]
  rw [if_neg (by decide), if_pos (by omega), if_pos (by omega)]
  rcases hat with h1 | ⟨h1, h2, h4⟩
  · rw [if_pos (by omega), if_pos (.inl h1)]
  · rw [if_neg (by omega)]
    by_cases g1 : now < (rd_T85 l (i : Int)).f1
    · rw [if_pos g1, if_pos (.inr (.inl g1))]
    · have e1 : wrap64 (now - (rd_T85 l (i : Int)).f1) = now - (rd_T85 l (i : Int)).f1 := by unfold wrap64; omega
      rw [if_neg g1, e1]
      by_cases g2 : now - (rd_T85 l (i : Int)).f1 ≥ 10
      · rw [if_pos g2, if_pos (.inr (.inr (by omega)))]
      · unfold repOk at h4
        rw [decide_eq_true_eq] at h4
        have e2 : wrap64 ((rd_T85 l (i : Int)).f0.f3 - (rd_T85 l (i : Int)).f0.f2) = (rd_T85 l (i : Int)).f0.f3 - (rd_T85 l (i : Int)).f0.f2 := by unfold wrap64; omega
        rw [if_neg g2, if_neg (by omega), e2]
        rfl
theorem vw_spoil_l0 (d : Nat) : ∀ (k i : Nat) (l : List S85), l.length ≤ 9223372036854775806 → l.length - i ≤ d → d < k → i ≤ l.length → ∃ r, wharfagelaw0_SpoilSeens.l0 k l (i : Int) = some r := by
  induction d with
  | zero =>
    intro k i l hl hd hk hi
    obtain ⟨k, rfl⟩ : ∃ m, k = m + 1 := ⟨k - 1, by omega⟩
    simp only [wharfagelaw0_SpoilSeens.l0]
    rw [if_neg (by omega)]; exact ⟨_, rfl⟩
  | succ d ih =>
    intro k i l hl hd hk hi
    obtain ⟨k, rfl⟩ : ∃ m, k = m + 1 := ⟨k - 1, by omega⟩
    simp only [wharfagelaw0_SpoilSeens.l0]
    by_cases h : (i : Int) < (l.length : Int)
    · rw [if_pos h, if_pos (by omega), show wrap64 ((i : Int) + 1) = ((i + 1 : Nat) : Int) by unfold wrap64; omega]
      exact ih k (i + 1) _ (by rw [List.length_set]; exact hl) (by rw [List.length_set]; omega) (by omega) (by rw [List.length_set]; omega)
    · rw [if_neg h]; exact ⟨_, rfl⟩
theorem vw_spoil (l : List S85) (hl : l.length ≤ 9223372036854775806) : ∃ r, wharfagelaw0_SpoilSeens.f (l.length + 1) l = some r := vw_spoil_l0 l.length (l.length + 1) 0 l hl (by omega) (by omega) (by omega)
theorem vw_len (l : List S85) (a b c d now : Int) : (takeF l a b c d now).1.length ≤ l.length := by
  unfold takeF
  split
  · split
    · exact Nat.le_refl _
    · rw [List.length_set]; exact Nat.le_refl _
  · exact Nat.zero_le _
theorem vw_new : wharfageref10_NewView.f 300 = some [⟨⟨0, 0, 0, 0⟩, -1⟩, ⟨⟨0, 0, 0, 0⟩, -1⟩, ⟨⟨0, 0, 0, 0⟩, -1⟩] := by kernel_rfl
theorem vw_aw : wharfagelaw12_awake.f 300 = some true := by kernel_rfl
set_option maxHeartbeats 8000000 in
set_option maxRecDepth 100000 in
theorem wharfagelaw12_Views.calls (A0 : Option Addr) (c0 : Nat) (l0 : List S85) (a1_0 a1_1 a1_2 a1_3 a2 a3 : Int) (r : Bool) (w : World) (hr0 : Kd.C k85 w A0 l0.length l0) (hc0 : l0.length ≤ c0) (h : wharfagelaw12_Views.f l0 a1_0 a1_1 a1_2 a1_3 a2 a3 = some r) :
    Calls Try.prog 10 #[.slice A0 l0.length c0, .agg #[.int .i64 a1_0, .int .i64 a1_1, .int .i64 a1_2, .int .i64 a1_3], .int .i64 a2, .int .i64 a3] w fun e w' => e = .returned (.bool r) ∧ Below w.heap.size w w' := by
  unfold wharfagelaw12_Views.f at h
  by_cases hlt : l0.length + 2 < 3518437208883
  case neg => rw [if_neg hlt] at h; exact absurd h (by simp)
  rw [if_pos hlt] at h
  obtain rfl := Option.some.inj h
  clear h
  have hu := Try.underlying85
  have hu2 := Try.underlying68
  have HL := Aside0.mk hlt
  have HR0 := Aside0.mk hr0
  have HC0 := Aside0.mk hc0
  obtain ⟨tl, tb, te, htk⟩ : ∃ tl tb te, takeF l0 a1_0 a1_1 a1_2 a1_3 a2 = (tl, tb, te) := ⟨_, _, _, rfl⟩
  have HTK := Aside0.mk htk
  have HTL := Aside0.mk (show tl.length ≤ l0.length by have := vw_len l0 a1_0 a1_1 a1_2 a1_3 a2; rw [htk] at this; exact this)
  obtain ⟨px, pb, pe, hsp⟩ : ∃ px pb pe, spareV l0 a3 a2 = (px, pb, pe) := ⟨_, _, _, rfl⟩
  have HSP := Aside0.mk hsp
  obtain ⟨mv, hmv⟩ : ∃ b, mayV l0 = b := ⟨_, rfl⟩
  have HMV := Aside0.mk hmv
  obtain ⟨sl, hsl⟩ := vw_spoil tl (by have := HTL.out; omega)
  have HSL := Aside0.mk hsl
  clear hlt hr0 hc0 htk hsp hmv hsl
  have HB := Aside0.mk (Below.refl w.heap.size w)
  have F0 := Aside0.mk trivial
  go_enter Try.func10, Try.ntmps10
  go_wp2_with first
    | (go_at_call 38; refine (wharfagelaw0_LendSeens.calls A0 c0 l0 l0 _ (Kd.C_below HR0.out (below_alloc (Below.refl _ _) _)) HC0.out (if_pos HL.out)).mono ?_; rintro e w1 ⟨g, c, rfl, hc2, hg, hx, hb⟩; have b0 : w1.cell? ⟨w.heap.size, 0, none⟩ = some (.int .i64 a1_0) := pw_cell_below hb (by simp); have b1 : w1.cell? ⟨w.heap.size, 1, none⟩ = some (.int .i64 a1_1) := pw_cell_below hb (by simp); have b2 : w1.cell? ⟨w.heap.size, 2, none⟩ = some (.int .i64 a1_2) := pw_cell_below hb (by simp); have b3 : w1.cell? ⟨w.heap.size, 3, none⟩ = some (.int .i64 a1_3) := pw_cell_below hb (by simp); have HX := Aside0.mk hx; have HC2 := Aside0.mk hc2; have HV := Aside0.mk (Kd.C_below (Kd.C_below HR0.out (below_alloc (Below.refl _ _) _)) hb); replace HB := Aside0.mk (below_step (below_alloc HB.out _) hb); clear hb hx hc2 hg)
    | (go_at_call 39; refine (view_Take.calls (some ⟨g, 0, none⟩) c l0 a1_0 a1_1 a1_2 a1_3 a2 tl tb te _ (Go.Proofs.Ytnocfhnandedoab.Hand.hk_head HX.out rfl) (by have := HC2.out; omega) (congrArg some HTK.out)).mono ?_; rintro e w2 ⟨v2, rfl, ho, hb⟩; have HO := Aside0.mk ho; have HX1 := Aside0.mk HX.out; have HB1 := HB; have HV1 := HV; obtain ⟨A2, c2, rfl⟩ := Kd.R_slice ho; have C2 := Aside0.mk (Kd.R_reads' ho).2.1; have O2 := Aside0.mk (Kd.R_reads' ho).2.2; have HBT := Aside0.mk hb; clear ho; replace b0 := pw_cell_below hb b0; replace b1 := pw_cell_below hb b1; replace b2 := pw_cell_below hb b2; replace b3 := pw_cell_below hb b3; replace HX := Aside0.mk (Kd.C_below HX.out hb); replace HV := Aside0.mk (Kd.C_below HV.out hb); replace HB := Aside0.mk (below_step HB.out hb); clear hb)
    | (go_at_call 40; refine (wharfageref10_TakeReport.calls (2 * l0.length + 300) A0 c0 l0 a1_0 a1_1 a1_2 a1_3 a2 tl tb te _ HV.out HC0.out (by rw [vw_take l0 HL.out _ (by omega), HTK.out])).mono ?_; rintro e w3 ⟨v3, rfl, ho, hb⟩; obtain ⟨A3, c3, rfl⟩ := Kd.R_slice ho; have C3 := Aside0.mk (Kd.R_reads' ho).2.1; have O3 := Aside0.mk (Kd.R_reads' ho).2.2; clear ho; replace b0 := pw_cell_below hb b0; replace b1 := pw_cell_below hb b1; replace b2 := pw_cell_below hb b2; replace b3 := pw_cell_below hb b3; replace HX := Aside0.mk (Kd.C_below HX.out hb); replace HV := Aside0.mk (Kd.C_below HV.out hb); replace O2 := Aside0.mk (Kd.C_below O2.out hb); replace HO := Aside0.mk (Kd.R_below HO.out hb); replace HBT := Aside0.mk (below_step HBT.out hb); replace HB := Aside0.mk (below_step HB.out hb); clear hb)
    | (go_at_call 41; refine (view_Spare.calls (2 * l0.length + 300) (some ⟨g, 0, none⟩) c l0 a3 a2 px pb pe _ (Go.Proofs.Ytnocfhnandedoab.Hand.hk_head HX.out rfl) (by have := HC2.out; omega) (by rw [vw_spare l0 HL.out _ (by omega), HSP.out])).mono ?_; rintro e w4 ⟨rfl, hb⟩; replace b0 := pw_cell_below hb b0; replace b1 := pw_cell_below hb b1; replace b2 := pw_cell_below hb b2; replace b3 := pw_cell_below hb b3; replace HX := Aside0.mk (Kd.C_below HX.out hb); replace HV := Aside0.mk (Kd.C_below HV.out hb); replace O2 := Aside0.mk (Kd.C_below O2.out hb); replace O3 := Aside0.mk (Kd.C_below O3.out hb); replace HO := Aside0.mk (Kd.R_below HO.out hb); replace HBT := Aside0.mk (below_step HBT.out hb); replace HB := Aside0.mk (below_step HB.out hb); clear hb)
    | (go_at_call 42; refine (wharfageref10_SpareOf.calls (2 * l0.length + 300) A0 c0 l0 a3 a2 px pb pe _ HV.out HC0.out (by rw [vw_spare2 l0 HL.out _ (by omega), HSP.out])).mono ?_; rintro e w5 ⟨rfl, hb⟩; replace b0 := pw_cell_below hb b0; replace b1 := pw_cell_below hb b1; replace b2 := pw_cell_below hb b2; replace b3 := pw_cell_below hb b3; replace HX := Aside0.mk (Kd.C_below HX.out hb); replace HV := Aside0.mk (Kd.C_below HV.out hb); replace O2 := Aside0.mk (Kd.C_below O2.out hb); replace O3 := Aside0.mk (Kd.C_below O3.out hb); replace HO := Aside0.mk (Kd.R_below HO.out hb); replace HBT := Aside0.mk (below_step HBT.out hb); replace HB := Aside0.mk (below_step HB.out hb); clear hb)
    | (go_at_call 43; clear F0; refine (wharfagelaw0_SameSeens.calls (tl.length + 1) A2 c2 tl A3 c3 tl true _ O2.out C2.out O3.out C3.out (sameSeen tl _ (by omega) (by have := HTL.out; have := HL.out; omega))).mono ?_; rintro e w6 ⟨rfl, hn⟩; have hb := Go.Proofs.Ytnocfhnandedoab.Hand.hk_drawn hn; clear hn; replace b0 := pw_cell_below hb b0; replace b1 := pw_cell_below hb b1; replace b2 := pw_cell_below hb b2; replace b3 := pw_cell_below hb b3; replace HX := Aside0.mk (Kd.C_below HX.out hb); replace HV := Aside0.mk (Kd.C_below HV.out hb); replace O2 := Aside0.mk (Kd.C_below O2.out hb); replace O3 := Aside0.mk (Kd.C_below O3.out hb); replace HO := Aside0.mk (Kd.R_below HO.out hb); replace HBT := Aside0.mk (below_step HBT.out hb); replace HB := Aside0.mk (below_step HB.out hb); clear hb)
    | (go_at_call 17; refine (wharfagelaw0_Num.calls _ _ _ rfl).mono ?_; rintro e wn ⟨rfl, hn⟩; have hb := Go.Proofs.Ytnocfhnandedoab.Hand.hk_drawn hn; clear hn; replace b0 := pw_cell_below hb b0; replace b1 := pw_cell_below hb b1; replace b2 := pw_cell_below hb b2; replace b3 := pw_cell_below hb b3; replace HX := Aside0.mk (Kd.C_below HX.out hb); replace HV := Aside0.mk (Kd.C_below HV.out hb); replace O2 := Aside0.mk (Kd.C_below O2.out hb); replace HO := Aside0.mk (Kd.R_below HO.out hb); replace HBT := Aside0.mk (below_step HBT.out hb); replace HB := Aside0.mk (below_step HB.out hb); clear hb)
    | (go_at_call 44; refine (view_May.calls (2 * l0.length + 300) (some ⟨g, 0, none⟩) c l0 mv _ (Go.Proofs.Ytnocfhnandedoab.Hand.hk_head HX.out rfl) (by have := HC2.out; omega) (by rw [may_plain l0 (by have := HL.out; omega) _ (by omega), HMV.out])).mono ?_; rintro e w7 ⟨rfl, hb⟩; replace b0 := pw_cell_below hb b0; replace b1 := pw_cell_below hb b1; replace b2 := pw_cell_below hb b2; replace b3 := pw_cell_below hb b3; replace HX := Aside0.mk (Kd.C_below HX.out hb); replace HV := Aside0.mk (Kd.C_below HV.out hb); replace O2 := Aside0.mk (Kd.C_below O2.out hb); replace HO := Aside0.mk (Kd.R_below HO.out hb); replace HBT := Aside0.mk (below_step HBT.out hb); replace HB := Aside0.mk (below_step HB.out hb); clear hb)
    | (go_at_call 45; refine (wharfageref10_ViewMay.calls (2 * l0.length + 300) A0 c0 l0 mv _ HV.out HC0.out (by rw [vw_may l0 (by have := HL.out; omega) _ (by omega), HMV.out])).mono ?_; rintro e w8 ⟨rfl, hb⟩; replace b0 := pw_cell_below hb b0; replace b1 := pw_cell_below hb b1; replace b2 := pw_cell_below hb b2; replace b3 := pw_cell_below hb b3; replace HX := Aside0.mk (Kd.C_below HX.out hb); replace HV := Aside0.mk (Kd.C_below HV.out hb); replace O2 := Aside0.mk (Kd.C_below O2.out hb); replace HO := Aside0.mk (Kd.R_below HO.out hb); replace HBT := Aside0.mk (below_step HBT.out hb); replace HB := Aside0.mk (below_step HB.out hb); clear hb)
    | (go_at_call 46; refine (view_New.calls _ _ rfl).mono ?_; rintro e w9 ⟨v9, rfl, ho, hb⟩; obtain ⟨A9, c9, rfl⟩ := Kd.R_slice ho; have C9 := Aside0.mk (Kd.R_reads' ho).2.1; have O9 := Aside0.mk (Kd.R_reads' ho).2.2; clear ho; replace b0 := pw_cell_below hb b0; replace b1 := pw_cell_below hb b1; replace b2 := pw_cell_below hb b2; replace b3 := pw_cell_below hb b3; replace HX := Aside0.mk (Kd.C_below HX.out hb); replace HV := Aside0.mk (Kd.C_below HV.out hb); replace O2 := Aside0.mk (Kd.C_below O2.out hb); replace HO := Aside0.mk (Kd.R_below HO.out hb); replace HBT := Aside0.mk (below_step HBT.out hb); replace HB := Aside0.mk (below_step HB.out hb); clear hb)
    | (go_at_call 47; refine (wharfageref10_NewView.calls 300 _ _ vw_new).mono ?_; rintro e w10 ⟨v10, rfl, ho, hb⟩; obtain ⟨A10, c10, rfl⟩ := Kd.R_slice ho; have C10 := Aside0.mk (Kd.R_reads' ho).2.1; have O10 := Aside0.mk (Kd.R_reads' ho).2.2; clear ho; replace b0 := pw_cell_below hb b0; replace b1 := pw_cell_below hb b1; replace b2 := pw_cell_below hb b2; replace b3 := pw_cell_below hb b3; replace HX := Aside0.mk (Kd.C_below HX.out hb); replace HV := Aside0.mk (Kd.C_below HV.out hb); replace O2 := Aside0.mk (Kd.C_below O2.out hb); replace O9 := Aside0.mk (Kd.C_below O9.out hb); replace HO := Aside0.mk (Kd.R_below HO.out hb); replace HBT := Aside0.mk (below_step HBT.out hb); replace HB := Aside0.mk (below_step HB.out hb); clear hb)
    | (go_at_call 43; refine (wharfagelaw0_SameSeens.calls 300 A9 c9 _ A10 c10 _ true _ O9.out C9.out O10.out C10.out (sameSeen _ _ (by decide) (by decide))).mono ?_; rintro e w11 ⟨rfl, hn⟩; have hb := Go.Proofs.Ytnocfhnandedoab.Hand.hk_drawn hn; clear hn; replace b0 := pw_cell_below hb b0; replace b1 := pw_cell_below hb b1; replace b2 := pw_cell_below hb b2; replace b3 := pw_cell_below hb b3; replace HX := Aside0.mk (Kd.C_below HX.out hb); replace HV := Aside0.mk (Kd.C_below HV.out hb); replace O2 := Aside0.mk (Kd.C_below O2.out hb); replace HO := Aside0.mk (Kd.R_below HO.out hb); replace HBT := Aside0.mk (below_step HBT.out hb); replace HB := Aside0.mk (below_step HB.out hb); clear hb)
    | (go_at_call 48; refine (wharfagelaw0_SpoilSeens.calls (tl.length + 1) (fun _ => True) _ tl sl w1 _ HBT.out HO.out HSL.out).mono ?_; rintro e w12 ⟨rfl, _, hb, _⟩; replace HB := Aside0.mk (HB1.out.trans (hb.mono (below_size HB1.out))); have HX2 := Aside0.mk (Kd.C_below HX1.out hb); have HV2 := Aside0.mk (Kd.C_below HV1.out hb); clear hb HO HBT HX HV O2 HX1 HV1 HB1)
    | (go_at_call 49; refine (wharfagelaw0_KeptSeens.kept g c A0 c0 l0 _ HL.out HC2.out HX2.out HV2.out HC0.out).mono ?_; rintro e w13 ⟨rfl, hb⟩; replace HB := Aside0.mk (below_step HB.out hb); clear hb)
    | (go_at_call 50; refine (wharfagelaw12_awake.calls 300 true _ vw_aw).mono ?_; rintro e w14 ⟨rfl, hb⟩; replace HB := Aside0.mk (below_step HB.out hb); clear hb)
  go_ret
  exact ⟨Go.Proofs.Ytnocfhnandedoab.Hand.hk_bool rfl, HB.out⟩


end Go.Proofs.Ytnocfhnandedoab.PView
