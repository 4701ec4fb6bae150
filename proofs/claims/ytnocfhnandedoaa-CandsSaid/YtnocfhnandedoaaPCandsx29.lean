/- Contracts: what calls of these functions of the program do, each as a plain function; written by a program of this session. -/
import Derived.Test.YtnocfhnandedoaaPCandsx0
import Derived.Test.YtnocfhnandedoaaPCandsx4
import Derived.Test.YtnocfhnandedoaaPCandsx5
import Derived.Test.YtnocfhnandedoaaPCandsx6
import Derived.Test.YtnocfhnandedoaaPCandsx7
import Derived.Test.YtnocfhnandedoaaPCandsx8
import Derived.Test.YtnocfhnandedoaaPCandsx10
import Derived.Test.YtnocfhnandedoaaPCandsx11
import Derived.Test.YtnocfhnandedoaaPCandsx13
import Derived.Test.YtnocfhnandedoaaPCandsx14
import Derived.Test.YtnocfhnandedoaaPCandsx15
import Derived.Test.YtnocfhnandedoaaPCandsx16
import Derived.Test.YtnocfhnandedoaaPCandsx17
import Derived.Test.YtnocfhnandedoaaPCandsx19
import Derived.Test.YtnocfhnandedoaaPCandsx20
import Derived.Test.YtnocfhnandedoaaPCandsx21
import Derived.Test.YtnocfhnandedoaaPCandsx22
import Derived.Test.YtnocfhnandedoaaPCandsx23
import Derived.Test.YtnocfhnandedoaaPCandsx24
import Derived.Test.YtnocfhnandedoaaPCandsx25
import Derived.Test.YtnocfhnandedoaaPCandsx27
import Derived.Test.YtnocfhnandedoaaPCandsx28
namespace Go.Proofs.Ytnocfhnandedoaa.PCands
open Go.RowKit Go.Proofs.YtnocfhnandedoaaW.PrintWords Go.Proofs.YtnocfhnandedoaaW.PrintLast Go.Proofs.YtnocfhnandedoaaW.PrintMore
attribute [local go_sem] max2_int min2_int max_two min_two max_three min_three max_four min_four   -- for this text's walks alone
set_option linter.unusedVariables false
set_option linter.unusedSimpArgs false

/-! ### wharfagelaw13_Cands: function 7, by hand -/
theorem cx_num_f (a : Int) : wharfagelaw0_Num.f a = some a := rfl
theorem cx_awake_f (k : Nat) (hk : 60 ≤ k) : wharfagelaw13_awake.f k = some true := at_rounds wharfagelaw13_awake.mono (k := 60) hk (by decide +kernel)
def cx_toB (s : S70) : S74 := ⟨s.f0, s.f1⟩
theorem cx_rdB (l : List S70) (i : Nat) : rd_T74 (l.map cx_toB) (i : Int) = cx_toB (rd_T70 l (i : Int)) := by
  unfold rd_T74 rd_T70
  rw [Int.toNat_natCast]
  by_cases h : i < l.length
  · simp [List.getD, List.getElem?_map, List.getElem?_eq_getElem h]
  · simp [List.getD, List.getElem?_map, List.getElem?_eq_none (show l.length ≤ i by omega)]; rfl
theorem cx_rdC (l : List S72) (i : Nat) (h : i < l.length) : rd_T72 l (i : Int) = l[i] := by simp [rd_T72, h]
theorem cx_wrapB (x : Int) (h1 : -9223372036854775808 ≤ x) (h2 : x < 9223372036854775808) : wrap64 x = x := by unfold wrap64; omega
theorem cx_picked_succ (bs : List S74) (hs : List S67) (i : Nat) : picked bs hs (i + 1) = addOne (picked bs hs i) (i : Int) (rd_T74 bs (i : Int)) (rd_T67 hs (i : Int)) := rfl
theorem cx_sites_loop (l : List S70) (hs : List S67) (hl : l.length ≤ 3) (hh : l.length ≤ hs.length) (d : Nat) : ∀ (k i : Nat), l.length - i ≤ d → d < k → i ≤ l.length → cand_Sites.l0 k hs (picked (l.map cx_toB) hs i) l (l.length : Int) (i : Int) = some (picked (l.map cx_toB) hs l.length, 0) := by
  induction d with
  | zero =>
    intro k i hd hk hi
    obtain ⟨k, rfl⟩ : ∃ m, k = m + 1 := ⟨k - 1, by omega⟩
    obtain rfl : i = l.length := by omega
    simp only [cand_Sites.l0]
    rw [if_neg (by omega)]
  | succ d ih =>
    intro k i hd hk hi
    obtain ⟨k, rfl⟩ : ∃ m, k = m + 1 := ⟨k - 1, by omega⟩
    simp only [cand_Sites.l0]
    by_cases h : (i : Int) < (l.length : Int)
    · have hp := picked_len (l.map cx_toB) hs i
      have e := add_one (picked (l.map cx_toB) hs i) (i : Int) (rd_T74 (l.map cx_toB) (i : Int)) (rd_T67 hs (i : Int)) (by omega)
      rw [cx_rdB] at e
      rw [if_pos h, if_pos (show (0 : Int) ≤ (i : Int) by omega), if_pos h, if_pos (by omega), show (rd_T70 l (i : Int)).f0 = (cx_toB (rd_T70 l (i : Int))).f0 from rfl, show (rd_T70 l (i : Int)).f1 = (cx_toB (rd_T70 l (i : Int))).f1 from rfl, e, Option.bind_some, cx_wrapB _ (by omega) (by omega)]
      have := ih k (i + 1) (by omega) (by omega) (by omega)
      rw [cx_picked_succ, cx_rdB] at this
      exact this
    · obtain rfl : i = l.length := by omega
      rw [if_neg h]
theorem cx_may_f (v : Int) (l : List S70) : conf_May.f v l = some (mayC v l) := rfl
theorem cx_mayC_len {v : Int} {l : List S70} (h : mayC v l = true) : l.length ≤ 3 := by
  unfold mayC at h; simp only [Bool.and_eq_true, decide_eq_true_eq] at h; exact h.2
theorem cx_mayC_in {v : Int} {l : List S70} (h : mayC v l = true) {x : S70} (hx : x ∈ l) : siteOk x = true := by
  unfold mayC at h; simp only [Bool.and_eq_true, decide_eq_true_eq] at h
  exact List.all_eq_true.1 h.1.1 x hx
theorem cx_siteOk_w {x : S70} (h : siteOk x = true) : 0 ≤ x.f0 ∧ x.f0 ≤ 16 := by
  unfold siteOk at h; simp only [Bool.and_eq_true, decide_eq_true_eq] at h; exact h.1.1.2
theorem cx_siteOk_len {x : S70} (h : siteOk x = true) : x.f3.length ≤ 4 := by
  unfold siteOk at h; simp only [Bool.and_eq_true, decide_eq_true_eq] at h; exact h.2
theorem cx_siteOk_b {x : S70} (h : siteOk x = true) {b : S74} (hb : b ∈ x.f3) : 0 ≤ b.f0 ∧ b.f0 ≤ 16 := by
  unfold siteOk at h; simp only [Bool.and_eq_true, decide_eq_true_eq] at h
  have := List.all_eq_true.1 h.1.1.1 b hb
  unfold backOk at this; simpa using this
theorem cx_allB_len {l : List S67} {n : Int} (h : allB l n = true) : (l.length : Int) = n := by
  unfold allB at h; simp only [Bool.and_eq_true, beq_iff_eq] at h; exact h.2
theorem cx_all_k (l : List S67) (n : Int) (hl : l.length ≤ 9223372036854775807) (k : Nat) (hk : l.length + 2 ≤ k) : health_All.f k l n = some (allB l n) := by
  have := all_loop l l n hl l.length k 0 (by omega) (by omega) (by omega)
  exact this
def cx_sitesR (v : Int) (l : List S70) (hs : List S67) : List S72 × Int := if (mayC v l && allB hs 3) = true then (picked (l.map cx_toB) hs l.length, 0) else ([], 1300)
theorem cx_sites_f (v : Int) (l : List S70) (hs : List S67) (hh : hs.length ≤ 9223372036854775807) (k : Nat) (hk : hs.length + 10 ≤ k) : cand_Sites.f k v l hs = some (cx_sitesR v l hs) := by
  obtain ⟨k, rfl⟩ : ∃ m, k = m + 1 := ⟨k - 1, by omega⟩
  unfold cand_Sites.f cx_sitesR
  rw [cx_may_f]
  cases hm : mayC v l
  · simp [cand_Sites.j0]
  · rw [Option.bind_some, if_pos rfl, cx_all_k hs 3 hh (k + 1) (by omega), Option.bind_some]
    cases ha : allB hs 3
    · simp [cand_Sites.j0]
    · have hl := cx_mayC_len hm
      have h3 := cx_allB_len ha
      simp only [cand_Sites.j0, Bool.not_true, Bool.false_eq_true, if_false]
      have := cx_sites_loop l hs hl (by omega) 3 k 0 (by omega) (by omega) (by omega)
      simp only [Bool.and_self, if_true]
      exact this
theorem cm_l1 (R : Bool) (N : Nat) (i v : Int) (L : List S70) (f0 : Int) (f1 : Bool) (f2 : Int) (bs : List S74) (hb : bs.length ≤ 4) (P : ∀ k, N ≤ k → wharfageref10_ConfMay.l0 k (wrap64 (i + 1)) v L = some R) (e : Nat) : ∀ (k j : Nat), bs.length - j ≤ e → N + e + 1 ≤ k → j ≤ bs.length → wharfageref10_ConfMay.l1 k i (j : Int) v L f0 f1 f2 bs = some ((bs.drop j).all backOk && R) := by
  induction e with
  | zero =>
    intro k j hd hk hj
    obtain ⟨k, rfl⟩ : ∃ m, k = m + 1 := ⟨k - 1, by omega⟩
    simp only [wharfageref10_ConfMay.l1]
    rw [if_neg (by omega), List.drop_of_length_le (by omega), P k (by omega)]; simp
  | succ e ih =>
    intro k j hd hk hj
    obtain ⟨k, rfl⟩ : ∃ m, k = m + 1 := ⟨k - 1, by omega⟩
    simp only [wharfageref10_ConfMay.l1]
    by_cases h : (j : Int) < (bs.length : Int)
    · have hlt : j < bs.length := by omega
      have er : rd_T74 bs (j : Int) = bs[j] := by simp [rd_T74, hlt]
      have nx := ih k (j + 1) (by omega) (by omega) (by omega)
      rw [if_pos h, if_pos (by omega), er, List.drop_eq_getElem_cons hlt, List.all_cons, show wrap64 ((j : Int) + 1) = ((j + 1 : Nat) : Int) by unfold wrap64; omega, nx]
      by_cases h1 : bs[j].f0 < 0
      · rw [if_pos h1, show backOk bs[j] = false from decide_eq_false (by omega)]; simp
      · rw [if_neg h1]
        by_cases h2 : bs[j].f0 > 16
        · rw [if_pos h2, show backOk bs[j] = false from decide_eq_false (by omega)]; simp
        · rw [if_neg h2, show backOk bs[j] = true from decide_eq_true (by omega)]; simp
    · rw [if_neg h, List.drop_of_length_le (by omega), P k (by omega)]; simp
theorem cm_l0 (v : Int) (L : List S70) (hL : L.length ≤ 3) (m : Nat) : ∀ (k i : Nat), L.length - i ≤ m → 8 * m + 1 ≤ k → i ≤ L.length → wharfageref10_ConfMay.l0 k (i : Int) v L = some ((L.drop i).all siteOk) := by
  induction m with
  | zero =>
    intro k i hd hk hi
    obtain ⟨k, rfl⟩ : ∃ m, k = m + 1 := ⟨k - 1, by omega⟩
    simp only [wharfageref10_ConfMay.l0]
    rw [if_neg (by omega), List.drop_of_length_le (by omega)]; rfl
  | succ m ih =>
    intro k i hd hk hi
    obtain ⟨k, rfl⟩ : ∃ m, k = m + 2 := ⟨k - 2, by omega⟩
    by_cases h : (i : Int) < (L.length : Int)
    · have hlt : i < L.length := by omega
      have er : rd_T70 L (i : Int) = L[i] := by simp [rd_T70, hlt]
      have jt : ∀ f0 f1 f2 bs, wharfageref10_ConfMay.j2 (k + 1) (i : Int) true v L f0 f1 f2 bs = some false := fun _ _ _ _ => by simp only [wharfageref10_ConfMay.j2]; rfl
      have jf : ∀ f0 f1 f2 (bs : List S74), bs.length ≤ 4 → wharfageref10_ConfMay.j2 (k + 1) (i : Int) false v L f0 f1 f2 bs = some (bs.all backOk && (L.drop (i + 1)).all siteOk) := fun f0 f1 f2 bs hb => by
        simp only [wharfageref10_ConfMay.j2]
        rw [if_neg (by decide)]
        have := cm_l1 ((L.drop (i + 1)).all siteOk) (8 * m + 1) (i : Int) v L f0 f1 f2 bs hb (fun k hk => by rw [show wrap64 ((i : Int) + 1) = ((i + 1 : Nat) : Int) by unfold wrap64; omega]; exact ih k (i + 1) (by omega) hk (by omega)) 4 k 0 (by omega) (by omega) (by omega)
        rw [List.drop_zero] at this
        exact this
      rw [List.drop_eq_getElem_cons hlt, List.all_cons]
      simp only [wharfageref10_ConfMay.l0]
      rw [if_pos h, if_pos (by omega), er, jt]
      rw [show siteOk L[i] = (L[i].f3.all backOk && decide (0 ≤ L[i].f0 ∧ L[i].f0 ≤ 16) && decide (0 ≤ L[i].f2 ∧ L[i].f2 ≤ 8) && decide (L[i].f3.length ≤ 4)) from rfl]
      by_cases h1 : L[i].f0 < 0
      · rw [if_pos h1, decide_eq_false (show ¬ (0 ≤ L[i].f0 ∧ L[i].f0 ≤ 16) by omega)]; simp
      rw [if_neg h1]
      by_cases h2 : L[i].f0 > 16
      · rw [if_pos h2, decide_eq_false (show ¬ (0 ≤ L[i].f0 ∧ L[i].f0 ≤ 16) by omega)]; simp
      rw [if_neg h2, decide_eq_true (show 0 ≤ L[i].f0 ∧ L[i].f0 ≤ 16 by omega)]
      by_cases h3 : L[i].f2 < 0
      · rw [if_pos h3, decide_eq_false (show ¬ (0 ≤ L[i].f2 ∧ L[i].f2 ≤ 8) by omega)]; simp
      rw [if_neg h3]
      by_cases h4 : L[i].f2 > 8
      · rw [if_pos h4, decide_eq_false (show ¬ (0 ≤ L[i].f2 ∧ L[i].f2 ≤ 8) by omega)]; simp
      rw [if_neg h4, decide_eq_true (show 0 ≤ L[i].f2 ∧ L[i].f2 ≤ 8 by omega)]
      by_cases h5 : L[i].f3.length ≤ 4
      · rw [decide_eq_false (show ¬ ((L[i].f3.length : Int) > 4) by omega), jf _ _ _ _ h5, decide_eq_true h5]; simp
      · rw [decide_eq_true (show (L[i].f3.length : Int) > 4 by omega), jt, decide_eq_false h5]; simp
    · simp only [wharfageref10_ConfMay.l0]
      rw [if_neg h, List.drop_of_length_le (by omega)]; rfl
theorem cm_f (v : Int) (L : List S70) (k : Nat) (hk : 60 ≤ k) : wharfageref10_ConfMay.f k v L = some (mayC v L) := by
  obtain ⟨k, rfl⟩ : ∃ m, k = m + 1 := ⟨k - 1, by omega⟩
  have jt : wharfageref10_ConfMay.j0 (k + 1) true v L = some false := by simp only [wharfageref10_ConfMay.j0]; rfl
  unfold wharfageref10_ConfMay.f mayC
  rw [jt]
  by_cases h1 : v < 0
  · rw [if_pos h1, decide_eq_false (show ¬ (0 ≤ v ∧ v ≤ 1048576) by omega)]; simp
  rw [if_neg h1]
  by_cases h2 : v > 1048576
  · rw [if_pos h2, decide_eq_false (show ¬ (0 ≤ v ∧ v ≤ 1048576) by omega)]; simp
  rw [if_neg h2, decide_eq_true (show 0 ≤ v ∧ v ≤ 1048576 by omega)]
  by_cases h3 : L.length ≤ 3
  · rw [decide_eq_false (show ¬ ((L.length : Int) > 3) by omega), decide_eq_true h3]
    simp only [wharfageref10_ConfMay.j0]
    rw [if_neg (by decide)]
    have := cm_l0 v L h3 3 k 0 (by omega) (by omega) (by omega)
    rw [List.drop_zero] at this
    rw [show (0 : Int) = ((0 : Nat) : Int) from rfl, this]; simp
  · rw [decide_eq_true (show (L.length : Int) > 3 by omega), jt, decide_eq_false h3]; simp
def sizeOk (l : List S70) : Bool := decide (l.length < 2932031007402) && l.all (fun x => decide (x.f3.length < 8796093022208))
theorem cc_loop (v : Int) (l : List S70) (hl : l.length < 2932031007402) (hb : ∀ x ∈ l, x.f3.length < 8796093022208) (d : Nat) : ∀ (k i : Nat), l.length - i ≤ d → d < k → i ≤ l.length → wharfagelaw0_CopyConfig.l0 k (i : Int) v l v (l.take i) = some (v, l) := by
  induction d with
  | zero =>
    intro k i hd hk hi
    obtain ⟨k, rfl⟩ : ∃ m, k = m + 1 := ⟨k - 1, by omega⟩
    simp only [wharfagelaw0_CopyConfig.l0]
    rw [if_neg (by omega), List.take_of_length_le (by omega)]
  | succ d ih =>
    intro k i hd hk hi
    obtain ⟨k, rfl⟩ : ∃ m, k = m + 1 := ⟨k - 1, by omega⟩
    simp only [wharfagelaw0_CopyConfig.l0]
    by_cases h : (i : Int) < (l.length : Int)
    · have hlt : i < l.length := by omega
      have hx := hb l[i] (List.getElem_mem hlt)
      have er : rd_T70 l (i : Int) = l[i] := by simp [rd_T70, hlt]
      rw [if_pos h, if_pos (show (0 : Int) ≤ (i : Int) by omega), er, Option.bind_some, if_pos (by simpa using hx), if_pos (by rw [List.length_take]; omega), show wrap64 ((i : Int) + 1) = ((i + 1 : Nat) : Int) by unfold wrap64; omega]
      have := ih k (i + 1) (by omega) (by omega) (by omega)
      rw [List.take_succ_eq_append_getElem hlt] at this
      exact this
    · rw [if_neg h, List.take_of_length_le (by omega)]
theorem cc_f (v : Int) (l : List S70) (h : sizeOk l = true) (k : Nat) (hk : l.length < k) : wharfagelaw0_CopyConfig.f k v l = some (v, l) := by
  unfold sizeOk at h
  simp only [Bool.and_eq_true, decide_eq_true_eq, List.all_eq_true] at h
  have := cc_loop v l h.1 h.2 l.length k 0 (by omega) hk (by omega)
  simpa [wharfagelaw0_CopyConfig.f] using this
theorem sb_loop (l : List S74) (hl : l.length ≤ 9223372036854775806) (d : Nat) : ∀ (k i : Nat), l.length - i ≤ d → d < k → wharfagelaw0_SameBacks.l0 k l l (i : Int) = some true := by
  induction d with
  | zero =>
    intro k i hd hk
    obtain ⟨k, rfl⟩ : ∃ m, k = m + 1 := ⟨k - 1, by omega⟩
    simp only [wharfagelaw0_SameBacks.l0]
    rw [if_neg (by omega)]
  | succ d ih =>
    intro k i hd hk
    obtain ⟨k, rfl⟩ : ∃ m, k = m + 1 := ⟨k - 1, by omega⟩
    simp only [wharfagelaw0_SameBacks.l0]
    by_cases h : (i : Int) < (l.length : Int)
    · rw [if_pos h, if_pos (show (0 : Int) ≤ (i : Int) by omega), if_pos h, if_neg (by simp), show wrap64 ((i : Int) + 1) = ((i + 1 : Nat) : Int) by unfold wrap64; omega]
      exact ih k (i + 1) (by omega) (by omega)
    · rw [if_neg h]
theorem sc_loop (v : Int) (l : List S70) (B : Nat) (hl : l.length ≤ 9223372036854775806) (hb : ∀ x ∈ l, x.f3.length ≤ B) (hB : B ≤ 9223372036854775806) (d : Nat) : ∀ (k i : Nat), l.length - i ≤ d → d + B + 1 < k → wharfagelaw0_SameConfig.l0 k (i : Int) v l v l = some true := by
  induction d with
  | zero =>
    intro k i hd hk
    obtain ⟨k, rfl⟩ : ∃ m, k = m + 1 := ⟨k - 1, by omega⟩
    simp only [wharfagelaw0_SameConfig.l0]
    rw [if_neg (by omega)]
  | succ d ih =>
    intro k i hd hk
    obtain ⟨k, rfl⟩ : ∃ m, k = m + 1 := ⟨k - 1, by omega⟩
    simp only [wharfagelaw0_SameConfig.l0]
    by_cases h : (i : Int) < (l.length : Int)
    · have hlt : i < l.length := by omega
      have er : rd_T70 l (i : Int) = l[i] := by simp [rd_T70, hlt]
      have hx := hb l[i] (List.getElem_mem hlt)
      have e1 : wharfagelaw0_SameBacks.f k l[i].f3 l[i].f3 = some true := by
        unfold wharfagelaw0_SameBacks.f
        rw [if_pos rfl]
        exact sb_loop _ (by omega) l[i].f3.length k 0 (by omega) (by omega)
      rw [if_pos h, if_pos (show (0 : Int) ≤ (i : Int) by omega), if_pos h, er, e1, show wrap64 ((i : Int) + 1) = ((i + 1 : Nat) : Int) by unfold wrap64; omega]
      simp only [bne_self_eq_false, Bool.false_eq_true, if_false, if_true, Option.bind_some]
      exact ih k (i + 1) (by omega) (by omega)
    · rw [if_neg h]
theorem sc_f (v : Int) (l : List S70) (h : sizeOk l = true) : wharfagelaw0_SameConfig.f (l.length + 8796093022210) v l v l = some true := by
  unfold sizeOk at h
  simp only [Bool.and_eq_true, decide_eq_true_eq, List.all_eq_true] at h
  unfold wharfagelaw0_SameConfig.f
  rw [if_pos rfl, if_pos rfl]
  exact sc_loop v l 8796093022208 (by omega) (fun x hx => by have := h.2 x hx; omega) (by omega) l.length _ 0 (by omega) (by omega)
theorem hm_l0 (l : List S67) (n : Int) (hl : l.length ≤ 9223372036854775806) (d : Nat) : ∀ (k i : Nat), l.length - i ≤ d → d < k → i ≤ l.length → wharfageref10_healthsMay.l0 k l n (i : Int) = some ((l.drop i).all (fun h => healthOk h.f0 h.f1) && (l.length : Int) == n) := by
  have he : ∀ (u : Bool) (c : Int), wharfageref10_HealthMay.f u c = some (healthOk u c) := by
    intro u c
    unfold wharfageref10_HealthMay.f healthOk
    cases u
    all_goals
      by_cases h : c ≥ 0
      · simp [h]
      · have h2 : ¬ 0 ≤ c := by omega
        simp [h, h2]
  induction d with
  | zero =>
    intro k i hd hk hi
    obtain ⟨k, rfl⟩ : ∃ m, k = m + 1 := ⟨k - 1, by omega⟩
    simp only [wharfageref10_healthsMay.l0]
    rw [if_neg (by omega), List.drop_of_length_le (by omega)]; rfl
  | succ d ih =>
    intro k i hd hk hi
    obtain ⟨k, rfl⟩ : ∃ m, k = m + 1 := ⟨k - 1, by omega⟩
    simp only [wharfageref10_healthsMay.l0]
    by_cases h : (i : Int) < (l.length : Int)
    · have hlt : i < l.length := by omega
      have er : rd_T67 l (i : Int) = l[i] := by simp [rd_T67, hlt]
      rw [if_pos h, if_pos (by omega), er, he, Option.bind_some, List.drop_eq_getElem_cons hlt, List.all_cons, show wrap64 ((i : Int) + 1) = ((i + 1 : Nat) : Int) by unfold wrap64; omega]
      cases hh : healthOk l[i].f0 l[i].f1
      · simp
      · rw [if_pos rfl, ih k (i + 1) (by omega) (by omega) (by omega)]; simp
    · rw [if_neg h, List.drop_of_length_le (by omega)]; rfl
theorem hm_f (l : List S67) (n : Int) (hl : l.length ≤ 9223372036854775806) (k : Nat) (hk : l.length < k) : wharfageref10_healthsMay.f k l n = some (allB l n) := by
  have := hm_l0 l n hl l.length k 0 (by omega) hk (by omega)
  exact this
theorem so_l0 (v : Int) (l : List S70) (hs : List S67) (hl : l.length ≤ 3) (hh : l.length ≤ hs.length) (d : Nat) : ∀ (k i : Nat), l.length - i ≤ d → d < k → i ≤ l.length → wharfageref10_SitesOf.l0 k hs (picked (l.map cx_toB) hs i) (i : Int) v l = some (picked (l.map cx_toB) hs l.length, 0) := by
  induction d with
  | zero =>
    intro k i hd hk hi
    obtain ⟨k, rfl⟩ : ∃ m, k = m + 1 := ⟨k - 1, by omega⟩
    obtain rfl : i = l.length := by omega
    simp only [wharfageref10_SitesOf.l0]
    rw [if_neg (by omega)]
  | succ d ih =>
    intro k i hd hk hi
    obtain ⟨k, rfl⟩ : ∃ m, k = m + 1 := ⟨k - 1, by omega⟩
    simp only [wharfageref10_SitesOf.l0]
    by_cases h : (i : Int) < (l.length : Int)
    · have hp := picked_len (l.map cx_toB) hs i
      have nx := ih k (i + 1) (by omega) (by omega) (by omega)
      rw [cx_picked_succ, cx_rdB] at nx
      unfold addOne cx_toB at nx
      rw [if_pos h, if_pos (show (0 : Int) ≤ (i : Int) by omega), if_pos (by omega), show wrap64 ((i : Int) + 1) = ((i + 1 : Nat) : Int) by unfold wrap64; omega]
      by_cases h1 : (rd_T67 hs (i : Int)).f0 = true
      · rw [if_pos h1]
        by_cases h2 : (rd_T70 l (i : Int)).f1 = true
        · rw [if_pos h2]
          rw [if_neg (by rintro ⟨_, h3, _⟩; simp only [] at h3; rw [h2] at h3; cases h3)] at nx
          exact nx
        · rw [if_neg h2]
          by_cases h3 : (rd_T70 l (i : Int)).f0 > 0
          · rw [if_pos h3, if_pos (by omega)]
            rw [if_pos ⟨h1, by simpa using h2, h3⟩] at nx
            exact nx
          · rw [if_neg h3]
            rw [if_neg (fun h4 => h3 h4.2.2)] at nx
            exact nx
      · rw [if_neg h1]
        rw [if_neg (fun h4 => h1 h4.1)] at nx
        exact nx
    · obtain rfl : i = l.length := by omega
      rw [if_neg h]
theorem so_f (v : Int) (l : List S70) (hs : List S67) (hh : hs.length ≤ 9223372036854775806) (k : Nat) (hk : hs.length + 60 ≤ k) : wharfageref10_SitesOf.f k v l hs = some (cx_sitesR v l hs) := by
  obtain ⟨k, rfl⟩ : ∃ m, k = m + 1 := ⟨k - 1, by omega⟩
  unfold wharfageref10_SitesOf.f cx_sitesR
  rw [cm_f v l (k + 1) (by omega)]
  cases hm : mayC v l
  · simp [wharfageref10_SitesOf.j0]
  · rw [Option.bind_some, if_pos rfl, hm_f hs 3 hh (k + 1) (by omega), Option.bind_some]
    cases ha : allB hs 3
    · simp [wharfageref10_SitesOf.j0]
    · have hl := cx_mayC_len hm
      have h3 := cx_allB_len ha
      simp only [wharfageref10_SitesOf.j0, Bool.not_true, Bool.false_eq_true, if_false]
      have := so_l0 v l hs hl (by omega) 3 k 0 (by omega) (by omega) (by omega)
      simp only [Bool.and_self, if_true]
      exact this
theorem bo_l0 (bs : List S74) (hs : List S67) (hl : bs.length ≤ 4) (hh : bs.length ≤ hs.length) (d : Nat) : ∀ (k i : Nat), bs.length - i ≤ d → d < k → i ≤ bs.length → wharfageref10_BacksOf.l0 k hs (picked bs hs i) bs (i : Int) = some (picked bs hs bs.length, 0) := by
  induction d with
  | zero =>
    intro k i hd hk hi
    obtain ⟨k, rfl⟩ : ∃ m, k = m + 1 := ⟨k - 1, by omega⟩
    obtain rfl : i = bs.length := by omega
    simp only [wharfageref10_BacksOf.l0]
    rw [if_neg (by omega)]
  | succ d ih =>
    intro k i hd hk hi
    obtain ⟨k, rfl⟩ : ∃ m, k = m + 1 := ⟨k - 1, by omega⟩
    simp only [wharfageref10_BacksOf.l0]
    by_cases h : (i : Int) < (bs.length : Int)
    · have hp := picked_len bs hs i
      have nx := ih k (i + 1) (by omega) (by omega) (by omega)
      rw [cx_picked_succ] at nx
      unfold addOne at nx
      rw [if_pos h, if_pos (show (0 : Int) ≤ (i : Int) by omega), if_pos (by omega), show wrap64 ((i : Int) + 1) = ((i + 1 : Nat) : Int) by unfold wrap64; omega]
      by_cases h1 : (rd_T67 hs (i : Int)).f0 = true
      · rw [if_pos h1]
        by_cases h2 : (rd_T74 bs (i : Int)).f1 = true
        · rw [if_pos h2]
          rw [if_neg (by rintro ⟨_, h3, _⟩; rw [h2] at h3; cases h3)] at nx
          exact nx
        · rw [if_neg h2]
          by_cases h3 : (rd_T74 bs (i : Int)).f0 > 0
          · rw [if_pos h3, if_pos (by omega)]
            rw [if_pos ⟨h1, by simpa using h2, h3⟩] at nx
            exact nx
          · rw [if_neg h3]
            rw [if_neg (fun h4 => h3 h4.2.2)] at nx
            exact nx
      · rw [if_neg h1]
        rw [if_neg (fun h4 => h1 h4.1)] at nx
        exact nx
    · obtain rfl : i = bs.length := by omega
      rw [if_neg h]
theorem bo_f (v : Int) (l : List S70) (site : Int) (hs : List S67) (hh : hs.length ≤ 9223372036854775806) (k : Nat) (hk : hs.length + 60 ≤ k) : wharfageref10_BacksOf.f k v l site hs = cand_Backs.f v l site hs := by
  obtain ⟨k, rfl⟩ : ∃ m, k = m + 1 := ⟨k - 1, by omega⟩
  unfold wharfageref10_BacksOf.f cand_Backs.f cand_Backs.ok wharfageref10_Has.f
  rw [cm_f v l (k + 1) (by omega)]
  cases hm : mayC v l
  · simp [wharfageref10_BacksOf.j0]
  · simp only [Option.bind_some, if_true]
    rw [hm_f hs 4 hh (k + 1) (by omega)]
    cases ha : allB hs 4
    · simp [wharfageref10_BacksOf.j0]
    · have hl := cx_mayC_len hm
      have h4 := cx_allB_len ha
      simp only [Option.bind_some, if_true]
      by_cases hs0 : site ≥ 0
      · by_cases hs1 : site < (l.length : Int)
        · obtain ⟨i, rfl⟩ := Int.eq_ofNat_of_zero_le hs0
          have hlt : i < l.length := by omega
          have er : rd_T70 l (i : Int) = l[i] := by simp [rd_T70, hlt]
          have hb := cx_siteOk_len (cx_mayC_in hm (List.getElem_mem hlt))
          rw [if_pos hs0, if_pos hs1]
          simp only [if_true, Option.bind_some, wharfageref10_BacksOf.j0, Bool.not_true, Bool.false_eq_true, if_false]
          rw [if_pos (by omega), if_pos hs1, er]
          have := bo_l0 l[i].f3 hs hb (by omega) 4 k 0 (by omega) (by omega) (by omega)
          rw [decide_eq_true (show 0 ≤ (i : Int) ∧ (i : Int) < (l.length : Int) by omega)]
          simp only [Bool.and_self, if_true]
          exact this
        · rw [if_pos hs0, if_neg hs1, decide_eq_false (show ¬ (0 ≤ site ∧ site < (l.length : Int)) by omega)]
          simp [wharfageref10_BacksOf.j0]
      · rw [if_neg hs0, decide_eq_false (show ¬ (0 ≤ site ∧ site < (l.length : Int)) by omega)]
        simp [wharfageref10_BacksOf.j0]
theorem sca_l0 (l : List S72) (hl : l.length ≤ 9223372036854775806) (d : Nat) : ∀ (k i : Nat), l.length - i ≤ d → d < k → wharfagelaw0_SameCandidates.l0 k l l (i : Int) = some true := by
  induction d with
  | zero =>
    intro k i hd hk
    obtain ⟨k, rfl⟩ : ∃ m, k = m + 1 := ⟨k - 1, by omega⟩
    simp only [wharfagelaw0_SameCandidates.l0]
    rw [if_neg (by omega)]
  | succ d ih =>
    intro k i hd hk
    obtain ⟨k, rfl⟩ : ∃ m, k = m + 1 := ⟨k - 1, by omega⟩
    simp only [wharfagelaw0_SameCandidates.l0]
    by_cases h : (i : Int) < (l.length : Int)
    · rw [if_pos h, if_pos (show (0 : Int) ≤ (i : Int) by omega), if_pos h, if_neg (by simp), show wrap64 ((i : Int) + 1) = ((i + 1 : Nat) : Int) by unfold wrap64; omega]
      exact ih k (i + 1) (by omega) (by omega)
    · rw [if_neg h]
theorem sca_f (l : List S72) (hl : l.length ≤ 9223372036854775806) : wharfagelaw0_SameCandidates.f (l.length + 1) l l = some true := by
  unfold wharfagelaw0_SameCandidates.f
  rw [if_pos rfl]
  exact sca_l0 l hl l.length _ 0 (by omega) (by omega)
theorem spo_l0 (d : Nat) : ∀ (k i : Nat) (l : List S72), l.length ≤ 9223372036854775806 → l.length - i ≤ d → d < k → i ≤ l.length → ∃ r, wharfagelaw0_SpoilCandidates.l0 k l (i : Int) = some r := by
  induction d with
  | zero =>
    intro k i l hl hd hk hi
    obtain ⟨k, rfl⟩ : ∃ m, k = m + 1 := ⟨k - 1, by omega⟩
    simp only [wharfagelaw0_SpoilCandidates.l0]
    rw [if_neg (by omega)]; exact ⟨_, rfl⟩
  | succ d ih =>
    intro k i l hl hd hk hi
    obtain ⟨k, rfl⟩ : ∃ m, k = m + 1 := ⟨k - 1, by omega⟩
    simp only [wharfagelaw0_SpoilCandidates.l0]
    by_cases h : (i : Int) < (l.length : Int)
    · rw [if_pos h, if_pos (by omega), show wrap64 ((i : Int) + 1) = ((i + 1 : Nat) : Int) by unfold wrap64; omega]
      exact ih k (i + 1) _ (by rw [List.length_set]; exact hl) (by rw [List.length_set]; omega) (by omega) (by rw [List.length_set]; omega)
    · rw [if_neg h]; exact ⟨_, rfl⟩
theorem spo_f (l : List S72) (hl : l.length ≤ 9223372036854775806) : ∃ r, wharfagelaw0_SpoilCandidates.f (l.length + 1) l = some r := spo_l0 l.length (l.length + 1) 0 l hl (by omega) (by omega) (by omega)
theorem cx_len1 (v : Int) (l : List S70) (hs : List S67) : (cx_sitesR v l hs).1.length ≤ 100 := by
  unfold cx_sitesR
  cases hm : mayC v l
  · simp
  · split
    · have := picked_len (l.map cx_toB) hs l.length
      have := cx_mayC_len hm
      simp only []; omega
    · simp
theorem cx_len2 (v : Int) (l : List S70) (site : Int) (hs : List S67) (r : List S72 × Int) (h : cand_Backs.f v l site hs = some r) : r.1.length ≤ 100 := by
  unfold cand_Backs.f at h
  obtain rfl := Option.some.inj h
  split
  · rename_i h1
    unfold cand_Backs.ok at h1
    simp only [Bool.and_eq_true, decide_eq_true_eq] at h1
    obtain ⟨i, rfl⟩ := Int.eq_ofNat_of_zero_le h1.2.2.1
    have hlt : i < l.length := by omega
    have er : rd_T70 l (i : Int) = l[i] := by simp [rd_T70, hlt]
    have hb := cx_siteOk_len (cx_mayC_in h1.1 (List.getElem_mem hlt))
    have := picked_len (rd_T70 l (i : Int)).f3 hs (rd_T70 l (i : Int)).f3.length
    rw [er] at this ⊢
    simp only []; omega
  · simp
def wharfagelaw13_Cands.f (a0_0 : Int) (l0_1 : List S70) (a1 : Int) (l2 l3 : List S67) : Option Bool := if sizeOk l0_1 = true ∧ l2.length + 2 < 8796093022208 ∧ l3.length + 2 < 8796093022208 then some true else none
theorem cx_aw : wharfagelaw13_awake.f 60 = some true := by decide +kernel
set_option maxHeartbeats 8000000 in
set_option maxRecDepth 100000 in
theorem wharfagelaw13_Cands.calls (a0_0 : Int) (A0_1 : Option Addr) (c0_1 : Nat) (l0_1 : List S70) (a1 : Int) (A2 : Option Addr) (c2 : Nat) (l2 : List S67) (A3 : Option Addr) (c3 : Nat) (l3 : List S67) (r : Bool) (w : World) (hr0_1 : Kd.C k70 w A0_1 l0_1.length l0_1) (hc0_1 : l0_1.length ≤ c0_1) (hr2 : Kd.C k67 w A2 l2.length l2) (hc2 : l2.length ≤ c2) (hr3 : Kd.C k67 w A3 l3.length l3) (hc3 : l3.length ≤ c3) (h : wharfagelaw13_Cands.f a0_0 l0_1 a1 l2 l3 = some r) :
    Calls Try.prog 7 #[.agg #[.int .i64 a0_0, .slice A0_1 l0_1.length c0_1], .int .i64 a1, .slice A2 l2.length c2, .slice A3 l3.length c3] w fun e w' => e = .returned (.bool r) ∧ Below w.heap.size w w' := by
  unfold wharfagelaw13_Cands.f at h
  by_cases hsz : sizeOk l0_1 = true ∧ l2.length + 2 < 8796093022208 ∧ l3.length + 2 < 8796093022208
  case neg => rw [if_neg hsz] at h; exact absurd h (by simp)
  rw [if_pos hsz] at h
  obtain rfl := Option.some.inj h
  clear h
  have hu := Try.underlying70
  have hu2 := Try.underlying49
  have HZ := Aside0.mk hsz
  have HC := Aside0.mk (And.intro hc0_1 (And.intro hc2 hc3))
  have R1 := Aside0.mk hr0_1
  have R2 := Aside0.mk hr2
  have R3 := Aside0.mk hr3
  obtain ⟨sl, se, hs1⟩ : ∃ sl se, cx_sitesR a0_0 l0_1 l2 = (sl, se) := ⟨_, _, rfl⟩
  have HS1 := Aside0.mk hs1
  have HS2 := Aside0.mk (show sl.length ≤ 100 by have := cx_len1 a0_0 l0_1 l2; rw [hs1] at this; exact this)
  obtain ⟨bl, be, hs3⟩ : ∃ bl be, cand_Backs.f a0_0 l0_1 a1 l3 = some (bl, be) := ⟨_, _, rfl⟩
  have HS3 := Aside0.mk hs3
  have HS4 := Aside0.mk (show bl.length ≤ 100 from cx_len2 a0_0 l0_1 a1 l3 _ hs3)
  obtain ⟨sl2, hs5⟩ := spo_f sl (by have := HS2.out; omega)
  obtain ⟨bl2, hs6⟩ := spo_f bl (by have := HS4.out; omega)
  have HS5 := Aside0.mk hs5
  have HS6 := Aside0.mk hs6
  clear hsz hc0_1 hc2 hc3 hr0_1 hr2 hr3 hs1 hs3 hs5 hs6
  have HB := Aside0.mk (Below.refl w.heap.size w)
  have F0 := Aside0.mk trivial
  have F1 := Aside0.mk trivial
  have F2 := Aside0.mk trivial
  go_enter Try.func7, Try.ntmps7
  go_wp2_with first
    | (go_at_call 25; refine (wharfagelaw0_CopyConfig.calls (l0_1.length + 1) a0_0 A0_1 c0_1 l0_1 a0_0 l0_1 _ (Kd.C_below R1.out (below_alloc (Below.refl _ _) _)) HC.out.1 (cc_f a0_0 l0_1 HZ.out.1 _ (by omega))).mono ?_; rintro e w1 ⟨v1, rfl, ho, hb⟩; obtain ⟨AX, cX, rfl⟩ := Kd.S_slice ho; have CX := Aside0.mk (Kd.S_reads' ho).2.1; have RX := Aside0.mk (Kd.S_reads' ho).2.2; have b0 : w1.cell? ⟨w.heap.size, 0, none⟩ = some (.int .i64 a0_0) := pw_cell_below hb (by simp); have b1 : w1.cell? ⟨w.heap.size, 1, none⟩ = some (.slice A0_1 l0_1.length c0_1) := pw_cell_below hb (by simp); replace R1 := Aside0.mk (Kd.C_below (Kd.C_below R1.out (below_alloc (Below.refl _ _) _)) hb); replace R2 := Aside0.mk (Kd.C_below (Kd.C_below R2.out (below_alloc (Below.refl _ _) _)) hb); replace R3 := Aside0.mk (Kd.C_below (Kd.C_below R3.out (below_alloc (Below.refl _ _) _)) hb); replace HB := Aside0.mk (below_step (below_alloc HB.out _) hb); clear hb ho)
    | (go_at_call 26; clear F0; refine (wharfagelaw0_LendHealths.calls A2 c2 l2 l2 _ R2.out HC.out.2.1 (if_pos HZ.out.2.1)).mono ?_; rintro e w2 ⟨gY, cY, rfl, hc, hg, hx, hb⟩; have CY := Aside0.mk hc; have RY := Aside0.mk hx; clear hc hg hx; replace b0 := pw_cell_below hb b0; replace b1 := pw_cell_below hb b1; replace R1 := Aside0.mk (Kd.C_below R1.out hb); replace R2 := Aside0.mk (Kd.C_below R2.out hb); replace R3 := Aside0.mk (Kd.C_below R3.out hb); replace RX := Aside0.mk (Kd.C_below RX.out hb); replace HB := Aside0.mk (below_step HB.out hb); clear hb)
    | (go_at_call 26; refine (wharfagelaw0_LendHealths.calls A3 c3 l3 l3 _ R3.out HC.out.2.2 (if_pos HZ.out.2.2)).mono ?_; rintro e w3 ⟨gZ, cZ, rfl, hc, hg, hx, hb⟩; have CZ := Aside0.mk hc; have RZ := Aside0.mk hx; clear hc hg hx; replace b0 := pw_cell_below hb b0; replace b1 := pw_cell_below hb b1; replace R1 := Aside0.mk (Kd.C_below R1.out hb); replace R2 := Aside0.mk (Kd.C_below R2.out hb); replace R3 := Aside0.mk (Kd.C_below R3.out hb); replace RX := Aside0.mk (Kd.C_below RX.out hb); replace RY := Aside0.mk (Kd.C_below RY.out hb); replace HB := Aside0.mk (below_step HB.out hb); clear hb)
    | (go_at_call 27; obtain ⟨w4, hW⟩ : ∃ x_, x_ = w3.alloc (Obj.cells #[Value.int IntKind.i64 a0_0, Value.slice AX l0_1.length cX] 49) := ⟨_, rfl⟩; rw [← hW]; have hb : Below w3.heap.size w3 w4 := hW ▸ below_alloc (Below.refl _ _) _; have x0 : w4.cell? ⟨w3.heap.size, 0, none⟩ = some (.int .i64 a0_0) := (by rw [hW]; simp); have x1 : w4.cell? ⟨w3.heap.size, 1, none⟩ = some (.slice AX l0_1.length cX) := (by rw [hW]; simp); clear hW; replace b0 := pw_cell_below hb b0; replace b1 := pw_cell_below hb b1; replace R1 := Aside0.mk (Kd.C_below R1.out hb); replace R2 := Aside0.mk (Kd.C_below R2.out hb); replace R3 := Aside0.mk (Kd.C_below R3.out hb); replace RX := Aside0.mk (Kd.C_below RX.out hb); replace RY := Aside0.mk (Kd.C_below RY.out hb); replace RZ := Aside0.mk (Kd.C_below RZ.out hb); replace HB := Aside0.mk (below_step HB.out hb); clear hb; refine (cand_Sites.calls (l2.length + l3.length + 300) a0_0 AX cX l0_1 (some ⟨gY, 0, none⟩) cY l2 sl se _ RX.out CX.out (Go.Proofs.Ytnocfhnandedoaa.Hand.hk_head RY.out rfl) (by have := CY.out; omega) (by rw [cx_sites_f _ _ _ (by have := HZ.out.2.1; omega) _ (by omega), HS1.out])).mono ?_; rintro e w5 ⟨v5, rfl, ho, hb⟩; obtain ⟨A5, c5, rfl⟩ := Kd.R_slice ho; have C5 := Aside0.mk (Kd.R_reads' ho).2.1; have O5 := Aside0.mk (Kd.R_reads' ho).2.2; have HO5 := Aside0.mk (show Kd.R k72 72 w5 w4.heap.size (fun k => k < w5.heap.size) (.slice A5 sl.length c5) sl from Kd.R_mono (Kd.R_bound ho) (fun k hk => hk.2.2.1)); have HB4 := HB; have HBS := Aside0.mk hb; have x04 := Aside0.mk (And.intro x0 x1); have b04 := Aside0.mk (And.intro b0 b1); have R14 := R1; have R24 := R2; have R34 := R3; have RX4 := RX; have RY4 := RY; have RZ4 := RZ; clear ho; replace b0 := pw_cell_below hb b0; replace b1 := pw_cell_below hb b1; replace x0 := pw_cell_below hb x0; replace x1 := pw_cell_below hb x1; replace R1 := Aside0.mk (Kd.C_below R1.out hb); replace R2 := Aside0.mk (Kd.C_below R2.out hb); replace R3 := Aside0.mk (Kd.C_below R3.out hb); replace RX := Aside0.mk (Kd.C_below RX.out hb); replace RY := Aside0.mk (Kd.C_below RY.out hb); replace RZ := Aside0.mk (Kd.C_below RZ.out hb); replace HB := Aside0.mk (below_step HB.out hb); clear hb)
    | (go_at_call 28; refine (wharfageref10_SitesOf.calls (l2.length + l3.length + 300) a0_0 A0_1 c0_1 l0_1 A2 c2 l2 sl se _ R1.out HC.out.1 R2.out HC.out.2.1 (by rw [so_f _ _ _ (by have := HZ.out.2.1; omega) _ (by omega), HS1.out])).mono ?_; rintro e w6 ⟨v6, rfl, ho, hb⟩; obtain ⟨A6, c6, rfl⟩ := Kd.R_slice ho; have C6 := Aside0.mk (Kd.R_reads' ho).2.1; have O6 := Aside0.mk (Kd.R_reads' ho).2.2; have HM := Aside0.mk (below_size hb); clear ho; replace b0 := pw_cell_below hb b0; replace b1 := pw_cell_below hb b1; replace x0 := pw_cell_below hb x0; replace x1 := pw_cell_below hb x1; replace R1 := Aside0.mk (Kd.C_below R1.out hb); replace R2 := Aside0.mk (Kd.C_below R2.out hb); replace R3 := Aside0.mk (Kd.C_below R3.out hb); replace RX := Aside0.mk (Kd.C_below RX.out hb); replace RY := Aside0.mk (Kd.C_below RY.out hb); replace RZ := Aside0.mk (Kd.C_below RZ.out hb); replace O5 := Aside0.mk (Kd.C_below O5.out hb); replace HBS := Aside0.mk (below_step HBS.out hb); replace HO5 := Aside0.mk (Kd.R_below HO5.out hb); replace HB := Aside0.mk (below_step HB.out hb); clear hb; have HM2 := Aside0.mk (below_size HBS.out))
    | (go_at_call 29; refine (cand_Backs.calls a0_0 AX cX l0_1 a1 (some ⟨gZ, 0, none⟩) cZ l3 bl be _ RX.out CX.out (Go.Proofs.Ytnocfhnandedoaa.Hand.hk_head RZ.out rfl) (by have := CZ.out; omega) HS3.out).mono ?_; rintro e w7 ⟨v7, rfl, ho, hb⟩; obtain ⟨A7, c7, rfl⟩ := Kd.R_slice ho; have C7 := Aside0.mk (Kd.R_reads' ho).2.1; have O7 := Aside0.mk (Kd.R_reads' ho).2.2; have HO7 := Aside0.mk (show Kd.R k72 72 w7 w6.heap.size (fun k => w6.heap.size ≤ k) (.slice A7 bl.length c7) bl from Kd.R_mono (Kd.R_bound ho) (fun k hk => hk.2.1)); clear ho; replace b0 := pw_cell_below hb b0; replace b1 := pw_cell_below hb b1; replace x0 := pw_cell_below hb x0; replace x1 := pw_cell_below hb x1; replace R1 := Aside0.mk (Kd.C_below R1.out hb); replace R2 := Aside0.mk (Kd.C_below R2.out hb); replace R3 := Aside0.mk (Kd.C_below R3.out hb); replace RX := Aside0.mk (Kd.C_below RX.out hb); replace RY := Aside0.mk (Kd.C_below RY.out hb); replace RZ := Aside0.mk (Kd.C_below RZ.out hb); replace O5 := Aside0.mk (Kd.C_below O5.out hb); replace O6 := Aside0.mk (Kd.C_below O6.out hb); replace HBS := Aside0.mk (below_step HBS.out hb); replace HO5 := Aside0.mk (Kd.R_below HO5.out hb); replace HB := Aside0.mk (below_step HB.out hb); clear hb)
    | (go_at_call 30; refine (wharfageref10_BacksOf.calls (l2.length + l3.length + 300) a0_0 A0_1 c0_1 l0_1 a1 A3 c3 l3 bl be _ R1.out HC.out.1 R3.out HC.out.2.2 (by rw [bo_f _ _ _ _ (by have := HZ.out.2.2; omega) _ (by omega)]; exact HS3.out)).mono ?_; rintro e w8 ⟨v8, rfl, ho, hb⟩; obtain ⟨A8, c8, rfl⟩ := Kd.R_slice ho; have C8 := Aside0.mk (Kd.R_reads' ho).2.1; have O8 := Aside0.mk (Kd.R_reads' ho).2.2; clear ho; replace b0 := pw_cell_below hb b0; replace b1 := pw_cell_below hb b1; replace x0 := pw_cell_below hb x0; replace x1 := pw_cell_below hb x1; replace R1 := Aside0.mk (Kd.C_below R1.out hb); replace R2 := Aside0.mk (Kd.C_below R2.out hb); replace R3 := Aside0.mk (Kd.C_below R3.out hb); replace RX := Aside0.mk (Kd.C_below RX.out hb); replace RY := Aside0.mk (Kd.C_below RY.out hb); replace RZ := Aside0.mk (Kd.C_below RZ.out hb); replace O5 := Aside0.mk (Kd.C_below O5.out hb); replace O6 := Aside0.mk (Kd.C_below O6.out hb); replace O7 := Aside0.mk (Kd.C_below O7.out hb); replace HBS := Aside0.mk (below_step HBS.out hb); replace HO5 := Aside0.mk (Kd.R_below HO5.out hb); replace HO7 := Aside0.mk (Kd.R_below HO7.out hb); replace HB := Aside0.mk (below_step HB.out hb); clear hb)
    | (go_at_call 31; clear F1; refine (wharfagelaw0_SameCandidates.calls (sl.length + 1) A5 c5 sl A6 c6 sl true _ O5.out C5.out O6.out C6.out (sca_f sl (by have := HS2.out; omega))).mono ?_; rintro e w9 ⟨rfl, hn⟩; have hb := Go.Proofs.Ytnocfhnandedoaa.Hand.hk_drawn hn; clear hn; replace b0 := pw_cell_below hb b0; replace b1 := pw_cell_below hb b1; replace x0 := pw_cell_below hb x0; replace x1 := pw_cell_below hb x1; replace R1 := Aside0.mk (Kd.C_below R1.out hb); replace R2 := Aside0.mk (Kd.C_below R2.out hb); replace R3 := Aside0.mk (Kd.C_below R3.out hb); replace RX := Aside0.mk (Kd.C_below RX.out hb); replace RY := Aside0.mk (Kd.C_below RY.out hb); replace RZ := Aside0.mk (Kd.C_below RZ.out hb); replace O5 := Aside0.mk (Kd.C_below O5.out hb); replace O6 := Aside0.mk (Kd.C_below O6.out hb); replace O7 := Aside0.mk (Kd.C_below O7.out hb); replace O8 := Aside0.mk (Kd.C_below O8.out hb); replace HBS := Aside0.mk (below_step HBS.out hb); replace HO5 := Aside0.mk (Kd.R_below HO5.out hb); replace HO7 := Aside0.mk (Kd.R_below HO7.out hb); replace HB := Aside0.mk (below_step HB.out hb); clear hb)
    | (go_at_call 31; refine (wharfagelaw0_SameCandidates.calls (bl.length + 1) A7 c7 bl A8 c8 bl true _ O7.out C7.out O8.out C8.out (sca_f bl (by have := HS4.out; omega))).mono ?_; rintro e wa ⟨rfl, hn⟩; have hb := Go.Proofs.Ytnocfhnandedoaa.Hand.hk_drawn hn; clear hn; replace b0 := pw_cell_below hb b0; replace b1 := pw_cell_below hb b1; replace x0 := pw_cell_below hb x0; replace x1 := pw_cell_below hb x1; replace R1 := Aside0.mk (Kd.C_below R1.out hb); replace R2 := Aside0.mk (Kd.C_below R2.out hb); replace R3 := Aside0.mk (Kd.C_below R3.out hb); replace RX := Aside0.mk (Kd.C_below RX.out hb); replace RY := Aside0.mk (Kd.C_below RY.out hb); replace RZ := Aside0.mk (Kd.C_below RZ.out hb); replace O5 := Aside0.mk (Kd.C_below O5.out hb); replace O6 := Aside0.mk (Kd.C_below O6.out hb); replace O7 := Aside0.mk (Kd.C_below O7.out hb); replace O8 := Aside0.mk (Kd.C_below O8.out hb); replace HBS := Aside0.mk (below_step HBS.out hb); replace HO5 := Aside0.mk (Kd.R_below HO5.out hb); replace HO7 := Aside0.mk (Kd.R_below HO7.out hb); replace HB := Aside0.mk (below_step HB.out hb); clear hb)
    | (go_at_call 21; refine (wharfagelaw0_Num.calls _ _ _ rfl).mono ?_; rintro e wn ⟨rfl, hn⟩; have hb := Go.Proofs.Ytnocfhnandedoaa.Hand.hk_drawn hn; clear hn; replace b0 := pw_cell_below hb b0; replace b1 := pw_cell_below hb b1; replace x0 := pw_cell_below hb x0; replace x1 := pw_cell_below hb x1; replace R1 := Aside0.mk (Kd.C_below R1.out hb); replace R2 := Aside0.mk (Kd.C_below R2.out hb); replace R3 := Aside0.mk (Kd.C_below R3.out hb); replace RX := Aside0.mk (Kd.C_below RX.out hb); replace RY := Aside0.mk (Kd.C_below RY.out hb); replace RZ := Aside0.mk (Kd.C_below RZ.out hb); replace O5 := Aside0.mk (Kd.C_below O5.out hb); replace O6 := Aside0.mk (Kd.C_below O6.out hb); replace O7 := Aside0.mk (Kd.C_below O7.out hb); replace O8 := Aside0.mk (Kd.C_below O8.out hb); replace HBS := Aside0.mk (below_step HBS.out hb); replace HO5 := Aside0.mk (Kd.R_below HO5.out hb); replace HO7 := Aside0.mk (Kd.R_below HO7.out hb); replace HB := Aside0.mk (below_step HB.out hb); clear hb)
    | (go_at_call 32; clear F2; refine (wharfagelaw0_SpoilCandidates.calls (sl.length + 1) (fun k => k < w5.heap.size) _ sl sl2 w4 _ HBS.out HO5.out HS5.out).mono ?_; rintro e wb ⟨rfl, _, hb, hk⟩; replace HO7 := Aside0.mk (Kd.R_kept HO7.out hk (fun k h1 h2 => by have := HM.out; omega)); clear O5 O6 O7 O8 HO5 hk; clear x0 x1 b0 b1 R1 R2 R3 RX RY RZ; have x0 := pw_cell_below hb x04.out.1; have x1 := pw_cell_below hb x04.out.2; have b0 := pw_cell_below hb b04.out.1; have b1 := pw_cell_below hb b04.out.2; have R1 := Aside0.mk (Kd.C_below R14.out hb); have R2 := Aside0.mk (Kd.C_below R24.out hb); have R3 := Aside0.mk (Kd.C_below R34.out hb); have RX := Aside0.mk (Kd.C_below RX4.out hb); have RY := Aside0.mk (Kd.C_below RY4.out hb); have RZ := Aside0.mk (Kd.C_below RZ4.out hb); replace HBS := Aside0.mk hb; replace HB := Aside0.mk (below_step HB4.out hb); clear hb)
    | (go_at_call 32; refine (wharfagelaw0_SpoilCandidates.calls (bl.length + 1) (fun k => w6.heap.size ≤ k) _ bl bl2 w4 _ HBS.out (Kd.R_lower HO7.out HM2.out) HS6.out).mono ?_; rintro e wc ⟨rfl, _, hb, _⟩; clear HO7; clear x0 x1 b0 b1 R1 R2 R3 RX RY RZ; have x0 := pw_cell_below hb x04.out.1; have x1 := pw_cell_below hb x04.out.2; have b0 := pw_cell_below hb b04.out.1; have b1 := pw_cell_below hb b04.out.2; have R1 := Aside0.mk (Kd.C_below R14.out hb); have R2 := Aside0.mk (Kd.C_below R24.out hb); have R3 := Aside0.mk (Kd.C_below R34.out hb); have RX := Aside0.mk (Kd.C_below RX4.out hb); have RY := Aside0.mk (Kd.C_below RY4.out hb); have RZ := Aside0.mk (Kd.C_below RZ4.out hb); replace HB := Aside0.mk (below_step HB4.out hb); clear hb)
    | (go_at_call 33; refine (wharfagelaw0_SameConfig.calls (l0_1.length + 8796093022210) a0_0 AX cX l0_1 a0_0 A0_1 c0_1 l0_1 true _ RX.out CX.out R1.out HC.out.1 (sc_f a0_0 l0_1 HZ.out.1)).mono ?_; rintro e wd ⟨rfl, hb⟩; replace b0 := pw_cell_below hb b0; replace b1 := pw_cell_below hb b1; replace x0 := pw_cell_below hb x0; replace x1 := pw_cell_below hb x1; replace R1 := Aside0.mk (Kd.C_below R1.out hb); replace R2 := Aside0.mk (Kd.C_below R2.out hb); replace R3 := Aside0.mk (Kd.C_below R3.out hb); replace RX := Aside0.mk (Kd.C_below RX.out hb); replace RY := Aside0.mk (Kd.C_below RY.out hb); replace RZ := Aside0.mk (Kd.C_below RZ.out hb); replace HB := Aside0.mk (below_step HB.out hb); clear hb)
    | (go_at_call 34; (with_reducible refine calls_of_args (args' := #[Value.slice (some ⟨gY, 0, none⟩) l2.length cY, Value.slice A2 l2.length c2]) rfl ?_); refine (wharfagelaw0_KeptHealths.kept gY cY A2 c2 l2 _ HZ.out.2.1 CY.out RY.out R2.out HC.out.2.1).mono ?_; rintro e we ⟨rfl, hb⟩; replace b0 := pw_cell_below hb b0; replace b1 := pw_cell_below hb b1; replace x0 := pw_cell_below hb x0; replace x1 := pw_cell_below hb x1; replace R1 := Aside0.mk (Kd.C_below R1.out hb); replace R2 := Aside0.mk (Kd.C_below R2.out hb); replace R3 := Aside0.mk (Kd.C_below R3.out hb); replace RX := Aside0.mk (Kd.C_below RX.out hb); replace RY := Aside0.mk (Kd.C_below RY.out hb); replace RZ := Aside0.mk (Kd.C_below RZ.out hb); replace HB := Aside0.mk (below_step HB.out hb); clear hb)
    | (go_at_call 34; refine (wharfagelaw0_KeptHealths.kept gZ cZ A3 c3 l3 _ HZ.out.2.2 CZ.out RZ.out R3.out HC.out.2.2).mono ?_; rintro e wf ⟨rfl, hb⟩; replace b0 := pw_cell_below hb b0; replace b1 := pw_cell_below hb b1; replace x0 := pw_cell_below hb x0; replace x1 := pw_cell_below hb x1; replace R1 := Aside0.mk (Kd.C_below R1.out hb); replace R2 := Aside0.mk (Kd.C_below R2.out hb); replace R3 := Aside0.mk (Kd.C_below R3.out hb); replace RX := Aside0.mk (Kd.C_below RX.out hb); replace RY := Aside0.mk (Kd.C_below RY.out hb); replace RZ := Aside0.mk (Kd.C_below RZ.out hb); replace HB := Aside0.mk (below_step HB.out hb); clear hb)
    | (go_at_call 35; refine (wharfagelaw13_awake.calls 60 true _ cx_aw).mono ?_; rintro e wg ⟨rfl, hb⟩; replace HB := Aside0.mk (below_step HB.out hb); clear hb)
  go_ret
  exact ⟨Go.Proofs.Ytnocfhnandedoaa.Hand.hk_bool rfl, HB.out⟩


end Go.Proofs.Ytnocfhnandedoaa.PCands
