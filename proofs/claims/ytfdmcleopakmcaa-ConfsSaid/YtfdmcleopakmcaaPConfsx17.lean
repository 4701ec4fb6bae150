/- Contracts: what calls of these functions of the program do, each as a plain function; written by a program of this session. -/
import Derived.Test.YtfdmcleopakmcaaPConfsx0
import Derived.Test.YtfdmcleopakmcaaPConfsx2
import Derived.Test.YtfdmcleopakmcaaPConfsx3
import Derived.Test.YtfdmcleopakmcaaPConfsx4
import Derived.Test.YtfdmcleopakmcaaPConfsx5
import Derived.Test.YtfdmcleopakmcaaPConfsx6
import Derived.Test.YtfdmcleopakmcaaPConfsx7
import Derived.Test.YtfdmcleopakmcaaPConfsx8
import Derived.Test.YtfdmcleopakmcaaPConfsx9
import Derived.Test.YtfdmcleopakmcaaPConfsx10
import Derived.Test.YtfdmcleopakmcaaPConfsx11
import Derived.Test.YtfdmcleopakmcaaPConfsx12
import Derived.Test.YtfdmcleopakmcaaPConfsx13
import Derived.Test.YtfdmcleopakmcaaPConfsx15
import Derived.Test.YtfdmcleopakmcaaPConfsx16
namespace Go.Proofs.Ytfdmcleopakmcaa.PConfs
open Go.RowKit Go.Proofs.YtfdmcleopakmcaaW.PrintWords Go.Proofs.YtfdmcleopakmcaaW.PrintLast Go.Proofs.YtfdmcleopakmcaaW.PrintMore
attribute [local go_sem] max2_int min2_int max_two min_two max_three min_three max_four min_four   -- for this text's walks alone
set_option linter.unusedVariables false
set_option linter.unusedSimpArgs false

/-! ### wharfagelaw10_Confs: function 3, by hand -/
theorem cx_mayqB_len {v : Int} {l : List S42} (h : mayB v l = true) : l.length ≤ 3 := by
  unfold mayB at h; simp only [Bool.and_eq_true, decide_eq_true_eq] at h; exact h.2
theorem cx_mayqB_in {v : Int} {l : List S42} (h : mayB v l = true) {x : S42} (hx : x ∈ l) : siteOk x = true := by
  unfold mayB at h; simp only [Bool.and_eq_true, decide_eq_true_eq] at h
  exact List.all_eq_true.1 h.1.1 x hx
theorem cx_siteOk_w {x : S42} (h : siteOk x = true) : 0 ≤ x.f0 ∧ x.f0 ≤ 16 := by
  unfold siteOk at h; simp only [Bool.and_eq_true, decide_eq_true_eq] at h; exact h.1.1.2
theorem cx_siteOk_len {x : S42} (h : siteOk x = true) : x.f3.length ≤ 4 := by
  unfold siteOk at h; simp only [Bool.and_eq_true, decide_eq_true_eq] at h; exact h.2
theorem cx_siteOk_b {x : S42} (h : siteOk x = true) {b : S44} (hb : b ∈ x.f3) : 0 ≤ b.f0 ∧ b.f0 ≤ 16 := by
  unfold siteOk at h; simp only [Bool.and_eq_true, decide_eq_true_eq] at h
  have := List.all_eq_true.1 h.1.1.1 b hb
  unfold backOk at this; simpa using this
theorem cm_l1 (R : Bool) (N : Nat) (i v : Int) (L : List S42) (f0 : Int) (f1 : Bool) (f2 : Int) (bs : List S44) (hb : bs.length ≤ 4) (P : ∀ k, N ≤ k → wharfageref10_ConfMay.l0 k (wrap64 (i + 1)) v L = some R) (e : Nat) : ∀ (k j : Nat), bs.length - j ≤ e → N + e + 1 ≤ k → j ≤ bs.length → wharfageref10_ConfMay.l1 k i (j : Int) v L f0 f1 f2 bs = some ((bs.drop j).all backOk && R) := by
  induction e with
  | zero =>
    intro k j hd hk hj
    obtain ⟨k, rfl⟩ : ∃ m, k = m + 1 := ⟨k - 1, by omega⟩
    simp only [wharfageref10_ConfMay.l1]
    rw [if_neg (by omega), List.drop_of_length_le (by omega), P k (by omega)]; simp
  | succ e ih =>
    intro k j hd hk hj
    obtain ⟨k, rfl⟩ : ∃ m, k = m + 1 := ⟨k - 1, by omega⟩
    simp only [wharfageref10_ConfMay.l1]
    by_cases h : (j : Int) < (bs.length : Int)
    · have hlt : j < bs.length := by omega
      have er : rd_T44 bs (j : Int) = bs[j] := by simp [rd_T44, hlt]
      have nx := ih k (j + 1) (by omega) (by omega) (by omega)
      rw [if_pos h, if_pos (by omega), er, List.drop_eq_getElem_cons hlt, List.all_cons, show wrap64 ((j : Int) + 1) = ((j + 1 : Nat) : Int) by unfold wrap64; omega, nx]
      by_cases h1 : bs[j].f0 < 0
      · rw [if_pos h1, show backOk bs[j] = false from decide_eq_false (by omega)]; simp
      · rw [if_neg h1]
        by_cases h2 : bs[j].f0 > 16
        · rw [if_pos h2, show backOk bs[j] = false from decide_eq_false (by omega)]; simp
        · rw [if_neg h2, show backOk bs[j] = true from decide_eq_true (by omega)]; simp
    · rw [if_neg h, List.drop_of_length_le (by omega), P k (by omega)]; simp
theorem cm_l0 (v : Int) (L : List S42) (hL : L.length ≤ 3) (m : Nat) : ∀ (k i : Nat), L.length - i ≤ m → 8 * m + 1 ≤ k → i ≤ L.length → wharfageref10_ConfMay.l0 k (i : Int) v L = some ((L.drop i).all siteOk) := by
  induction m with
  | zero =>
    intro k i hd hk hi
    obtain ⟨k, rfl⟩ : ∃ m, k = m + 1 := ⟨k - 1, by omega⟩
    simp only [wharfageref10_ConfMay.l0]
    rw [if_neg (by omega), List.drop_of_length_le (by omega)]; rfl
  | succ m ih =>
    intro k i hd hk hi
    obtain ⟨k, rfl⟩ : ∃ m, k = m + 2 := ⟨k - 2, by omega⟩
    by_cases h : (i : Int) < (L.length : Int)
    · have hlt : i < L.length := by omega
      have er : rd_T42 L (i : Int) = L[i] := by simp [rd_T42, hlt]
      have jt : ∀ f0 f1 f2 bs, wharfageref10_ConfMay.j2 (k + 1) (i : Int) true v L f0 f1 f2 bs = some false := fun _ _ _ _ => by simp only [wharfageref10_ConfMay.j2]; rfl
      have jf : ∀ f0 f1 f2 (bs : List S44), bs.length ≤ 4 → wharfageref10_ConfMay.j2 (k + 1) (i : Int) false v L f0 f1 f2 bs = some (bs.all backOk && (L.drop (i + 1)).all siteOk) := fun f0 f1 f2 bs hb => by
        simp only [wharfageref10_ConfMay.j2]
        rw [if_neg (by decide)]
        have := cm_l1 ((L.drop (i + 1)).all siteOk) (8 * m + 1) (i : Int) v L f0 f1 f2 bs hb (fun k hk => by rw [show wrap64 ((i : Int) + 1) = ((i + 1 : Nat) : Int) by unfold wrap64; omega]; exact ih k (i + 1) (by omega) hk (by omega)) 4 k 0 (by omega) (by omega) (by omega)
        rw [List.drop_zero] at this
        exact this
      rw [List.drop_eq_getElem_cons hlt, List.all_cons]
      simp only [wharfageref10_ConfMay.l0]
      rw [if_pos h, if_pos (by omega), er, jt]
      rw [show siteOk L[i] = (L[i].f3.all backOk && decide (0 ≤ L[i].f0 ∧ L[i].f0 ≤ 16) && decide (0 ≤ L[i].f2 ∧ L[i].f2 ≤ 8) && decide (L[i].f3.length ≤ 4)) from rfl]
      by_cases h1 : L[i].f0 < 0
      · rw [if_pos h1, decide_eq_false (show ¬ (0 ≤ L[i].f0 ∧ L[i].f0 ≤ 16) by omega)]; simp
      rw [if_neg h1]
      by_cases h2 : L[i].f0 > 16
      · rw [if_pos h2, decide_eq_false (show ¬ (0 ≤ L[i].f0 ∧ L[i].f0 ≤ 16) by omega)]; simp
      rw [if_neg h2, decide_eq_true (show 0 ≤ L[i].f0 ∧ L[i].f0 ≤ 16 by omega)]
      by_cases h3 : L[i].f2 < 0
      · rw [if_pos h3, decide_eq_false (show ¬ (0 ≤ L[i].f2 ∧ L[i].f2 ≤ 8) by omega)]; simp
      rw [if_neg h3]
      by_cases h4 : L[i].f2 > 8
      · rw [if_pos h4, decide_eq_false (show ¬ (0 ≤ L[i].f2 ∧ L[i].f2 ≤ 8) by omega)]; simp
      rw [if_neg h4, decide_eq_true (show 0 ≤ L[i].f2 ∧ L[i].f2 ≤ 8 by omega)]
      by_cases h5 : L[i].f3.length ≤ 4
      · rw [decide_eq_false (show ¬ ((L[i].f3.length : Int) > 4) by omega), jf _ _ _ _ h5, decide_eq_true h5]; simp
      · rw [decide_eq_true (show (L[i].f3.length : Int) > 4 by omega), jt, decide_eq_false h5]; simp
    · simp only [wharfageref10_ConfMay.l0]
      rw [if_neg h, List.drop_of_length_le (by omega)]; rfl
theorem cm_f (v : Int) (L : List S42) (k : Nat) (hk : 60 ≤ k) : wharfageref10_ConfMay.f k v L = some (mayB v L) := by
  obtain ⟨k, rfl⟩ : ∃ m, k = m + 1 := ⟨k - 1, by omega⟩
  have jt : wharfageref10_ConfMay.j0 (k + 1) true v L = some false := by simp only [wharfageref10_ConfMay.j0]; rfl
  unfold wharfageref10_ConfMay.f mayB
  rw [jt]
  by_cases h1 : v < 0
  · rw [if_pos h1, decide_eq_false (show ¬ (0 ≤ v ∧ v ≤ 1048576) by omega)]; simp
  rw [if_neg h1]
  by_cases h2 : v > 1048576
  · rw [if_pos h2, decide_eq_false (show ¬ (0 ≤ v ∧ v ≤ 1048576) by omega)]; simp
  rw [if_neg h2, decide_eq_true (show 0 ≤ v ∧ v ≤ 1048576 by omega)]
  by_cases h3 : L.length ≤ 3
  · rw [decide_eq_false (show ¬ ((L.length : Int) > 3) by omega), decide_eq_true h3]
    simp only [wharfageref10_ConfMay.j0]
    rw [if_neg (by decide)]
    have := cm_l0 v L h3 3 k 0 (by omega) (by omega) (by omega)
    rw [List.drop_zero] at this
    rw [show (0 : Int) = ((0 : Nat) : Int) from rfl, this]; simp
  · rw [decide_eq_true (show (L.length : Int) > 3 by omega), jt, decide_eq_false h3]; simp
def sizeOk (l : List S42) : Bool := decide (l.length < 2932031007402) && l.all (fun x => decide (x.f3.length < 8796093022208))
theorem cc_loop (v : Int) (l : List S42) (hl : l.length < 2932031007402) (hb : ∀ x ∈ l, x.f3.length < 8796093022208) (d : Nat) : ∀ (k i : Nat), l.length - i ≤ d → d < k → i ≤ l.length → wharfagelaw0_CopyConfig.l0 k (i : Int) v l v (l.take i) = some (v, l) := by
  induction d with
  | zero =>
    intro k i hd hk hi
    obtain ⟨k, rfl⟩ : ∃ m, k = m + 1 := ⟨k - 1, by omega⟩
    simp only [wharfagelaw0_CopyConfig.l0]
    rw [if_neg (by omega), List.take_of_length_le (by omega)]
  | succ d ih =>
    intro k i hd hk hi
    obtain ⟨k, rfl⟩ : ∃ m, k = m + 1 := ⟨k - 1, by omega⟩
    simp only [wharfagelaw0_CopyConfig.l0]
    by_cases h : (i : Int) < (l.length : Int)
    · have hlt : i < l.length := by omega
      have hx := hb l[i] (List.getElem_mem hlt)
      have er : rd_T42 l (i : Int) = l[i] := by simp [rd_T42, hlt]
      rw [if_pos h, if_pos (show (0 : Int) ≤ (i : Int) by omega), er, Option.bind_some, if_pos (by simpa using hx), if_pos (by rw [List.length_take]; omega), show wrap64 ((i : Int) + 1) = ((i + 1 : Nat) : Int) by unfold wrap64; omega]
      have := ih k (i + 1) (by omega) (by omega) (by omega)
      rw [List.take_succ_eq_append_getElem hlt] at this
      exact this
    · rw [if_neg h, List.take_of_length_le (by omega)]
theorem cc_f (v : Int) (l : List S42) (h : sizeOk l = true) (k : Nat) (hk : l.length < k) : wharfagelaw0_CopyConfig.f k v l = some (v, l) := by
  unfold sizeOk at h
  simp only [Bool.and_eq_true, decide_eq_true_eq, List.all_eq_true] at h
  have := cc_loop v l h.1 h.2 l.length k 0 (by omega) hk (by omega)
  simpa [wharfagelaw0_CopyConfig.f] using this
theorem sb_loop (l : List S44) (hl : l.length ≤ 9223372036854775806) (d : Nat) : ∀ (k i : Nat), l.length - i ≤ d → d < k → wharfagelaw0_SameBacks.l0 k l l (i : Int) = some true := by
  induction d with
  | zero =>
    intro k i hd hk
    obtain ⟨k, rfl⟩ : ∃ m, k = m + 1 := ⟨k - 1, by omega⟩
    simp only [wharfagelaw0_SameBacks.l0]
    rw [if_neg (by omega)]
  | succ d ih =>
    intro k i hd hk
    obtain ⟨k, rfl⟩ : ∃ m, k = m + 1 := ⟨k - 1, by omega⟩
    simp only [wharfagelaw0_SameBacks.l0]
    by_cases h : (i : Int) < (l.length : Int)
    · rw [if_pos h, if_pos (show (0 : Int) ≤ (i : Int) by omega), if_pos h, if_neg (by simp), show wrap64 ((i : Int) + 1) = ((i + 1 : Nat) : Int) by unfold wrap64; omega]
      exact ih k (i + 1) (by omega) (by omega)
    · rw [if_neg h]
theorem sc_loop (v : Int) (l : List S42) (B : Nat) (hl : l.length ≤ 9223372036854775806) (hb : ∀ x ∈ l, x.f3.length ≤ B) (hB : B ≤ 9223372036854775806) (d : Nat) : ∀ (k i : Nat), l.length - i ≤ d → d + B + 1 < k → wharfagelaw0_SameConfig.l0 k (i : Int) v l v l = some true := by
  induction d with
  | zero =>
    intro k i hd hk
    obtain ⟨k, rfl⟩ : ∃ m, k = m + 1 := ⟨k - 1, by omega⟩
    simp only [wharfagelaw0_SameConfig.l0]
    rw [if_neg (by omega)]
  | succ d ih =>
    intro k i hd hk
    obtain ⟨k, rfl⟩ : ∃ m, k = m + 1 := ⟨k - 1, by omega⟩
    simp only [wharfagelaw0_SameConfig.l0]
    by_cases h : (i : Int) < (l.length : Int)
    · have hlt : i < l.length := by omega
      have er : rd_T42 l (i : Int) = l[i] := by simp [rd_T42, hlt]
      have hx := hb l[i] (List.getElem_mem hlt)
      have e1 : wharfagelaw0_SameBacks.f k l[i].f3 l[i].f3 = some true := by
        unfold wharfagelaw0_SameBacks.f
        rw [if_pos rfl]
        exact sb_loop _ (by omega) l[i].f3.length k 0 (by omega) (by omega)
      rw [if_pos h, if_pos (show (0 : Int) ≤ (i : Int) by omega), if_pos h, er, e1, show wrap64 ((i : Int) + 1) = ((i + 1 : Nat) : Int) by unfold wrap64; omega]
      simp only [bne_self_eq_false, Bool.false_eq_true, if_false, if_true, Option.bind_some]
      exact ih k (i + 1) (by omega) (by omega)
    · rw [if_neg h]
theorem sc_f (v : Int) (l : List S42) (h : sizeOk l = true) : wharfagelaw0_SameConfig.f (l.length + 8796093022210) v l v l = some true := by
  unfold sizeOk at h
  simp only [Bool.and_eq_true, decide_eq_true_eq, List.all_eq_true] at h
  unfold wharfagelaw0_SameConfig.f
  rw [if_pos rfl, if_pos rfl]
  exact sc_loop v l 8796093022208 (by omega) (fun x hx => by have := h.2 x hx; omega) (by omega) l.length _ 0 (by omega) (by omega)
theorem rc_loop (v : Int) (l : List S42) (hl : l.length < 2932031007402) (hb : ∀ x ∈ l, x.f3.length < 8796093022208) (d : Nat) : ∀ (k i : Nat), l.length - i ≤ d → d < k → i ≤ l.length → wharfageref10_CopyConfig.l0 k (i : Int) v l v (l.take i) = some (v, l) := by
  induction d with
  | zero =>
    intro k i hd hk hi
    obtain ⟨k, rfl⟩ : ∃ m, k = m + 1 := ⟨k - 1, by omega⟩
    simp only [wharfageref10_CopyConfig.l0]
    rw [if_neg (by omega), List.take_of_length_le (by omega)]
  | succ d ih =>
    intro k i hd hk hi
    obtain ⟨k, rfl⟩ : ∃ m, k = m + 1 := ⟨k - 1, by omega⟩
    simp only [wharfageref10_CopyConfig.l0]
    by_cases h : (i : Int) < (l.length : Int)
    · have hlt : i < l.length := by omega
      have hx := hb l[i] (List.getElem_mem hlt)
      have er : rd_T42 l (i : Int) = l[i] := by simp [rd_T42, hlt]
      rw [if_pos h, if_pos (show (0 : Int) ≤ (i : Int) by omega), er, Option.bind_some, if_pos (by simpa using hx), if_pos (by rw [List.length_take]; omega), show wrap64 ((i : Int) + 1) = ((i + 1 : Nat) : Int) by unfold wrap64; omega]
      have := ih k (i + 1) (by omega) (by omega) (by omega)
      rw [List.take_succ_eq_append_getElem hlt] at this
      exact this
    · rw [if_neg h, List.take_of_length_le (by omega)]
theorem rc_f (v : Int) (l : List S42) (h : sizeOk l = true) (k : Nat) (hk : l.length < k) : wharfageref10_CopyConfig.f k v l = some (v, l) := by
  unfold sizeOk at h
  simp only [Bool.and_eq_true, decide_eq_true_eq, List.all_eq_true] at h
  have := rc_loop v l h.1 h.2 l.length k 0 (by omega) hk (by omega)
  simpa [wharfageref10_CopyConfig.f] using this
theorem kc_loop (v : Int) (l0 l : List S42) (hl : l.length < 2932031007402) (hb : ∀ x ∈ l, x.f3.length < 8796093022208) (d : Nat) : ∀ (k i : Nat), l.length - i ≤ d → d < k → i ≤ l.length → conf_Copy.l0 k (l.take i) l (l.length : Int) (i : Int) v l0 = some (v, l) := by
  induction d with
  | zero =>
    intro k i hd hk hi
    obtain ⟨k, rfl⟩ : ∃ m, k = m + 1 := ⟨k - 1, by omega⟩
    simp only [conf_Copy.l0]
    rw [if_neg (by omega), List.take_of_length_le (by omega)]
  | succ d ih =>
    intro k i hd hk hi
    obtain ⟨k, rfl⟩ : ∃ m, k = m + 1 := ⟨k - 1, by omega⟩
    simp only [conf_Copy.l0]
    by_cases h : (i : Int) < (l.length : Int)
    · have hlt : i < l.length := by omega
      have e : rd_T42 l (i : Int) = l[i] := by simp [rd_T42, hlt]
      have hb2 := hb l[i] (List.getElem_mem hlt)
      rw [if_pos h, if_pos (show (0 : Int) ≤ (i : Int) by omega), if_pos h, e, if_pos (by simpa using hb2), if_pos (by rw [List.length_take]; omega), List.nil_append, show wrap64 ((i : Int) + 1) = ((i + 1 : Nat) : Int) by unfold wrap64; omega]
      have e2 : l.take i ++ [(⟨l[i].f0, l[i].f1, l[i].f2, l[i].f3⟩ : S42)] = l.take (i + 1) := by
        rw [List.take_succ_eq_append_getElem hlt]
      rw [e2]
      exact ih k (i + 1) (by omega) (by omega) (by omega)
    · rw [if_neg h, List.take_of_length_le (by omega)]
theorem kc_f (v : Int) (l : List S42) (h : sizeOk l = true) (k : Nat) (hk : l.length < k) : conf_Copy.f k v l = some (v, l) := by
  unfold sizeOk at h
  simp only [Bool.and_eq_true, decide_eq_true_eq, List.all_eq_true] at h
  unfold conf_Copy.f
  exact kc_loop v l l h.1 h.2 l.length k 0 (by omega) (by omega) (by omega)
def nextR (v : Int) (l : List S42) (v1 : Int) (l1 : List S42) : Int × List S42 × Bool × Int := if (mayB v l && mayB v1 l1) = true then (if v1 > v then (v1, l1, true, 0) else (v, l, false, 0)) else (0, [], false, 1000)
theorem next_f (v : Int) (l : List S42) (v1 : Int) (l1 : List S42) (h : sizeOk l = true) (h1 : sizeOk l1 = true) (k : Nat) (hk : l.length + l1.length + 2 < k) : conf_Next.f k v l v1 l1 = some (nextR v l v1 l1) := by
  obtain ⟨k, rfl⟩ : ∃ m, k = m + 1 := ⟨k - 1, by omega⟩
  have e : ∀ a b, conf_May.f a b = some (mayB a b) := fun _ _ => rfl
  unfold conf_Next.f nextR
  rw [e, e]
  simp only [Option.bind_some]
  cases mayB v l
  · rw [if_neg (by decide)]; simp only [conf_Next.j0]; rfl
  rw [if_pos rfl]
  cases mayB v1 l1
  · simp only [conf_Next.j0]; rfl
  simp only [conf_Next.j0]
  by_cases hv : v1 > v
  · rw [if_neg (by decide), if_pos hv, if_pos (show (true && true) = true from rfl), if_pos hv, kc_f _ _ h1 _ (by omega)]; rfl
  · rw [if_neg (by decide), if_neg hv, if_pos (show (true && true) = true from rfl), if_neg hv, kc_f _ _ h _ (by omega)]; rfl
theorem rnext_f (v : Int) (l : List S42) (v1 : Int) (l1 : List S42) (h : sizeOk l = true) (h1 : sizeOk l1 = true) (k : Nat) (hk : l.length + l1.length + 100 < k) : wharfageref10_NextConf.f k v l v1 l1 = some (nextR v l v1 l1) := by
  obtain ⟨k, rfl⟩ : ∃ m, k = m + 1 := ⟨k - 1, by omega⟩
  unfold wharfageref10_NextConf.f nextR
  rw [cm_f _ _ _ (by omega), cm_f _ _ _ (by omega)]
  simp only [Option.bind_some]
  cases mayB v l
  · rw [if_neg (by decide)]; simp only [wharfageref10_NextConf.j0]; rfl
  rw [if_pos rfl]
  cases mayB v1 l1
  · simp only [wharfageref10_NextConf.j0]; rfl
  simp only [wharfageref10_NextConf.j0]
  by_cases hv : v1 > v
  · rw [if_neg (by decide), if_pos hv, if_pos (show (true && true) = true from rfl), if_pos hv, rc_f _ _ h1 _ (by omega)]; rfl
  · rw [if_neg (by decide), if_neg hv, if_pos (show (true && true) = true from rfl), if_neg hv, rc_f _ _ h _ (by omega)]; rfl
theorem next_ok (v : Int) (l : List S42) (v1 : Int) (l1 : List S42) (h : sizeOk l = true) (h1 : sizeOk l1 = true) : sizeOk (nextR v l v1 l1).2.1 = true := by
  unfold nextR
  split
  · split
    · exact h1
    · exact h
  · rfl
theorem has_f (v : Int) (l : List S42) (a b : Int) (k : Nat) (hk : 60 ≤ k) : ∃ q, conf_Has.f v l a b = some q ∧ wharfageref10_Has.f k v l a b = some q := by
  refine ⟨_, rfl, ?_⟩
  unfold wharfageref10_Has.f
  rw [cm_f _ _ _ hk]
  simp only [Option.bind_some]
  cases mayB v l
  · rw [if_neg (by decide)]; rfl
  rw [if_pos rfl, Bool.true_and]
  by_cases h1 : a ≥ 0
  · rw [if_pos h1]
    by_cases h2 : a < (l.length : Int)
    · rw [if_pos h2, decide_eq_true (show 0 ≤ a ∧ a < (l.length : Int) from ⟨h1, h2⟩), Bool.true_and]
      by_cases h3 : b = -1
      · rw [if_pos h3, h3]; rfl
      · have h3' : (b == -1) = false := by simpa using h3
        rw [if_neg h3, h3', Bool.false_or]
        by_cases h4 : b ≥ 0
        · rw [if_pos h4, if_pos h1]; congr 1; exact decide_eq_decide.2 (by omega)
        · rw [if_neg h4, decide_eq_false (by omega)]
    · rw [if_neg h2, decide_eq_false (by omega)]; rfl
  · rw [if_neg h1, decide_eq_false (by omega)]; rfl
def wharfagelaw10_Confs.f (a0_0 : Int) (l0_1 : List S42) (a1_0 : Int) (l1_1 : List S42) (a2 a3 : Int) : Option Bool := if sizeOk l0_1 = true ∧ sizeOk l1_1 = true then some true else none
/-- Boxes of configurations: each of its block, with its two cells. -/
def Bx (L : List (Nat × Value × Value)) (w : World) : Prop := ∀ e ∈ L, w.heap[e.1]? = some (.cells #[e.2.1, e.2.2] 24 (0, 0))
theorem Bx_below {L : List (Nat × Value × Value)} {w w1 : World} (h : Bx L w) (hb : Below w.heap.size w w1) : Bx L w1 := fun e he => (hb.block e.1 (Array.getElem?_eq_some_iff.1 (h e he)).1).trans (h e he)
theorem Bx_get {L : List (Nat × Value × Value)} {w : World} (h : Bx L w) (i : Nat) {n : Nat} {u v : Value} (hi : L[i]? = some (n, u, v)) : w.cell? ⟨n, 0, none⟩ = some u ∧ w.cell? ⟨n, 1, none⟩ = some v := by
  have h1 := h _ (List.mem_of_getElem? hi)
  exact ⟨by simp [World.cell?, h1], by simp [World.cell?, h1]⟩
theorem Bx_cons {L : List (Nat × Value × Value)} {w : World} {n : Nat} {u v : Value} (h1 : w.heap[n]? = some (.cells #[u, v] 24 (0, 0))) (h : Bx L w) : Bx ((n, u, v) :: L) w := fun e he => by
  rcases List.mem_cons.1 he with rfl | he
  · exact h1
  · exact h e he
theorem below_dd {w0 w : World} (h : Below w0.heap.size w0 w) : Below w0.heap.size w0 w := h
theorem Bx_nil (w : World) : Bx [] w := fun e he => by cases he
theorem wharfagelaw10_Confs.tab1 : rtab .any (opsOf Try.f3 1) = rtab .any (opsOf Try.f3 1) := rfl
def wharfagelaw10_Confs.B1 : List Nat := [0, 1, 0, 7, 0, 0, 63, 127]
theorem wharfagelaw10_Confs.bits1 : waitsOk (rtab .any (opsOf Try.f3 1)).2 wharfagelaw10_Confs.B1 = true := by kernel_rfl
theorem cf_put {w : World} {b j : Nat} {cs : Array Value} {t : TypeId} {m : Nat × Nat} (h : w.heap[b]? = some (.cells cs t m)) (v : Value) : (w.setCell ⟨b, j, none⟩ v).heap[b]? = some (.cells (cs.setIfInBounds j v) t m) := by
  show (w.heap.modify b _)[b]? = _
  rw [Array.getElem?_modify, if_pos rfl, h]
  rfl
theorem cf_far {w : World} {b c j : Nat} {o : Obj} (h : w.heap[b]? = some o) (hne : b ≠ c) (v : Value) : (w.setCell ⟨c, j, none⟩ v).heap[b]? = some o := (Below.heap_setCell w ⟨c, j, none⟩ v b hne).trans h
theorem cf_lt {w : World} {b : Nat} {o : Obj} (h : w.heap[b]? = some o) : b < w.heap.size := (Array.getElem?_eq_some_iff.1 h).1
theorem cf_alloc {w : World} {b : Nat} {o : Obj} (h : w.heap[b]? = some o) (o2 : Obj) : (w.alloc o2).heap[b]? = some o := (Below.heap_alloc w o2 _ (cf_lt h)).trans h
theorem cf_below {w w1 : World} {b : Nat} {o : Obj} (h : w.heap[b]? = some o) (hb : Below w.heap.size w w1) : w1.heap[b]? = some o := (hb.block b (cf_lt h)).trans h
theorem cf_cell {w : World} {b j : Nat} {cs : Array Value} {t : TypeId} {m : Nat × Nat} (h : w.heap[b]? = some (.cells cs t m)) : w.cell? ⟨b, j, none⟩ = cs[j]? := by simp [World.cell?, h]
theorem cf_free {w : World} {b j : Nat} {cs : Array Value} {t : TypeId} (h : w.heap[b]? = some (.cells cs t (0, 0))) : w.frozen? ⟨b, j, none⟩ = false := by simp [World.frozen?, h]
theorem cf_kinds : ∀ q, q ∈ 42 :: Kd.E k42 → q ≠ 24 := by decide
theorem cf_set2 {w : World} {n base : Nat} {u0 u1 x y : Value} {v : Value} {l : List S42} {N : Nat} {w0 : World} (h : w.heap[n]? = some (.cells #[u0, u1] 24 (0, 0))) : ((w.setCell ⟨n, 0, none⟩ x).setCell ⟨n, 1, none⟩ y).heap[n]? = some (.cells #[x, y] 24 (0, 0)) := (cf_put (cf_put h x) y).trans rfl
theorem cf_row {w : World} {n base : Nat} {u0 u1 x y : Value} {v : Value} {l : List S42} (h : w.heap[n]? = some (.cells #[u0, u1] 24 (0, 0))) (hr : Kd.R k42 42 w base (fun _ => True) v l) : Kd.R k42 42 ((w.setCell ⟨n, 0, none⟩ x).setCell ⟨n, 1, none⟩ y) base (fun _ => True) v l :=
  Kd.R_set (Kd.R_set hr h cf_kinds 0 x) (cf_put h x) cf_kinds 1 y
set_option maxHeartbeats 8000000 in
set_option maxRecDepth 100000 in
theorem wharfagelaw10_Confs.calls (a0_0 : Int) (A0_1 : Option Addr) (c0_1 : Nat) (l0_1 : List S42) (a1_0 : Int) (A1_1 : Option Addr) (c1_1 : Nat) (l1_1 : List S42) (a2 a3 : Int) (r : Bool) (w : World) (hr0_1 : Kd.C k42 w A0_1 l0_1.length l0_1) (hc0_1 : l0_1.length ≤ c0_1) (hr1_1 : Kd.C k42 w A1_1 l1_1.length l1_1) (hc1_1 : l1_1.length ≤ c1_1) (h : wharfagelaw10_Confs.f a0_0 l0_1 a1_0 l1_1 a2 a3 = some r) :
    Calls Try.prog 3 #[.agg #[.int .i64 a0_0, .slice A0_1 l0_1.length c0_1], .agg #[.int .i64 a1_0, .slice A1_1 l1_1.length c1_1], .int .i64 a2, .int .i64 a3] w fun e w' => e = .returned (.bool r) ∧ Below w.heap.size w w' := by
  unfold wharfagelaw10_Confs.f at h
  by_cases hsz : sizeOk l0_1 = true ∧ sizeOk l1_1 = true
  case neg => rw [if_neg hsz] at h; exact absurd h (by simp)
  rw [if_pos hsz] at h
  obtain rfl := Option.some.inj h
  clear h
  have hu := Try.underlying42
  have hu2 := Try.underlying24
  have HZ := Aside0.mk hsz
  have HC := Aside0.mk (And.intro hc0_1 hc1_1)
  have R0 := Aside0.mk hr0_1
  have R1 := Aside0.mk hr1_1
  obtain ⟨x0, xl, xb, xe, hnx⟩ : ∃ x0 xl xb xe, nextR a0_0 l0_1 a1_0 l1_1 = (x0, xl, xb, xe) := ⟨_, _, _, _, rfl⟩
  have HNX := Aside0.mk hnx
  have HNZ := Aside0.mk (show sizeOk xl = true by have := next_ok a0_0 l0_1 a1_0 l1_1 hsz.1 hsz.2; rw [hnx] at this; exact this)
  obtain ⟨hq, hhq⟩ := has_f a0_0 l0_1 a2 a3 60 (Nat.le_refl _)
  have HHQ := Aside0.mk hhq
  obtain ⟨mb, hmb⟩ : ∃ b, mayB a0_0 l0_1 = b := ⟨_, rfl⟩
  have HMB := Aside0.mk hmb
  clear hsz hc0_1 hc1_1 hr0_1 hr1_1 hnx hhq hmb
  go_enter Try.func3, Try.ntmps3
  go_wp2_with fail
  obtain ⟨n4, hn4⟩ : ∃ n, n = w.heap.size := ⟨_, rfl⟩
  obtain ⟨n5, hn5⟩ : ∃ n, n = w.heap.size + 1 := ⟨_, rfl⟩
  obtain ⟨wb, hwb⟩ : ∃ x_, x_ = (w.alloc (.cells #[.int .i64 a0_0, .slice A0_1 l0_1.length c0_1] 24)).alloc (.cells #[.int .i64 a1_0, .slice A1_1 l1_1.length c1_1] 24) := ⟨_, rfl⟩
  have H4 := Aside0.mk (show wb.heap[n4]? = some (.cells #[.int .i64 a0_0, .slice A0_1 l0_1.length c0_1] 24 (0, 0)) by rw [hwb, hn4]; exact cf_alloc (heap_alloc_new w _) _)
  have H5 := Aside0.mk (show wb.heap[n5]? = some (.cells #[.int .i64 a1_0, .slice A1_1 l1_1.length c1_1] 24 (0, 0)) by rw [hwb, hn5]; simpa only [World.size_alloc] using heap_alloc_new (w.alloc (.cells #[.int .i64 a0_0, .slice A0_1 l0_1.length c0_1] 24)) (.cells #[.int .i64 a1_0, .slice A1_1 l1_1.length c1_1] 24 (0, 0)))
  have HB := Aside0.mk (show Below w.heap.size w wb by rw [hwb]; exact below_alloc (below_alloc (Below.refl _ _) _) _)
  rw [← hwb, ← hn5, ← hn4]
  clear hwb hn4 hn5
  go_upto_region 1 with fail
  go_cut [9, 10] (fun s9 s10 wx => ∃ (AX : Option Addr) (cX : Nat) (AY : Option Addr) (cY n9 n10 : Nat), s9 = .pointer (some ⟨n9, 0, none⟩) ∧ s10 = .pointer (some ⟨n10, 0, none⟩) ∧ Aside0 (wx.heap[n9]? = some (.cells #[.int .i64 a0_0, .slice AX l0_1.length cX] 24 (0, 0))) ∧ Aside0 (wx.heap[n10]? = some (.cells #[.int .i64 a1_0, .slice AY l1_1.length cY] 24 (0, 0))) ∧ Aside0 (Kd.R k42 42 wx wb.heap.size (fun _ => True) (.slice AX l0_1.length cX) l0_1) ∧ Aside0 (Kd.R k42 42 wx wb.heap.size (fun _ => True) (.slice AY l1_1.length cY) l1_1) ∧ Aside0 (wb.heap.size ≤ n9 ∧ wb.heap.size ≤ n10) ∧ Aside0 (Below wb.heap.size wb wx))
  case first =>
    refine start_ (n := 8) (S := fun w' => True) (ds := []) #[false, false, false, false, false, false, false, false] (by kernel_rfl) rfl rfl trivial (fun hHeld => ?_); refine with_tabW wharfagelaw10_Confs.tab1 wharfagelaw10_Confs.bits1 (fun HT_ HW_ => ?_)
    refine inv_at [0, 1, 2, 3, 4, 5, 6, 7] (fun a0_ b a w' => ∃ (AX : Option Addr) (cX : Nat) (AY : Option Addr) (cY n9 n10 : Nat), a = putSel a0_ b [(0, 17, .agg #[.int .i64 a0_0, .slice A0_1 l0_1.length c0_1]), (1, 18, .agg #[.int .i64 a0_0, .slice AX l0_1.length cX]), (2, 19, .agg #[.int .i64 a1_0, .slice A1_1 l1_1.length c1_1]), (3, 20, .agg #[.int .i64 a1_0, .slice AY l1_1.length cY]), (4, 9, .pointer (some ⟨n9, 0, none⟩)), (5, 10, .pointer (some ⟨n10, 0, none⟩))] ∧ Below wb.heap.size wb w' ∧ (b 1 = true → Kd.R k42 42 w' wb.heap.size (fun _ => True) (.slice AX l0_1.length cX) l0_1) ∧ (b 3 = true → Kd.R k42 42 w' wb.heap.size (fun _ => True) (.slice AY l1_1.length cY) l1_1) ∧ (b 4 = true → ∃ u0 u1 : Value, w'.heap[n9]? = some (.cells #[u0, u1] 24 (0, 0)) ∧ (b 6 = true → u0 = .int .i64 a0_0 ∧ u1 = .slice AX l0_1.length cX)) ∧ (b 5 = true → ∃ u0 u1 : Value, w'.heap[n10]? = some (.cells #[u0, u1] 24 (0, 0)) ∧ (b 7 = true → u0 = .int .i64 a1_0 ∧ u1 = .slice AY l1_1.length cY)) ∧ (b 4 = true → b 5 = true → n9 ≠ n10) ∧ (b 4 = true → wb.heap.size ≤ n9) ∧ (b 5 = true → wb.heap.size ≤ n10)) HT_.out HW_.out (by kernel_rfl) (by kernel_rfl) ?_ ?_ ?_
    · exact ⟨none, 0, none, 0, 0, 0, by simp only [putSel, Bool.false_eq_true, if_false], below_drew1 (Below.refl _ _), fun h_ => absurd h_ (by decide), fun h_ => absurd h_ (by decide), fun h_ => absurd h_ (by decide), fun h_ => absurd h_ (by decide), fun h_ => absurd h_ (by decide), fun h_ => absurd h_ (by decide), fun h_ => absurd h_ (by decide)⟩
    · skip
      refine steps_cons ?_ ?_
      · rintro b a w' ⟨AX, cX, AY, cY, n9, n10, ha, QB, Q1, Q3, Q4, Q5, Q45, Q4n, Q5n⟩ hb_ hon hoff
        refine ⟨_, rfl, fun K hK => ?_⟩
        have e4 : a.tmps[4]? = some (.pointer (some ⟨n4, 0, none⟩)) := by rw [ha]; exact (putSel_off rfl).trans rfl
        replace ha := Aside0.mk ha
        have q0 : w'.cell? ⟨n4, 0, none⟩ = some (.int .i64 a0_0) := (cf_cell (cf_below H4.out QB)).trans rfl
        have q1 : w'.cell? ⟨n4, 1, none⟩ = some (.slice A0_1 l0_1.length c0_1) := (cf_cell (cf_below H4.out QB)).trans rfl
        refine value_ (w1 := w') (v := .agg #[.int .i64 a0_0, .slice A0_1 l0_1.length c0_1]) (by rfl) rfl ?_ ?_
        · go_simp
          try rfl
        exact hK.out _ _ ⟨AX, cX, AY, cY, n9, n10, (by rw [ha.out]; exact putSel_upk 0 hb_ rfl rfl rfl), QB, Q1, Q3, Q4, Q5, Q45, Q4n, Q5n⟩
      refine steps_cons ?_ ?_
      · rintro b a w' ⟨AX, cX, AY, cY, n9, n10, ha, QB, Q1, Q3, Q4, Q5, Q45, Q4n, Q5n⟩ hb_ hon hoff
        refine ⟨_, rfl, fun K hK => ?_⟩
        have e17 : a.tmps[17]? = some (.agg #[.int .i64 a0_0, .slice A0_1 l0_1.length c0_1]) := by rw [ha]; exact putSel_on (e := (0, 17, .agg #[.int .i64 a0_0, .slice A0_1 l0_1.length c0_1])) 0 rfl rfl (hon 0 (by kernel_rfl)) rfl
        replace ha := Aside0.mk ha
        refine goes_ Try.func5 (by kernel_rfl) rfl #[.agg #[.int .i64 a0_0, .slice A0_1 l0_1.length c0_1]] (by rfl) rfl rfl (by simp only [List.map_toArray, List.map_cons, List.map_nil, Act.eval, Array.getD_eq_getD_getElem?, e17, Option.getD_some]) ?_
        refine (wharfagelaw0_CopyConfig.calls (l0_1.length + 1) a0_0 A0_1 c0_1 l0_1 a0_0 l0_1 _ (Kd.C_below R0.out (below_step HB.out QB)) HC.out.1 (cc_f a0_0 l0_1 HZ.out.1 _ (by omega))).mono ?_
        rintro e wc ⟨v1, rfl, ho, hb⟩
        obtain ⟨AN, cN, rfl⟩ := Kd.S_slice ho
        have hR := Kd.R_lower (Kd.S_R ho) (below_size QB)
        refine ⟨_, rfl, ?_⟩
        exact hK.out _ _ ⟨AN, cN, AY, cY, n9, n10, (by rw [ha.out]; exact putSel_upk 1 hb_ rfl rfl rfl), below_step QB hb, fun _ => hR, fun h0_ => absurd ((hoff 3 (by kernel_rfl)).symm.trans h0_) (by decide), fun h0_ => by obtain ⟨u0, u1, h1, h2⟩ := Q4 h0_; exact ⟨u0, u1, cf_below h1 hb, fun h6_ => absurd ((hoff 6 (by kernel_rfl)).symm.trans h6_) (by decide)⟩, fun h0_ => by obtain ⟨u0, u1, h1, h2⟩ := Q5 h0_; exact ⟨u0, u1, cf_below h1 hb, fun h7_ => absurd ((hoff 7 (by kernel_rfl)).symm.trans h7_) (by decide)⟩, Q45, Q4n, Q5n⟩
      refine steps_cons ?_ ?_
      · rintro b a w' ⟨AX, cX, AY, cY, n9, n10, ha, QB, Q1, Q3, Q4, Q5, Q45, Q4n, Q5n⟩ hb_ hon hoff
        refine ⟨_, rfl, fun K hK => ?_⟩
        have e5 : a.tmps[5]? = some (.pointer (some ⟨n5, 0, none⟩)) := by rw [ha]; exact (putSel_off rfl).trans rfl
        replace ha := Aside0.mk ha
        have q0 : w'.cell? ⟨n5, 0, none⟩ = some (.int .i64 a1_0) := (cf_cell (cf_below H5.out QB)).trans rfl
        have q1 : w'.cell? ⟨n5, 1, none⟩ = some (.slice A1_1 l1_1.length c1_1) := (cf_cell (cf_below H5.out QB)).trans rfl
        refine value_ (w1 := w') (v := .agg #[.int .i64 a1_0, .slice A1_1 l1_1.length c1_1]) (by rfl) rfl ?_ ?_
        · go_simp
          try rfl
        exact hK.out _ _ ⟨AX, cX, AY, cY, n9, n10, (by rw [ha.out]; exact putSel_upk 2 hb_ rfl rfl rfl), QB, Q1, Q3, Q4, Q5, Q45, Q4n, Q5n⟩
      refine steps_cons ?_ ?_
      · rintro b a w' ⟨AX, cX, AY, cY, n9, n10, ha, QB, Q1, Q3, Q4, Q5, Q45, Q4n, Q5n⟩ hb_ hon hoff
        refine ⟨_, rfl, fun K hK => ?_⟩
        have e19 : a.tmps[19]? = some (.agg #[.int .i64 a1_0, .slice A1_1 l1_1.length c1_1]) := by rw [ha]; exact putSel_on (e := (2, 19, .agg #[.int .i64 a1_0, .slice A1_1 l1_1.length c1_1])) 2 rfl rfl (hon 2 (by kernel_rfl)) rfl
        replace ha := Aside0.mk ha
        refine goes_ Try.func5 (by kernel_rfl) rfl #[.agg #[.int .i64 a1_0, .slice A1_1 l1_1.length c1_1]] (by rfl) rfl rfl (by simp only [List.map_toArray, List.map_cons, List.map_nil, Act.eval, Array.getD_eq_getD_getElem?, e19, Option.getD_some]) ?_
        refine (wharfagelaw0_CopyConfig.calls (l1_1.length + 1) a1_0 A1_1 c1_1 l1_1 a1_0 l1_1 _ (Kd.C_below R1.out (below_step HB.out QB)) HC.out.2 (cc_f a1_0 l1_1 HZ.out.2 _ (by omega))).mono ?_
        rintro e wc ⟨v1, rfl, ho, hb⟩
        obtain ⟨AN, cN, rfl⟩ := Kd.S_slice ho
        have hR := Kd.R_lower (Kd.S_R ho) (below_size QB)
        refine ⟨_, rfl, ?_⟩
        exact hK.out _ _ ⟨AX, cX, AN, cN, n9, n10, (by rw [ha.out]; exact putSel_upk 3 hb_ rfl rfl rfl), below_step QB hb, fun h0_ => Kd.R_below (Q1 h0_) hb, fun _ => hR, fun h0_ => by obtain ⟨u0, u1, h1, h2⟩ := Q4 h0_; exact ⟨u0, u1, cf_below h1 hb, fun h6_ => absurd ((hoff 6 (by kernel_rfl)).symm.trans h6_) (by decide)⟩, fun h0_ => by obtain ⟨u0, u1, h1, h2⟩ := Q5 h0_; exact ⟨u0, u1, cf_below h1 hb, fun h7_ => absurd ((hoff 7 (by kernel_rfl)).symm.trans h7_) (by decide)⟩, Q45, Q4n, Q5n⟩
      refine steps_cons ?_ ?_
      · rintro b a w' ⟨AX, cX, AY, cY, n9, n10, ha, QB, Q1, Q3, Q4, Q5, Q45, Q4n, Q5n⟩ hb_ hon hoff
        refine ⟨_, rfl, fun K hK => ?_⟩
        replace ha := Aside0.mk ha
        refine value_ (w1 := w'.alloc (.cells #[.int .i64 0, .slice none 0 0] 24)) (v := .pointer (some ⟨w'.heap.size, 0, none⟩)) (by rfl) rfl ?_ ?_
        · go_simp
          try rfl
        exact hK.out _ _ ⟨AX, cX, AY, cY, w'.heap.size, n10, (by rw [ha.out]; exact putSel_upk 4 hb_ rfl rfl rfl), below_alloc QB _, fun h0_ => Kd.R_alloc (Q1 h0_) _, fun h0_ => Kd.R_alloc (Q3 h0_) _, fun _ => ⟨.int .i64 0, .slice none 0 0, heap_alloc_new w' _, fun h6_ => absurd ((hoff 6 (by kernel_rfl)).symm.trans h6_) (by decide)⟩, fun h0_ => by obtain ⟨u0, u1, h1, h2⟩ := Q5 h0_; exact ⟨u0, u1, cf_alloc h1 _, fun h7_ => absurd ((hoff 7 (by kernel_rfl)).symm.trans h7_) (by decide)⟩, fun _ h5_ e_ => by obtain ⟨u0, u1, h1, _⟩ := Q5 h5_; have := cf_lt h1; omega, fun _ => below_size QB, Q5n⟩
      refine steps_cons ?_ ?_
      · rintro b a w' ⟨AX, cX, AY, cY, n9, n10, ha, QB, Q1, Q3, Q4, Q5, Q45, Q4n, Q5n⟩ hb_ hon hoff
        refine ⟨_, rfl, fun K hK => ?_⟩
        replace ha := Aside0.mk ha
        refine value_ (w1 := w'.alloc (.cells #[.int .i64 0, .slice none 0 0] 24)) (v := .pointer (some ⟨w'.heap.size, 0, none⟩)) (by rfl) rfl ?_ ?_
        · go_simp
          try rfl
        exact hK.out _ _ ⟨AX, cX, AY, cY, n9, w'.heap.size, (by rw [ha.out]; exact putSel_upk 5 hb_ rfl rfl rfl), below_alloc QB _, fun h0_ => Kd.R_alloc (Q1 h0_) _, fun h0_ => Kd.R_alloc (Q3 h0_) _, fun h0_ => by obtain ⟨u0, u1, h1, h2⟩ := Q4 h0_; exact ⟨u0, u1, cf_alloc h1 _, fun h6_ => absurd ((hoff 6 (by kernel_rfl)).symm.trans h6_) (by decide)⟩, fun _ => ⟨.int .i64 0, .slice none 0 0, heap_alloc_new w' _, fun h7_ => absurd ((hoff 7 (by kernel_rfl)).symm.trans h7_) (by decide)⟩, fun h4_ _ e_ => by obtain ⟨u0, u1, h1, _⟩ := Q4 h4_; have := cf_lt h1; omega, Q4n, fun _ => below_size QB⟩
      refine steps_cons ?_ ?_
      · rintro b a w' ⟨AX, cX, AY, cY, n9, n10, ha, QB, Q1, Q3, Q4, Q5, Q45, Q4n, Q5n⟩ hb_ hon hoff
        refine ⟨_, rfl, fun K hK => ?_⟩
        have e9 : a.tmps[9]? = some (.pointer (some ⟨n9, 0, none⟩)) := by rw [ha]; exact putSel_on (e := (4, 9, .pointer (some ⟨n9, 0, none⟩))) 4 rfl rfl (hon 4 (by kernel_rfl)) rfl
        have e18 : a.tmps[18]? = some (.agg #[.int .i64 a0_0, .slice AX l0_1.length cX]) := by rw [ha]; exact putSel_on (e := (1, 18, .agg #[.int .i64 a0_0, .slice AX l0_1.length cX])) 1 rfl rfl (hon 1 (by kernel_rfl)) rfl
        replace ha := Aside0.mk ha
        obtain ⟨u0, u1, h1, _⟩ := Q4 (hon 4 (by kernel_rfl))
        have z0 : w'.cell? ⟨n9, 0, none⟩ = some u0 := (cf_cell h1).trans rfl
        have z1 : w'.cell? ⟨n9, 1, none⟩ = some u1 := (cf_cell h1).trans rfl
        have y0 : w'.frozen? ⟨n9, 0, none⟩ = false := cf_free h1
        have y1 : w'.frozen? ⟨n9, 1, none⟩ = false := cf_free h1
        have hn_ := Q4n (hon 4 (by kernel_rfl))
        have h1_ := Aside0.mk h1
        clear h1
        refine skip_ (w1 := ((w'.setCell ⟨n9, 0, none⟩ (.int .i64 a0_0)).setCell ⟨n9, 1, none⟩ (.slice AX l0_1.length cX))) (by rfl) rfl ?_ ?_
        · go_simp
          try rfl
        exact hK.out _ _ ⟨AX, cX, AY, cY, n9, n10, (by rw [ha.out]; exact (putSel_same rfl).symm), (QB.setCell hn_ _).setCell hn_ _, fun h0_ => cf_row h1_.out (Q1 h0_), fun h0_ => cf_row h1_.out (Q3 h0_), fun _ => ⟨_, _, (cf_put (cf_put h1_.out _) _).trans rfl, fun _ => ⟨rfl, rfl⟩⟩, fun h0_ => by obtain ⟨v0, v1, g1, g2⟩ := Q5 h0_; have hne := Q45 (hon 4 (by kernel_rfl)) h0_; exact ⟨v0, v1, cf_far (cf_far g1 (fun e => hne e.symm) _) (fun e => hne e.symm) _, fun h7_ => absurd ((hoff 7 (by kernel_rfl)).symm.trans h7_) (by decide)⟩, Q45, Q4n, Q5n⟩
      refine steps_cons ?_ ?_
      · rintro b a w' ⟨AX, cX, AY, cY, n9, n10, ha, QB, Q1, Q3, Q4, Q5, Q45, Q4n, Q5n⟩ hb_ hon hoff
        refine ⟨_, rfl, fun K hK => ?_⟩
        have e10 : a.tmps[10]? = some (.pointer (some ⟨n10, 0, none⟩)) := by rw [ha]; exact putSel_on (e := (5, 10, .pointer (some ⟨n10, 0, none⟩))) 5 rfl rfl (hon 5 (by kernel_rfl)) rfl
        have e20 : a.tmps[20]? = some (.agg #[.int .i64 a1_0, .slice AY l1_1.length cY]) := by rw [ha]; exact putSel_on (e := (3, 20, .agg #[.int .i64 a1_0, .slice AY l1_1.length cY])) 3 rfl rfl (hon 3 (by kernel_rfl)) rfl
        replace ha := Aside0.mk ha
        obtain ⟨u0, u1, h1, _⟩ := Q5 (hon 5 (by kernel_rfl))
        have z0 : w'.cell? ⟨n10, 0, none⟩ = some u0 := (cf_cell h1).trans rfl
        have z1 : w'.cell? ⟨n10, 1, none⟩ = some u1 := (cf_cell h1).trans rfl
        have y0 : w'.frozen? ⟨n10, 0, none⟩ = false := cf_free h1
        have y1 : w'.frozen? ⟨n10, 1, none⟩ = false := cf_free h1
        have hn_ := Q5n (hon 5 (by kernel_rfl))
        have h1_ := Aside0.mk h1
        clear h1
        refine skip_ (w1 := ((w'.setCell ⟨n10, 0, none⟩ (.int .i64 a1_0)).setCell ⟨n10, 1, none⟩ (.slice AY l1_1.length cY))) (by rfl) rfl ?_ ?_
        · go_simp
          try rfl
        exact hK.out _ _ ⟨AX, cX, AY, cY, n9, n10, (by rw [ha.out]; exact (putSel_same rfl).symm), (QB.setCell hn_ _).setCell hn_ _, fun h0_ => cf_row h1_.out (Q1 h0_), fun h0_ => cf_row h1_.out (Q3 h0_), fun h0_ => by obtain ⟨v0, v1, g1, g2⟩ := Q4 h0_; have hne := Q45 h0_ (hon 5 (by kernel_rfl)); exact ⟨v0, v1, cf_far (cf_far g1 hne _) hne _, g2⟩, fun _ => ⟨_, _, (cf_put (cf_put h1_.out _) _).trans rfl, fun _ => ⟨rfl, rfl⟩⟩, Q45, Q4n, Q5n⟩
      exact steps_nil
    rintro b a wx hall ⟨AX, cX, AY, cY, n9, n10, ha, QB, Q1, Q3, Q4, Q5, Q45, Q4n, Q5n⟩
    have hb0_ := hall 0 (by kernel_rfl)
    have hb1_ := hall 1 (by kernel_rfl)
    have hb2_ := hall 2 (by kernel_rfl)
    have hb3_ := hall 3 (by kernel_rfl)
    have hb4_ := hall 4 (by kernel_rfl)
    have hb5_ := hall 5 (by kernel_rfl)
    have hb6_ := hall 6 (by kernel_rfl)
    have hb7_ := hall 7 (by kernel_rfl)
    subst ha
    simp only [putSel, hb0_, hb1_, hb2_, hb3_, hb4_, hb5_, if_true, Act.put, List.setIfInBounds_toArray, List.set_cons_zero, List.set_cons_succ]
    obtain ⟨u0, u1, g1, g2⟩ := Q4 hb4_
    obtain ⟨rfl, rfl⟩ := g2 hb6_
    obtain ⟨u2, u3, g3, g4⟩ := Q5 hb5_
    obtain ⟨rfl, rfl⟩ := g4 hb7_
    have Q1' := Q1 hb1_
    have Q3' := Q3 hb3_
    have Q4' := Q4n hb4_
    have Q5' := Q5n hb5_
    go_wp2_with fail
    go_meet
    exact ⟨AX, cX, AY, cY, n9, n10, rfl, rfl, ⟨g1⟩, ⟨g3⟩, ⟨Q1'⟩, ⟨Q3'⟩, ⟨⟨Q4', Q5'⟩⟩, ⟨QB⟩⟩
  case rest =>
    obtain ⟨AX, cX, AY, cY, n9, n10, rfl, rfl, H9, H10, HX, HY, HN, HBX⟩ := hcut
    have B0 := Aside0.mk (Bx_cons (cf_below H4.out HBX.out) (Bx_cons (cf_below H5.out HBX.out) (Bx_cons H9.out (Bx_cons H10.out (Bx_nil wc)))))
    have RX0 := Aside0.mk (Kd.R_reads' HX.out).2.2
    have CX := Aside0.mk (Kd.R_reads' HX.out).2.1
    have RY0 := Aside0.mk (Kd.R_reads' HY.out).2.2
    have CY := Aside0.mk (Kd.R_reads' HY.out).2.1
    replace HB := Aside0.mk (below_step HB.out HBX.out)
    have HBC := HB
    obtain ⟨k40, k41⟩ := Bx_get B0.out 0 rfl
    obtain ⟨k50, k51⟩ := Bx_get B0.out 1 rfl
    obtain ⟨k90, k91⟩ := Bx_get B0.out 2 rfl
    obtain ⟨ka0, ka1⟩ := Bx_get B0.out 3 rfl
    clear H4 H5 H9 H10 HX HY HN HBX
    go_wp2_with first
      | (go_at_call 6; refine (conf_Next.calls (l0_1.length + l1_1.length + 3) a0_0 AX cX l0_1 a1_0 AY cY l1_1 x0 xl xb xe _ RX0.out CX.out RY0.out CY.out (by rw [next_f a0_0 l0_1 a1_0 l1_1 HZ.out.1 HZ.out.2 _ (by omega), HNX.out])).mono ?_; rintro e w1 ⟨v1, rfl, ho, hb⟩; obtain ⟨AR, cR, rfl⟩ := Kd.S_slice ho; have HSR := Aside0.mk ho; have B1 := Aside0.mk (Bx_below B0.out hb); have HBN1 := Aside0.mk hb; replace HB := Aside0.mk (below_step HB.out hb); clear k40 k41 k50 k51 k90 k91 ka0 ka1; have q40 : ∀ o, (w1.alloc o).cell? ⟨n4, 0, none⟩ = some (.int .i64 a0_0) := (fun o => (Bx_get (Bx_below B1.out (below_alloc (Below.refl _ _) o)) 0 rfl).1); have q41 : ∀ o, (w1.alloc o).cell? ⟨n4, 1, none⟩ = some (.slice A0_1 l0_1.length c0_1) := (fun o => (Bx_get (Bx_below B1.out (below_alloc (Below.refl _ _) o)) 0 rfl).2); have q50 : ∀ o, (w1.alloc o).cell? ⟨n5, 0, none⟩ = some (.int .i64 a1_0) := (fun o => (Bx_get (Bx_below B1.out (below_alloc (Below.refl _ _) o)) 1 rfl).1); have q51 : ∀ o, (w1.alloc o).cell? ⟨n5, 1, none⟩ = some (.slice A1_1 l1_1.length c1_1) := (fun o => (Bx_get (Bx_below B1.out (below_alloc (Below.refl _ _) o)) 1 rfl).2); clear ho hb)
      | (go_at_call 7; refine (wharfageref10_NextConf.calls (l0_1.length + l1_1.length + 101) a0_0 A0_1 c0_1 l0_1 a1_0 A1_1 c1_1 l1_1 x0 xl xb xe _ (Kd.C_below R0.out (below_alloc HB.out _)) HC.out.1 (Kd.C_below R1.out (below_alloc HB.out _)) HC.out.2 (by rw [rnext_f a0_0 l0_1 a1_0 l1_1 HZ.out.1 HZ.out.2 _ (by omega), HNX.out])).mono ?_; rintro e w2 ⟨v2, rfl, ho, hb⟩; obtain ⟨AQ, cQ, rfl⟩ := Kd.S_slice ho; have RQ2 := Aside0.mk (Kd.S_reads' ho).2.2; have CQ := Aside0.mk (Kd.S_reads' ho).2.1; have B2 := Aside0.mk (Bx_cons (cf_below (heap_alloc_new w1 _) hb) (Bx_below (Bx_below B1.out (below_alloc (Below.refl _ _) (.cells #[.int .i64 x0, .slice AR xl.length cR] 24))) hb)); have HSR2 := Aside0.mk (Kd.S_below (Kd.S_alloc HSR.out (.cells #[.int .i64 x0, .slice AR xl.length cR] 24)) hb); have HBN2 := Aside0.mk (below_step (below_alloc HBN1.out (.cells #[.int .i64 x0, .slice AR xl.length cR] 24)) hb); replace HB := Aside0.mk (below_step (below_alloc HB.out _) hb); clear q40 q41 q50 q51; clear ho hb)
    obtain ⟨w3, hw3⟩ : ∃ x_, x_ = w2.alloc (.cells #[.int .i64 x0, .slice AQ xl.length cQ] 24) := ⟨_, rfl⟩
    obtain ⟨n11, hn11⟩ : ∃ n, n = w1.heap.size := ⟨_, rfl⟩
    obtain ⟨n14, hn14⟩ : ∃ n, n = w2.heap.size := ⟨_, rfl⟩
    have hb3 : Below w2.heap.size w2 w3 := hw3 ▸ below_alloc (Below.refl _ _) _
    have B3 := Aside0.mk (Bx_cons (show w3.heap[n14]? = some (.cells #[.int .i64 x0, .slice AQ xl.length cQ] 24 (0, 0)) by rw [hw3, hn14]; exact heap_alloc_new w2 _) (Bx_below B2.out hb3))
    have RQ := Aside0.mk (Kd.C_below RQ2.out hb3)
    have HSR3 := Aside0.mk (Kd.S_below HSR2.out hb3)
    have RS := Aside0.mk (Kd.S_reads' HSR3.out).2.2
    have CR := Aside0.mk (Kd.S_reads' HSR3.out).2.1
    have HBN3 := Aside0.mk (below_step HBN2.out hb3)
    have RX := Aside0.mk (Kd.C_below RX0.out HBN3.out)
    have RA := Aside0.mk (Kd.C_below R0.out (below_step HBC.out HBN3.out))
    replace HB := Aside0.mk (below_step HB.out hb3)
    have HD := Aside0.mk (show Below w3.heap.size w3 w3.drew from below_drew1 (Below.refl w3.heap.size w3))
    rw [← hn11] at B3
    obtain ⟨k40, k41⟩ := Bx_get B3.out 2 rfl; obtain ⟨k90, k91⟩ := Bx_get B3.out 4 rfl; obtain ⟨kb0, kb1⟩ := Bx_get B3.out 1 rfl; obtain ⟨ke0, ke1⟩ := Bx_get B3.out 0 rfl
    rw [← hw3, ← hn14, ← hn11]
    clear hw3 hn11 hn14 hb3 HSR HSR2 B1 B2 HBN1 HBN2 RQ2
    go_region_held3 (fun w' => w'.cell? ⟨n4, 0, none⟩ = some (.int .i64 a0_0) ∧ w'.cell? ⟨n4, 1, none⟩ = some (.slice A0_1 l0_1.length c0_1) ∧ w'.cell? ⟨n9, 0, none⟩ = some (.int .i64 a0_0) ∧ w'.cell? ⟨n9, 1, none⟩ = some (.slice AX l0_1.length cX) ∧ w'.cell? ⟨n11, 0, none⟩ = some (.int .i64 x0) ∧ w'.cell? ⟨n11, 1, none⟩ = some (.slice AR xl.length cR) ∧ w'.cell? ⟨n14, 0, none⟩ = some (.int .i64 x0) ∧ w'.cell? ⟨n14, 1, none⟩ = some (.slice AQ xl.length cQ)) (first | (exact ⟨k40, k41, k90, k91, kb0, kb1, ke0, ke1⟩) | go_keep) (first | (go_at_call 8; refine (wharfagelaw0_SameConfig.calls (xl.length + 8796093022210) x0 AR cR xl x0 AQ cQ xl true _ (Kd.C_below RS.out (below_dd HD.out)) CR.out (Kd.C_below RQ.out (below_dd HD.out)) CQ.out (sc_f x0 xl HNZ.out)).mono ?_; rintro e wq ⟨rfl, hb⟩; replace HD := Aside0.mk (below_step (below_dd HD.out) hb); have BD := Aside0.mk (Bx_below B3.out HD.out); clear k40 k41 k90 k91 kb0 kb1 ke0 ke1; obtain ⟨k40, k41⟩ := Bx_get BD.out 2 rfl; obtain ⟨k90, k91⟩ := Bx_get BD.out 4 rfl; obtain ⟨kb0, kb1⟩ := Bx_get BD.out 1 rfl; obtain ⟨ke0, ke1⟩ := Bx_get BD.out 0 rfl; clear hb BD) | (go_at_call 9; refine (wharfagelaw0_Num.calls _ _ _ rfl).mono ?_; rintro e wq ⟨rfl, hn⟩; have hb := Go.Proofs.Ytfdmcleopakmcaa.Hand.hk_drawn hn; clear hn; replace HD := Aside0.mk (below_step (below_dd HD.out) hb); have BD := Aside0.mk (Bx_below B3.out HD.out); clear k40 k41 k90 k91 kb0 kb1 ke0 ke1; obtain ⟨k40, k41⟩ := Bx_get BD.out 2 rfl; obtain ⟨k90, k91⟩ := Bx_get BD.out 4 rfl; obtain ⟨kb0, kb1⟩ := Bx_get BD.out 1 rfl; obtain ⟨ke0, ke1⟩ := Bx_get BD.out 0 rfl; clear hb BD) | (go_at_call 10; refine (conf_May.calls a0_0 AX cX l0_1 mb _ (Kd.C_below RX.out (below_dd HD.out)) CX.out (congrArg some HMB.out)).mono ?_; rintro e wq ⟨rfl, hb⟩; replace HD := Aside0.mk (below_step (below_dd HD.out) hb); have BD := Aside0.mk (Bx_below B3.out HD.out); clear k40 k41 k90 k91 kb0 kb1 ke0 ke1; obtain ⟨k40, k41⟩ := Bx_get BD.out 2 rfl; obtain ⟨k90, k91⟩ := Bx_get BD.out 4 rfl; obtain ⟨kb0, kb1⟩ := Bx_get BD.out 1 rfl; obtain ⟨ke0, ke1⟩ := Bx_get BD.out 0 rfl; clear hb BD) | (go_at_call 11; refine (wharfageref10_ConfMay.calls 60 a0_0 A0_1 c0_1 l0_1 mb _ (Kd.C_below RA.out (below_dd HD.out)) HC.out.1 (by rw [cm_f _ _ _ (by omega), HMB.out])).mono ?_; rintro e wq ⟨rfl, hb⟩; replace HD := Aside0.mk (below_step (below_dd HD.out) hb); have BD := Aside0.mk (Bx_below B3.out HD.out); clear k40 k41 k90 k91 kb0 kb1 ke0 ke1; obtain ⟨k40, k41⟩ := Bx_get BD.out 2 rfl; obtain ⟨k90, k91⟩ := Bx_get BD.out 4 rfl; obtain ⟨kb0, kb1⟩ := Bx_get BD.out 1 rfl; obtain ⟨ke0, ke1⟩ := Bx_get BD.out 0 rfl; clear hb BD) | (go_at_call 12; refine (conf_Has.calls a0_0 AX cX l0_1 a2 a3 hq _ (Kd.C_below RX.out (below_dd HD.out)) CX.out HHQ.out.1).mono ?_; rintro e wq ⟨rfl, hb⟩; replace HD := Aside0.mk (below_step (below_dd HD.out) hb); have BD := Aside0.mk (Bx_below B3.out HD.out); clear k40 k41 k90 k91 kb0 kb1 ke0 ke1; obtain ⟨k40, k41⟩ := Bx_get BD.out 2 rfl; obtain ⟨k90, k91⟩ := Bx_get BD.out 4 rfl; obtain ⟨kb0, kb1⟩ := Bx_get BD.out 1 rfl; obtain ⟨ke0, ke1⟩ := Bx_get BD.out 0 rfl; clear hb BD) | (go_at_call 13; refine (wharfageref10_Has.calls 60 a0_0 A0_1 c0_1 l0_1 a2 a3 hq _ (Kd.C_below RA.out (below_dd HD.out)) HC.out.1 HHQ.out.2).mono ?_; rintro e wq ⟨rfl, hb⟩; replace HD := Aside0.mk (below_step (below_dd HD.out) hb); have BD := Aside0.mk (Bx_below B3.out HD.out); clear k40 k41 k90 k91 kb0 kb1 ke0 ke1; obtain ⟨k40, k41⟩ := Bx_get BD.out 2 rfl; obtain ⟨k90, k91⟩ := Bx_get BD.out 4 rfl; obtain ⟨kb0, kb1⟩ := Bx_get BD.out 1 rfl; obtain ⟨ke0, ke1⟩ := Bx_get BD.out 0 rfl; clear hb BD))
    have G0 := Aside0.mk trivial
    have G1 := Aside0.mk trivial
    have HSD := Aside0.mk (Kd.S_below HSR3.out HD.out)
    have HBD := Aside0.mk (below_step HBN3.out HD.out)
    clear HSR3 HBN3 RS RQ RX RA B3
    go_wp2_with first
      | (go_at_call 14; clear G0; refine (wharfagelaw0_SpoilConfig.calls x0 _ xl wc _ HBD.out HSD.out).mono ?_; rintro e ws ⟨rfl, hb⟩; have HE := Aside0.mk hb; have BD := Aside0.mk (Bx_below B0.out HE.out); clear k40 k41 k90 k91 kb0 kb1 ke0 ke1; obtain ⟨k40, k41⟩ := Bx_get BD.out 0 rfl; obtain ⟨k50, k51⟩ := Bx_get BD.out 1 rfl; obtain ⟨k90, k91⟩ := Bx_get BD.out 2 rfl; obtain ⟨ka0, ka1⟩ := Bx_get BD.out 3 rfl; clear hb BD HD HSD HBD HB)
      | (go_at_call 8; clear G1; refine (wharfagelaw0_SameConfig.calls (l0_1.length + 8796093022210) a0_0 AX cX l0_1 a0_0 A0_1 c0_1 l0_1 true _ (Kd.C_below RX0.out HE.out) CX.out (Kd.C_below R0.out (below_step HBC.out HE.out)) HC.out.1 (sc_f a0_0 l0_1 HZ.out.1)).mono ?_; rintro e wq ⟨rfl, hb⟩; replace HE := Aside0.mk (below_step HE.out hb); have BD := Aside0.mk (Bx_below B0.out HE.out); clear k40 k41 k50 k51 k90 k91 ka0 ka1; obtain ⟨k40, k41⟩ := Bx_get BD.out 0 rfl; obtain ⟨k50, k51⟩ := Bx_get BD.out 1 rfl; obtain ⟨k90, k91⟩ := Bx_get BD.out 2 rfl; obtain ⟨ka0, ka1⟩ := Bx_get BD.out 3 rfl; clear hb BD)
      | (go_at_call 8; refine (wharfagelaw0_SameConfig.calls (l1_1.length + 8796093022210) a1_0 AY cY l1_1 a1_0 A1_1 c1_1 l1_1 true _ (Kd.C_below RY0.out HE.out) CY.out (Kd.C_below R1.out (below_step HBC.out HE.out)) HC.out.2 (sc_f a1_0 l1_1 HZ.out.2)).mono ?_; rintro e wq ⟨rfl, hb⟩; replace HE := Aside0.mk (below_step HE.out hb); have BD := Aside0.mk (Bx_below B0.out HE.out); clear k40 k41 k50 k51 k90 k91 ka0 ka1; obtain ⟨k40, k41⟩ := Bx_get BD.out 0 rfl; obtain ⟨k50, k51⟩ := Bx_get BD.out 1 rfl; obtain ⟨k90, k91⟩ := Bx_get BD.out 2 rfl; obtain ⟨ka0, ka1⟩ := Bx_get BD.out 3 rfl; clear hb BD)
      | (go_at_call 15; refine (wharfagelaw10_awake.calls true _ rfl).mono ?_; rintro e wq ⟨rfl, hb⟩; replace HE := Aside0.mk (below_step HE.out hb); clear hb)
    go_ret
    exact ⟨Go.Proofs.Ytfdmcleopakmcaa.Hand.hk_bool rfl, below_step HBC.out HE.out⟩


end Go.Proofs.Ytfdmcleopakmcaa.PConfs
