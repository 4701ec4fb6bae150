/- Candidates of any configuration may be built into a table. -/
import Derived.Test.YtnocfhnandedoaaPCandx15
import Derived.Test.YtnocfhnandedoaaOpenCandMay
import Derived.Test.YtnocfhnandedoaaNumMath
set_option linter.unusedVariables false
set_option linter.unusedSimpArgs false
namespace Go.Proofs.Ytnocfhnandedoaa.Pure
open Go.RowKit Go.Proofs.Ytnocfhnandedoaa.PCand Go.Proofs.YtnocfhnandedoaaW.PrintWords Go.Proofs.YtnocfhnandedoaaW.PrintLast Go.Proofs.YtnocfhnandedoaaW.PrintMore Go.Proofs.Ytnocfhnandedoaa.NumMath

theorem num_f (a : Int) : wharfagelaw0_Num.f a = some a := rfl
theorem awake_f (k : Nat) (hk : 60 ≤ k) : wharfagelaw13_awake.f k = some true := at_rounds wharfagelaw13_awake.mono (k := 60) hk (by decide +kernel)
def toB (s : S70) : S74 := ⟨s.f0, s.f1⟩
theorem rdB (l : List S70) (i : Nat) : rd_T74 (l.map toB) (i : Int) = toB (rd_T70 l (i : Int)) := by
  unfold rd_T74 rd_T70
  rw [Int.toNat_natCast]
  by_cases h : i < l.length
  · simp [List.getD, List.getElem?_map, List.getElem?_eq_getElem h]
  · simp [List.getD, List.getElem?_map, List.getElem?_eq_none (show l.length ≤ i by omega)]; rfl
theorem rdC (l : List S72) (i : Nat) (h : i < l.length) : rd_T72 l (i : Int) = l[i] := by simp [rd_T72, h]
theorem wrapB (x : Int) (h1 : -9223372036854775808 ≤ x) (h2 : x < 9223372036854775808) : wrap64 x = x := by unfold wrap64; omega
theorem picked_succ (bs : List S74) (hs : List S67) (i : Nat) : picked bs hs (i + 1) = addOne (picked bs hs i) (i : Int) (rd_T74 bs (i : Int)) (rd_T67 hs (i : Int)) := rfl
theorem sites_loop (l : List S70) (hs : List S67) (hl : l.length ≤ 3) (hh : l.length ≤ hs.length) (d : Nat) : ∀ (k i : Nat), l.length - i ≤ d → d < k → i ≤ l.length → cand_Sites.l0 k hs (picked (l.map toB) hs i) l (l.length : Int) (i : Int) = some (picked (l.map toB) hs l.length, 0) := by
  induction d with
  | zero =>
    intro k i hd hk hi
    obtain ⟨k, rfl⟩ : ∃ m, k = m + 1 := ⟨k - 1, by omega⟩
    obtain rfl : i = l.length := by omega
    simp only [cand_Sites.l0]
    rw [if_neg (by omega)]
  | succ d ih =>
    intro k i hd hk hi
    obtain ⟨k, rfl⟩ : ∃ m, k = m + 1 := ⟨k - 1, by omega⟩
    simp only [cand_Sites.l0]
    by_cases h : (i : Int) < (l.length : Int)
    · have hp := picked_len (l.map toB) hs i
      have e := add_one (picked (l.map toB) hs i) (i : Int) (rd_T74 (l.map toB) (i : Int)) (rd_T67 hs (i : Int)) (by omega)
      rw [rdB] at e
      rw [if_pos h, if_pos (show (0 : Int) ≤ (i : Int) by omega), if_pos h, if_pos (by omega), show (rd_T70 l (i : Int)).f0 = (toB (rd_T70 l (i : Int))).f0 from rfl, show (rd_T70 l (i : Int)).f1 = (toB (rd_T70 l (i : Int))).f1 from rfl, e, Option.bind_some, wrapB _ (by omega) (by omega)]
      have := ih k (i + 1) (by omega) (by omega) (by omega)
      rw [picked_succ, rdB] at this
      exact this
    · obtain rfl : i = l.length := by omega
      rw [if_neg h]
theorem may_f (v : Int) (l : List S70) : conf_May.f v l = some (mayC v l) := rfl
theorem mayC_len {v : Int} {l : List S70} (h : mayC v l = true) : l.length ≤ 3 := by
  unfold mayC at h; simp only [Bool.and_eq_true, decide_eq_true_eq] at h; exact h.2
theorem mayC_in {v : Int} {l : List S70} (h : mayC v l = true) {x : S70} (hx : x ∈ l) : siteOk x = true := by
  unfold mayC at h; simp only [Bool.and_eq_true, decide_eq_true_eq] at h
  exact List.all_eq_true.1 h.1.1 x hx
theorem siteOk_w {x : S70} (h : siteOk x = true) : 0 ≤ x.f0 ∧ x.f0 ≤ 16 := by
  unfold siteOk at h; simp only [Bool.and_eq_true, decide_eq_true_eq] at h; exact h.1.1.2
theorem siteOk_len {x : S70} (h : siteOk x = true) : x.f3.length ≤ 4 := by
  unfold siteOk at h; simp only [Bool.and_eq_true, decide_eq_true_eq] at h; exact h.2
theorem siteOk_b {x : S70} (h : siteOk x = true) {b : S74} (hb : b ∈ x.f3) : 0 ≤ b.f0 ∧ b.f0 ≤ 16 := by
  unfold siteOk at h; simp only [Bool.and_eq_true, decide_eq_true_eq] at h
  have := List.all_eq_true.1 h.1.1.1 b hb
  unfold backOk at this; simpa using this
theorem allB_len {l : List S67} {n : Int} (h : allB l n = true) : (l.length : Int) = n := by
  unfold allB at h; simp only [Bool.and_eq_true, beq_iff_eq] at h; exact h.2
theorem all_k (l : List S67) (n : Int) (hl : l.length ≤ 9223372036854775807) (k : Nat) (hk : l.length + 2 ≤ k) : health_All.f k l n = some (allB l n) := by
  have := all_loop l l n hl l.length k 0 (by omega) (by omega) (by omega)
  exact this
def sitesR (v : Int) (l : List S70) (hs : List S67) : List S72 × Int := if (mayC v l && allB hs 3) = true then (picked (l.map toB) hs l.length, 0) else ([], 1300)
theorem sites_f (v : Int) (l : List S70) (hs : List S67) (hh : hs.length ≤ 9223372036854775807) (k : Nat) (hk : hs.length + 10 ≤ k) : cand_Sites.f k v l hs = some (sitesR v l hs) := by
  obtain ⟨k, rfl⟩ : ∃ m, k = m + 1 := ⟨k - 1, by omega⟩
  unfold cand_Sites.f sitesR
  rw [may_f]
  cases hm : mayC v l
  · simp [cand_Sites.j0]
  · rw [Option.bind_some, if_pos rfl, all_k hs 3 hh (k + 1) (by omega), Option.bind_some]
    cases ha : allB hs 3
    · simp [cand_Sites.j0]
    · have hl := mayC_len hm
      have h3 := allB_len ha
      simp only [cand_Sites.j0, Bool.not_true, Bool.false_eq_true, if_false]
      have := sites_loop l hs hl (by omega) 3 k 0 (by omega) (by omega) (by omega)
      simp only [Bool.and_self, if_true]
      exact this
def Good (n : Int) (a : List S72) : Prop := ∀ i : Nat, ∀ h : i < a.length, 0 ≤ a[i].f0 ∧ a[i].f0 < n ∧ 1 ≤ a[i].f1 ∧ a[i].f1 ≤ 16 ∧ (∀ j : Nat, ∀ h2 : j < i, (a[j]'(by omega)).f0 < a[i].f0)
theorem good_nil (n : Int) : Good n [] := fun i h => absurd h (by simp)
theorem good_up {n m : Int} {a : List S72} (h : Good n a) (hm : n ≤ m) : Good m a := fun i hi => by
  obtain ⟨h0, h1, h2⟩ := h i hi
  exact ⟨h0, by omega, h2⟩
theorem good_picked (bs : List S74) (hs : List S67) (hb : ∀ b ∈ bs, 0 ≤ b.f0 ∧ b.f0 ≤ 16) (n : Nat) : n ≤ bs.length → Good (n : Int) (picked bs hs n) := by
  induction n with
  | zero => intro _; exact good_nil _
  | succ n ih =>
    intro hn
    have g := ih (by omega)
    unfold picked addOne
    split
    · rename_i hc
      have hlt : n < bs.length := by omega
      have e : rd_T74 bs (n : Int) = bs[n] := by simp [rd_T74, hlt]
      have hw := hb bs[n] (List.getElem_mem hlt)
      rw [e] at hc ⊢
      intro i hi
      rw [List.length_append] at hi
      simp only [List.length_cons, List.length_nil] at hi
      by_cases h1 : i < (picked bs hs n).length
      · rw [List.getElem_append_left h1]
        obtain ⟨a0, a1, a2, a3, a4⟩ := g i h1
        refine ⟨a0, by omega, a2, a3, fun j hj => ?_⟩
        rw [List.getElem_append_left (by omega)]
        exact a4 j hj
      · have hie : i = (picked bs hs n).length := by omega
        subst hie
        rw [List.getElem_append_right (Nat.le_refl _)]
        simp only [Nat.sub_self, List.getElem_cons_zero]
        refine ⟨by omega, by omega, by omega, hw.2, fun j hj => ?_⟩
        rw [List.getElem_append_left hj]
        exact (g j hj).2.1
    · exact good_up g (by omega)
theorem good_backs (v : Int) (l : List S70) (x : Int) (gs : List S67) (r : List S72 × Int) (h : cand_Backs.f v l x gs = some r) : Good 4 r.1 ∧ (r.2 = 0 ∨ r.1 = []) ∧ r.1.length ≤ 4 := by
  unfold cand_Backs.f at h
  have h := Option.some.inj h
  by_cases hk : cand_Backs.ok v l x gs = true
  · rw [if_pos hk] at h
    subst h
    unfold cand_Backs.ok at hk
    simp only [Bool.and_eq_true, decide_eq_true_eq] at hk
    have hx : rd_T70 l x ∈ l := by
      unfold rd_T70
      have hlt : x.toNat < l.length := by omega
      rw [List.getD_eq_getElem?_getD, List.getElem?_eq_getElem hlt]
      exact List.getElem_mem hlt
    have ho := mayC_in hk.1 hx
    have h4 := siteOk_len ho
    have := picked_len (rd_T70 l x).f3 gs (rd_T70 l x).f3.length
    exact ⟨good_up (good_picked _ gs (fun b hb => siteOk_b ho hb) _ (Nat.le_refl _)) (by omega), .inl rfl, by show (picked (rd_T70 l x).f3 gs (rd_T70 l x).f3.length).length ≤ 4; omega⟩
  · rw [if_neg hk] at h
    subst h
    exact ⟨good_nil _, .inr rfl, by simp⟩
theorem good_sites (v : Int) (l : List S70) (hs : List S67) : Good 3 (sitesR v l hs).1 ∧ ((sitesR v l hs).2 = 0 ∨ (sitesR v l hs).1 = []) ∧ (sitesR v l hs).1.length ≤ 3 := by
  unfold sitesR
  by_cases hk : (mayC v l && allB hs 3) = true
  · rw [if_pos hk]
    simp only [Bool.and_eq_true] at hk
    have hl := mayC_len hk.1
    have := picked_len (l.map toB) hs l.length
    refine ⟨good_up (good_picked _ hs (fun b hb => ?_) _ (by simp)) (by omega), .inl rfl, by show (picked (l.map toB) hs l.length).length ≤ 3; omega⟩
    obtain ⟨s, hs2, rfl⟩ := List.mem_map.1 hb
    exact siteOk_w (mayC_in hk.1 hs2)
  · rw [if_neg hk]
    exact ⟨good_nil _, .inr rfl, by simp⟩

theorem loopB (a b : List S72) (e f : Int) (ha : e = 0 ∨ a = []) (hb : Good 4 b) (hf : f = 0 ∨ b = []) (hl : b.length ≤ 4) (d : Nat) : ∀ (k i : Nat), b.length - i ≤ d → d < k → wharfagelaw13_CandMay.l1 k a e b f (i : Int) = some true := by
  induction d with
  | zero =>
    intro k i hd hk
    obtain ⟨k, rfl⟩ : ∃ m, k = m + 1 := ⟨k - 1, by omega⟩
    simp only [wharfagelaw13_CandMay.l1]
    rw [if_neg (by omega), num_f, num_f]
    simp only [Option.bind_some]
    rcases ha with rfl | rfl <;> rcases hf with rfl | rfl <;> simp
  | succ d ih =>
    intro k i hd hk
    obtain ⟨k, rfl⟩ : ∃ m, k = m + 1 := ⟨k - 1, by omega⟩
    simp only [wharfagelaw13_CandMay.l1]
    by_cases h : (i : Int) < (b.length : Int)
    · have hlt : i < b.length := by omega
      obtain ⟨h0, h1, h2, h3, h4⟩ := hb i hlt
      have next := ih k (i + 1) (by omega) (by omega)
      rw [if_pos h, if_pos (show (0 : Int) ≤ (i : Int) by omega), rdC b i hlt, if_neg (by omega), if_neg (by omega), if_neg (by omega), if_neg (by omega), wrapB ((i : Int) + 1) (by omega) (by omega)]
      by_cases hz : (i : Int) > 0
      · have hw : wrap64 ((i : Int) - 1) = ((i - 1 : Nat) : Int) := by rw [wrapB _ (by omega) (by omega)]; omega
        have h5 := h4 (i - 1) (by omega)
        rw [if_pos hz, hw, if_pos (by omega), if_pos (by omega), rdC b (i - 1) (by omega), if_neg (by omega)]
        exact next
      · rw [if_neg hz]
        exact next
    · rw [if_neg h, num_f, num_f]
      simp only [Option.bind_some]
      rcases ha with rfl | rfl <;> rcases hf with rfl | rfl <;> simp
theorem loopA (a b : List S72) (e f : Int) (hg : Good 3 a) (hla : a.length ≤ 3) (ha : e = 0 ∨ a = []) (hb : Good 4 b) (hf : f = 0 ∨ b = []) (hl : b.length ≤ 4) (d : Nat) : ∀ (k i : Nat), a.length - i ≤ d → d + 7 < k → wharfagelaw13_CandMay.l0 k a e b f (i : Int) = some true := by
  induction d with
  | zero =>
    intro k i hd hk
    obtain ⟨k, rfl⟩ : ∃ m, k = m + 1 := ⟨k - 1, by omega⟩
    simp only [wharfagelaw13_CandMay.l0]
    rw [if_neg (by omega)]
    exact loopB a b e f ha hb hf hl 4 k 0 (by omega) (by omega)
  | succ d ih =>
    intro k i hd hk
    obtain ⟨k, rfl⟩ : ∃ m, k = m + 1 := ⟨k - 1, by omega⟩
    simp only [wharfagelaw13_CandMay.l0]
    by_cases h : (i : Int) < (a.length : Int)
    · have hlt : i < a.length := by omega
      obtain ⟨h0, h1, h2, h3, h4⟩ := hg i hlt
      have next := ih k (i + 1) (by omega) (by omega)
      rw [if_pos h, if_pos (show (0 : Int) ≤ (i : Int) by omega), rdC a i hlt, if_neg (by omega), if_neg (by omega), if_neg (by omega), if_neg (by omega), wrapB ((i : Int) + 1) (by omega) (by omega)]
      by_cases hz : (i : Int) > 0
      · have hw : wrap64 ((i : Int) - 1) = ((i - 1 : Nat) : Int) := by rw [wrapB _ (by omega) (by omega)]; omega
        have h5 := h4 (i - 1) (by omega)
        rw [if_pos hz, hw, if_pos (by omega), if_pos (by omega), rdC a (i - 1) (by omega), if_neg (by omega)]
        exact next
      · rw [if_neg hz]
        exact next
    · rw [if_neg h]
      exact loopB a b e f ha hb hf hl 4 k 0 (by omega) (by omega)
theorem CandMay : wharfagelaw13_CandMay.PureX := by
  intro c x hs gs _ _ hhs _
  obtain ⟨v, l⟩ := c
  obtain ⟨k, hk⟩ : ∃ k : Nat, hs.length + 100 ≤ k := ⟨_, Nat.le_refl _⟩
  refine ⟨k, ?_⟩
  unfold wharfagelaw13_CandMay.f
  rw [awake_f k (by omega), Option.bind_some, if_pos rfl, sites_f v l hs hhs.1 k (by omega), Option.bind_some]
  obtain ⟨r, hr⟩ : ∃ r, cand_Backs.f v l x gs = some r := ⟨_, rfl⟩
  rw [hr, Option.bind_some]
  obtain ⟨g1, g2, g3⟩ := good_backs v l x gs r hr
  obtain ⟨s1, s2, s3⟩ := good_sites v l hs
  exact loopA _ _ _ _ s1 s3 s2 g1 g2 g3 3 k 0 (by omega) (by omega)

end Go.Proofs.Ytnocfhnandedoaa.Pure
