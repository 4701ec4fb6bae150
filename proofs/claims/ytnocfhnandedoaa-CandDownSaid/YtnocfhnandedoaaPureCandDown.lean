/- Who goes down is the only one that goes from the candidates. -/
import Derived.Test.YtnocfhnandedoaaPCandx16
import Derived.Test.YtnocfhnandedoaaOpenCandDown
import Derived.Test.YtnocfhnandedoaaNumMath
set_option linter.unusedVariables false
set_option linter.unusedSimpArgs false
namespace Go.Proofs.Ytnocfhnandedoaa.Pure
open Go.RowKit Go.Proofs.Ytnocfhnandedoaa.PCand Go.Proofs.YtnocfhnandedoaaW.PrintWords Go.Proofs.YtnocfhnandedoaaW.PrintLast Go.Proofs.YtnocfhnandedoaaW.PrintMore Go.Proofs.Ytnocfhnandedoaa.NumMath

theorem num_f (a : Int) : wharfagelaw0_Num.f a = some a := rfl
theorem awake_f (k : Nat) (hk : 60 ≤ k) : wharfagelaw13_awake.f k = some true := at_rounds wharfagelaw13_awake.mono (k := 60) hk (by decide +kernel)
def toB (s : S70) : S74 := ⟨s.f0, s.f1⟩
theorem rdB (l : List S70) (i : Nat) : rd_T74 (l.map toB) (i : Int) = toB (rd_T70 l (i : Int)) := by
  unfold rd_T74 rd_T70
  rw [Int.toNat_natCast]
  by_cases h : i < l.length
  · simp [List.getD, List.getElem?_map, List.getElem?_eq_getElem h]
  · simp [List.getD, List.getElem?_map, List.getElem?_eq_none (show l.length ≤ i by omega)]; rfl
theorem rdC (l : List S72) (i : Nat) (h : i < l.length) : rd_T72 l (i : Int) = l[i] := by simp [rd_T72, h]
theorem wrapB (x : Int) (h1 : -9223372036854775808 ≤ x) (h2 : x < 9223372036854775808) : wrap64 x = x := by unfold wrap64; omega
theorem picked_succ (bs : List S74) (hs : List S67) (i : Nat) : picked bs hs (i + 1) = addOne (picked bs hs i) (i : Int) (rd_T74 bs (i : Int)) (rd_T67 hs (i : Int)) := rfl
theorem sites_loop (l : List S70) (hs : List S67) (hl : l.length ≤ 3) (hh : l.length ≤ hs.length) (d : Nat) : ∀ (k i : Nat), l.length - i ≤ d → d < k → i ≤ l.length → cand_Sites.l0 k hs (picked (l.map toB) hs i) l (l.length : Int) (i : Int) = some (picked (l.map toB) hs l.length, 0) := by
  induction d with
  | zero =>
    intro k i hd hk hi
    obtain ⟨k, rfl⟩ : ∃ m, k = m + 1 := ⟨k - 1, by omega⟩
    obtain rfl : i = l.length := by omega
    simp only [cand_Sites.l0]
    rw [if_neg (by omega)]
  | succ d ih =>
    intro k i hd hk hi
    obtain ⟨k, rfl⟩ : ∃ m, k = m + 1 := ⟨k - 1, by omega⟩
    simp only [cand_Sites.l0]
    by_cases h : (i : Int) < (l.length : Int)
    · have hp := picked_len (l.map toB) hs i
      have e := add_one (picked (l.map toB) hs i) (i : Int) (rd_T74 (l.map toB) (i : Int)) (rd_T67 hs (i : Int)) (by omega)
      rw [rdB] at e
      rw [if_pos h, if_pos (show (0 : Int) ≤ (i : Int) by omega), if_pos h, if_pos (by omega), show (rd_T70 l (i : Int)).f0 = (toB (rd_T70 l (i : Int))).f0 from rfl, show (rd_T70 l (i : Int)).f1 = (toB (rd_T70 l (i : Int))).f1 from rfl, e, Option.bind_some, wrapB _ (by omega) (by omega)]
      have := ih k (i + 1) (by omega) (by omega) (by omega)
      rw [picked_succ, rdB] at this
      exact this
    · obtain rfl : i = l.length := by omega
      rw [if_neg h]
theorem may_f (v : Int) (l : List S70) : conf_May.f v l = some (mayC v l) := rfl
theorem mayC_len {v : Int} {l : List S70} (h : mayC v l = true) : l.length ≤ 3 := by
  unfold mayC at h; simp only [Bool.and_eq_true, decide_eq_true_eq] at h; exact h.2
theorem mayC_in {v : Int} {l : List S70} (h : mayC v l = true) {x : S70} (hx : x ∈ l) : siteOk x = true := by
  unfold mayC at h; simp only [Bool.and_eq_true, decide_eq_true_eq] at h
  exact List.all_eq_true.1 h.1.1 x hx
theorem siteOk_w {x : S70} (h : siteOk x = true) : 0 ≤ x.f0 ∧ x.f0 ≤ 16 := by
  unfold siteOk at h; simp only [Bool.and_eq_true, decide_eq_true_eq] at h; exact h.1.1.2
theorem siteOk_len {x : S70} (h : siteOk x = true) : x.f3.length ≤ 4 := by
  unfold siteOk at h; simp only [Bool.and_eq_true, decide_eq_true_eq] at h; exact h.2
theorem siteOk_b {x : S70} (h : siteOk x = true) {b : S74} (hb : b ∈ x.f3) : 0 ≤ b.f0 ∧ b.f0 ≤ 16 := by
  unfold siteOk at h; simp only [Bool.and_eq_true, decide_eq_true_eq] at h
  have := List.all_eq_true.1 h.1.1.1 b hb
  unfold backOk at this; simpa using this
theorem allB_len {l : List S67} {n : Int} (h : allB l n = true) : (l.length : Int) = n := by
  unfold allB at h; simp only [Bool.and_eq_true, beq_iff_eq] at h; exact h.2
theorem all_k (l : List S67) (n : Int) (hl : l.length ≤ 9223372036854775807) (k : Nat) (hk : l.length + 2 ≤ k) : health_All.f k l n = some (allB l n) := by
  have := all_loop l l n hl l.length k 0 (by omega) (by omega) (by omega)
  exact this
def sitesR (v : Int) (l : List S70) (hs : List S67) : List S72 × Int := if (mayC v l && allB hs 3) = true then (picked (l.map toB) hs l.length, 0) else ([], 1300)
theorem sites_f (v : Int) (l : List S70) (hs : List S67) (hh : hs.length ≤ 9223372036854775807) (k : Nat) (hk : hs.length + 10 ≤ k) : cand_Sites.f k v l hs = some (sitesR v l hs) := by
  obtain ⟨k, rfl⟩ : ∃ m, k = m + 1 := ⟨k - 1, by omega⟩
  unfold cand_Sites.f sitesR
  rw [may_f]
  cases hm : mayC v l
  · simp [cand_Sites.j0]
  · rw [Option.bind_some, if_pos rfl, all_k hs 3 hh (k + 1) (by omega), Option.bind_some]
    cases ha : allB hs 3
    · simp [cand_Sites.j0]
    · have hl := mayC_len hm
      have h3 := allB_len ha
      simp only [cand_Sites.j0, Bool.not_true, Bool.false_eq_true, if_false]
      have := sites_loop l hs hl (by omega) 3 k 0 (by omega) (by omega) (by omega)
      simp only [Bool.and_self, if_true]
      exact this
def Good (n : Int) (a : List S72) : Prop := ∀ i : Nat, ∀ h : i < a.length, 0 ≤ a[i].f0 ∧ a[i].f0 < n ∧ 1 ≤ a[i].f1 ∧ a[i].f1 ≤ 16 ∧ (∀ j : Nat, ∀ h2 : j < i, (a[j]'(by omega)).f0 < a[i].f0)
theorem good_nil (n : Int) : Good n [] := fun i h => absurd h (by simp)
theorem good_up {n m : Int} {a : List S72} (h : Good n a) (hm : n ≤ m) : Good m a := fun i hi => by
  obtain ⟨h0, h1, h2⟩ := h i hi
  exact ⟨h0, by omega, h2⟩
theorem good_picked (bs : List S74) (hs : List S67) (hb : ∀ b ∈ bs, 0 ≤ b.f0 ∧ b.f0 ≤ 16) (n : Nat) : n ≤ bs.length → Good (n : Int) (picked bs hs n) := by
  induction n with
  | zero => intro _; exact good_nil _
  | succ n ih =>
    intro hn
    have g := ih (by omega)
    unfold picked addOne
    split
    · rename_i hc
      have hlt : n < bs.length := by omega
      have e : rd_T74 bs (n : Int) = bs[n] := by simp [rd_T74, hlt]
      have hw := hb bs[n] (List.getElem_mem hlt)
      rw [e] at hc ⊢
      intro i hi
      rw [List.length_append] at hi
      simp only [List.length_cons, List.length_nil] at hi
      by_cases h1 : i < (picked bs hs n).length
      · rw [List.getElem_append_left h1]
        obtain ⟨a0, a1, a2, a3, a4⟩ := g i h1
        refine ⟨a0, by omega, a2, a3, fun j hj => ?_⟩
        rw [List.getElem_append_left (by omega)]
        exact a4 j hj
      · have hie : i = (picked bs hs n).length := by omega
        subst hie
        rw [List.getElem_append_right (Nat.le_refl _)]
        simp only [Nat.sub_self, List.getElem_cons_zero]
        refine ⟨by omega, by omega, by omega, hw.2, fun j hj => ?_⟩
        rw [List.getElem_append_left hj]
        exact (g j hj).2.1
    · exact good_up g (by omega)
theorem good_backs (v : Int) (l : List S70) (x : Int) (gs : List S67) (r : List S72 × Int) (h : cand_Backs.f v l x gs = some r) : Good 4 r.1 ∧ (r.2 = 0 ∨ r.1 = []) ∧ r.1.length ≤ 4 := by
  unfold cand_Backs.f at h
  have h := Option.some.inj h
  by_cases hk : cand_Backs.ok v l x gs = true
  · rw [if_pos hk] at h
    subst h
    unfold cand_Backs.ok at hk
    simp only [Bool.and_eq_true, decide_eq_true_eq] at hk
    have hx : rd_T70 l x ∈ l := by
      unfold rd_T70
      have hlt : x.toNat < l.length := by omega
      rw [List.getD_eq_getElem?_getD, List.getElem?_eq_getElem hlt]
      exact List.getElem_mem hlt
    have ho := mayC_in hk.1 hx
    have h4 := siteOk_len ho
    have := picked_len (rd_T70 l x).f3 gs (rd_T70 l x).f3.length
    exact ⟨good_up (good_picked _ gs (fun b hb => siteOk_b ho hb) _ (Nat.le_refl _)) (by omega), .inl rfl, by show (picked (rd_T70 l x).f3 gs (rd_T70 l x).f3.length).length ≤ 4; omega⟩
  · rw [if_neg hk] at h
    subst h
    exact ⟨good_nil _, .inr rfl, by simp⟩
theorem good_sites (v : Int) (l : List S70) (hs : List S67) : Good 3 (sitesR v l hs).1 ∧ ((sitesR v l hs).2 = 0 ∨ (sitesR v l hs).1 = []) ∧ (sitesR v l hs).1.length ≤ 3 := by
  unfold sitesR
  by_cases hk : (mayC v l && allB hs 3) = true
  · rw [if_pos hk]
    simp only [Bool.and_eq_true] at hk
    have hl := mayC_len hk.1
    have := picked_len (l.map toB) hs l.length
    refine ⟨good_up (good_picked _ hs (fun b hb => ?_) _ (by simp)) (by omega), .inl rfl, by show (picked (l.map toB) hs l.length).length ≤ 3; omega⟩
    obtain ⟨s, hs2, rfl⟩ := List.mem_map.1 hb
    exact siteOk_w (mayC_in hk.1 hs2)
  · rw [if_neg hk]
    exact ⟨good_nil _, .inr rfl, by simp⟩

theorem addOne_down (out : List S72) (i : Int) (b : S74) : addOne out i b ⟨false, 0⟩ = out := by
  unfold addOne; simp
theorem rdH_set (hs : List S67) (k n : Nat) (h : S67) (hn : n < hs.length) : rd_T67 (hs.set k h) (n : Int) = if k = n then h else rd_T67 hs (n : Int) := by
  unfold rd_T67
  rw [Int.toNat_natCast]
  by_cases e : k = n
  · subst e; rw [if_pos rfl]; simp [hn]
  · rw [if_neg e]; simp [List.getD, List.getElem?_set_ne e]
theorem picked_down (bs : List S74) (hs : List S67) (k n : Nat) (hn : n ≤ hs.length) : picked bs (hs.set k ⟨false, 0⟩) n = (picked bs hs n).filter (fun c => c.f0 != (k : Int)) := by
  induction n with
  | zero => rfl
  | succ n ih =>
    rw [picked_succ, picked_succ, ih (by omega), rdH_set hs k n _ (by omega)]
    by_cases e : k = n
    · subst e
      rw [if_pos rfl, addOne_down]
      unfold addOne
      split
      · rw [List.filter_append]; simp
      · rfl
    · rw [if_neg e]
      unfold addOne
      have e2 : ((n : Int) != (k : Int)) = true := by simp; omega
      split
      · rw [List.filter_append]; simp [e2]
      · rfl
theorem same_loop (a : List S72) (hl : a.length ≤ 4) (d : Nat) : ∀ (k i : Nat), a.length - i ≤ d → d < k → wharfagelaw0_SameCandidates.l0 k a a (i : Int) = some true := by
  induction d with
  | zero =>
    intro k i hd hk
    obtain ⟨k, rfl⟩ : ∃ m, k = m + 1 := ⟨k - 1, by omega⟩
    simp only [wharfagelaw0_SameCandidates.l0]
    rw [if_neg (by omega)]
  | succ d ih =>
    intro k i hd hk
    obtain ⟨k, rfl⟩ : ∃ m, k = m + 1 := ⟨k - 1, by omega⟩
    simp only [wharfagelaw0_SameCandidates.l0]
    by_cases h : (i : Int) < (a.length : Int)
    · rw [if_pos h, if_pos (show (0 : Int) ≤ (i : Int) by omega), if_pos h, wrapB _ (by omega) (by omega)]
      simp only [beq_self_eq_true, Bool.not_true, Bool.or_self, Bool.false_eq_true, if_false]
      exact ih k (i + 1) (by omega) (by omega)
    · rw [if_neg h]
theorem same_f (a : List S72) (hl : a.length ≤ 4) (k : Nat) (hk : 5 < k) : wharfagelaw0_SameCandidates.f k a a = some true := by
  unfold wharfagelaw0_SameCandidates.f
  rw [if_pos rfl]
  exact same_loop a hl 4 k 0 (by omega) (by omega)
theorem down_loop (a : List S72) (p : Nat) (hl : a.length ≤ 4) (d : Nat) : ∀ (k i : Nat), a.length - i ≤ d → d + 6 < k → i ≤ a.length → wharfagelaw13_CandDown.l0 k a (p : Int) (a.filter (fun c => c.f0 != (p : Int))) 0 ((a.take i).filter (fun c => c.f0 != (p : Int))) (i : Int) = some true := by
  have hfl : (a.filter (fun c => c.f0 != (p : Int))).length ≤ 4 := Nat.le_trans (List.length_filter_le _ _) hl
  induction d with
  | zero =>
    intro k i hd hk hi
    obtain ⟨k, rfl⟩ : ∃ m, k = m + 1 := ⟨k - 1, by omega⟩
    simp only [wharfagelaw13_CandDown.l0]
    rw [if_neg (by omega), List.take_of_length_le (by omega), num_f, Option.bind_some, if_pos rfl, same_f _ hfl k (by omega)]; rfl
  | succ d ih =>
    intro k i hd hk hi
    obtain ⟨k, rfl⟩ : ∃ m, k = m + 1 := ⟨k - 1, by omega⟩
    simp only [wharfagelaw13_CandDown.l0]
    by_cases h : (i : Int) < (a.length : Int)
    · have hlt : i < a.length := by omega
      have hq : ((a.take i).filter (fun c => c.f0 != (p : Int))).length ≤ 4 := Nat.le_trans (List.length_filter_le _ _) (by rw [List.length_take]; omega)
      have next := ih k (i + 1) (by omega) (by omega) (by omega)
      rw [List.take_succ_eq_append_getElem hlt, List.filter_append] at next
      rw [if_pos h, if_pos (show (0 : Int) ≤ (i : Int) by omega), rdC a i hlt, wrapB _ (by omega) (by omega)]
      by_cases e : a[i].f0 = (p : Int)
      · rw [if_pos e]
        have e2 : (a[i].f0 != (p : Int)) = false := by simp [e]
        rw [List.filter_cons_of_neg (by rw [e2]; simp), List.filter_nil, List.append_nil] at next
        exact next
      · rw [if_neg e, if_pos (by omega)]
        have e2 : [a[i]].filter (fun c => c.f0 != (p : Int)) = [a[i]] := by simp [e]
        rw [e2] at next
        exact next
    · rw [if_neg h, List.take_of_length_le (by omega), num_f, Option.bind_some, if_pos rfl, same_f _ hfl k (by omega)]; rfl
theorem all_set (l : List S67) (k : Nat) (h : allB l 4 = true) : allB (l.set k ⟨false, 0⟩) 4 = true := by
  unfold allB at h ⊢
  simp only [Bool.and_eq_true, beq_iff_eq, List.length_set] at h ⊢
  refine ⟨?_, h.2⟩
  rw [List.all_eq_true] at h ⊢
  intro x hx
  rcases List.mem_or_eq_of_mem_set hx with hx | rfl
  · exact h.1 x hx
  · rfl
theorem CandDown : wharfagelaw13_CandDown.PureX := by
  intro c x gs w _ _ hgs hw
  obtain ⟨v, l⟩ := c
  obtain ⟨k, hk⟩ : ∃ k : Nat, 100 ≤ k := ⟨100, Nat.le_refl _⟩
  refine ⟨k, ?_⟩
  unfold wharfagelaw13_CandDown.f
  rw [awake_f k (by omega), Option.bind_some, if_pos rfl]
  by_cases hok : cand_Backs.ok v l x gs = true
  · have e1 : cand_Backs.f v l x gs = some (picked (rd_T70 l x).f3 gs (rd_T70 l x).f3.length, 0) := by unfold cand_Backs.f; rw [if_pos hok]
    have hlen := (good_backs v l x gs _ e1).2.2
    have ho := hok
    unfold cand_Backs.ok at ho
    simp only [Bool.and_eq_true, decide_eq_true_eq] at ho
    have h4 := allB_len ho.2.1
    have hx : rd_T70 l x ∈ l := by
      unfold rd_T70
      have hlt : x.toNat < l.length := by omega
      rw [List.getD_eq_getElem?_getD, List.getElem?_eq_getElem hlt]
      exact List.getElem_mem hlt
    have hb4 := siteOk_len (mayC_in ho.1 hx)
    obtain ⟨p, hp, hp4⟩ : ∃ p : Nat, wrap64 (Int.tmod (IntKind.u64.wrap w) 4) = (p : Int) ∧ p < 4 := by
      rw [wrap_u64_mod, tmod_nn _ _ (by omega), wrapB _ (by omega) (by omega)]
      exact ⟨(w % 18446744073709551616 % 4).toNat, by omega, by omega⟩
    have hok2 : cand_Backs.ok v l x (gs.set p ⟨false, 0⟩) = true := by
      unfold cand_Backs.ok
      simp only [Bool.and_eq_true, decide_eq_true_eq]
      exact ⟨ho.1, all_set gs p ho.2.1, ho.2.2⟩
    have e2 : cand_Backs.f v l x (gs.set p ⟨false, 0⟩) = some ((picked (rd_T70 l x).f3 gs (rd_T70 l x).f3.length).filter (fun c => c.f0 != (p : Int)), 0) := by
      unfold cand_Backs.f
      rw [if_pos hok2, picked_down _ _ _ _ (by omega)]
    rw [e1, Option.bind_some, num_f, Option.bind_some, if_pos rfl, Option.bind_some, List.nil_append, if_pos (by simp; omega), Option.bind_some, if_pos h4, hp, if_pos (by omega), if_pos (by omega), Int.toNat_natCast, e2, Option.bind_some]
    exact down_loop _ p hlen 4 k 0 (by omega) (by omega) (by omega)
  · have e1 : cand_Backs.f v l x gs = some ([], 1300) := by unfold cand_Backs.f; rw [if_neg hok]
    rw [e1, Option.bind_some, num_f, Option.bind_some, if_neg (by decide)]
    rfl

end Go.Proofs.Ytnocfhnandedoaa.Pure
