/- Just those are candidates that are up, do not drain, and have a weight. -/
import Derived.Test.YtnocfhnandedoaaPCandAllx14
import Derived.Test.YtnocfhnandedoaaNumMath
set_option linter.unusedVariables false
set_option linter.unusedSimpArgs false
namespace Go.Proofs.Ytnocfhnandedoaa.Pure
open Go.RowKit Go.Proofs.Ytnocfhnandedoaa.PCandAll Go.Proofs.YtnocfhnandedoaaW.PrintWords Go.Proofs.YtnocfhnandedoaaW.PrintLast Go.Proofs.YtnocfhnandedoaaW.PrintMore Go.Proofs.Ytnocfhnandedoaa.NumMath

theorem num_f (a : Int) : wharfagelaw0_Num.f a = some a := rfl
theorem awake_f (k : Nat) (hk : 60 ≤ k) : wharfagelaw13_awake.f k = some true := at_rounds wharfagelaw13_awake.mono (k := 60) hk (by decide +kernel)
def toB (s : S70) : S74 := ⟨s.f0, s.f1⟩
theorem rdB (l : List S70) (i : Nat) : rd_T74 (l.map toB) (i : Int) = toB (rd_T70 l (i : Int)) := by
  unfold rd_T74 rd_T70
  rw [Int.toNat_natCast]
  by_cases h : i < l.length
  · simp [List.getD, List.getElem?_map, List.getElem?_eq_getElem h]
  · simp [List.getD, List.getElem?_map, List.getElem?_eq_none (show l.length ≤ i by omega)]; rfl
theorem rdC (l : List S72) (i : Nat) (h : i < l.length) : rd_T72 l (i : Int) = l[i] := by simp [rd_T72, h]
theorem wrapB (x : Int) (h1 : -9223372036854775808 ≤ x) (h2 : x < 9223372036854775808) : wrap64 x = x := by unfold wrap64; omega
theorem picked_succ (bs : List S74) (hs : List S67) (i : Nat) : picked bs hs (i + 1) = addOne (picked bs hs i) (i : Int) (rd_T74 bs (i : Int)) (rd_T67 hs (i : Int)) := rfl
theorem sites_loop (l : List S70) (hs : List S67) (hl : l.length ≤ 3) (hh : l.length ≤ hs.length) (d : Nat) : ∀ (k i : Nat), l.length - i ≤ d → d < k → i ≤ l.length → cand_Sites.l0 k hs (picked (l.map toB) hs i) l (l.length : Int) (i : Int) = some (picked (l.map toB) hs l.length, 0) := by
  induction d with
  | zero =>
    intro k i hd hk hi
    obtain ⟨k, rfl⟩ : ∃ m, k = m + 1 := ⟨k - 1, by omega⟩
    obtain rfl : i = l.length := by omega
    simp only [cand_Sites.l0]
    rw [if_neg (by omega)]
  | succ d ih =>
    intro k i hd hk hi
    obtain ⟨k, rfl⟩ : ∃ m, k = m + 1 := ⟨k - 1, by omega⟩
    simp only [cand_Sites.l0]
    by_cases h : (i : Int) < (l.length : Int)
    · have hp := picked_len (l.map toB) hs i
      have e := add_one (picked (l.map toB) hs i) (i : Int) (rd_T74 (l.map toB) (i : Int)) (rd_T67 hs (i : Int)) (by omega)
      rw [rdB] at e
      rw [if_pos h, if_pos (show (0 : Int) ≤ (i : Int) by omega), if_pos h, if_pos (by omega), show (rd_T70 l (i : Int)).f0 = (toB (rd_T70 l (i : Int))).f0 from rfl, show (rd_T70 l (i : Int)).f1 = (toB (rd_T70 l (i : Int))).f1 from rfl, e, Option.bind_some, wrapB _ (by omega) (by omega)]
      have := ih k (i + 1) (by omega) (by omega) (by omega)
      rw [picked_succ, rdB] at this
      exact this
    · obtain rfl : i = l.length := by omega
      rw [if_neg h]
theorem may_f (v : Int) (l : List S70) : conf_May.f v l = some (mayC v l) := rfl
theorem mayC_len {v : Int} {l : List S70} (h : mayC v l = true) : l.length ≤ 3 := by
  unfold mayC at h; simp only [Bool.and_eq_true, decide_eq_true_eq] at h; exact h.2
theorem mayC_in {v : Int} {l : List S70} (h : mayC v l = true) {x : S70} (hx : x ∈ l) : siteOk x = true := by
  unfold mayC at h; simp only [Bool.and_eq_true, decide_eq_true_eq] at h
  exact List.all_eq_true.1 h.1.1 x hx
theorem siteOk_w {x : S70} (h : siteOk x = true) : 0 ≤ x.f0 ∧ x.f0 ≤ 16 := by
  unfold siteOk at h; simp only [Bool.and_eq_true, decide_eq_true_eq] at h; exact h.1.1.2
theorem siteOk_len {x : S70} (h : siteOk x = true) : x.f3.length ≤ 4 := by
  unfold siteOk at h; simp only [Bool.and_eq_true, decide_eq_true_eq] at h; exact h.2
theorem siteOk_b {x : S70} (h : siteOk x = true) {b : S74} (hb : b ∈ x.f3) : 0 ≤ b.f0 ∧ b.f0 ≤ 16 := by
  unfold siteOk at h; simp only [Bool.and_eq_true, decide_eq_true_eq] at h
  have := List.all_eq_true.1 h.1.1.1 b hb
  unfold backOk at this; simpa using this
theorem allB_len {l : List S67} {n : Int} (h : allB l n = true) : (l.length : Int) = n := by
  unfold allB at h; simp only [Bool.and_eq_true, beq_iff_eq] at h; exact h.2
theorem all_k (l : List S67) (n : Int) (hl : l.length ≤ 9223372036854775807) (k : Nat) (hk : l.length + 2 ≤ k) : health_All.f k l n = some (allB l n) := by
  have := all_loop l l n hl l.length k 0 (by omega) (by omega) (by omega)
  exact this
def sitesR (v : Int) (l : List S70) (hs : List S67) : List S72 × Int := if (mayC v l && allB hs 3) = true then (picked (l.map toB) hs l.length, 0) else ([], 1300)
theorem sites_f (v : Int) (l : List S70) (hs : List S67) (hh : hs.length ≤ 9223372036854775807) (k : Nat) (hk : hs.length + 10 ≤ k) : cand_Sites.f k v l hs = some (sitesR v l hs) := by
  obtain ⟨k, rfl⟩ : ∃ m, k = m + 1 := ⟨k - 1, by omega⟩
  unfold cand_Sites.f sitesR
  rw [may_f]
  cases hm : mayC v l
  · simp [cand_Sites.j0]
  · rw [Option.bind_some, if_pos rfl, all_k hs 3 hh (k + 1) (by omega), Option.bind_some]
    cases ha : allB hs 3
    · simp [cand_Sites.j0]
    · have hl := mayC_len hm
      have h3 := allB_len ha
      simp only [cand_Sites.j0, Bool.not_true, Bool.false_eq_true, if_false]
      have := sites_loop l hs hl (by omega) 3 k 0 (by omega) (by omega) (by omega)
      simp only [Bool.and_self, if_true]
      exact this
def Good (n : Int) (a : List S72) : Prop := ∀ i : Nat, ∀ h : i < a.length, 0 ≤ a[i].f0 ∧ a[i].f0 < n ∧ 1 ≤ a[i].f1 ∧ a[i].f1 ≤ 16 ∧ (∀ j : Nat, ∀ h2 : j < i, (a[j]'(by omega)).f0 < a[i].f0)
theorem good_nil (n : Int) : Good n [] := fun i h => absurd h (by simp)
theorem good_up {n m : Int} {a : List S72} (h : Good n a) (hm : n ≤ m) : Good m a := fun i hi => by
  obtain ⟨h0, h1, h2⟩ := h i hi
  exact ⟨h0, by omega, h2⟩
theorem good_picked (bs : List S74) (hs : List S67) (hb : ∀ b ∈ bs, 0 ≤ b.f0 ∧ b.f0 ≤ 16) (n : Nat) : n ≤ bs.length → Good (n : Int) (picked bs hs n) := by
  induction n with
  | zero => intro _; exact good_nil _
  | succ n ih =>
    intro hn
    have g := ih (by omega)
    unfold picked addOne
    split
    · rename_i hc
      have hlt : n < bs.length := by omega
      have e : rd_T74 bs (n : Int) = bs[n] := by simp [rd_T74, hlt]
      have hw := hb bs[n] (List.getElem_mem hlt)
      rw [e] at hc ⊢
      intro i hi
      rw [List.length_append] at hi
      simp only [List.length_cons, List.length_nil] at hi
      by_cases h1 : i < (picked bs hs n).length
      · rw [List.getElem_append_left h1]
        obtain ⟨a0, a1, a2, a3, a4⟩ := g i h1
        refine ⟨a0, by omega, a2, a3, fun j hj => ?_⟩
        rw [List.getElem_append_left (by omega)]
        exact a4 j hj
      · have hie : i = (picked bs hs n).length := by omega
        subst hie
        rw [List.getElem_append_right (Nat.le_refl _)]
        simp only [Nat.sub_self, List.getElem_cons_zero]
        refine ⟨by omega, by omega, by omega, hw.2, fun j hj => ?_⟩
        rw [List.getElem_append_left hj]
        exact (g j hj).2.1
    · exact good_up g (by omega)
theorem good_backs (v : Int) (l : List S70) (x : Int) (gs : List S67) (r : List S72 × Int) (h : cand_Backs.f v l x gs = some r) : Good 4 r.1 ∧ (r.2 = 0 ∨ r.1 = []) ∧ r.1.length ≤ 4 := by
  unfold cand_Backs.f at h
  have h := Option.some.inj h
  by_cases hk : cand_Backs.ok v l x gs = true
  · rw [if_pos hk] at h
    subst h
    unfold cand_Backs.ok at hk
    simp only [Bool.and_eq_true, decide_eq_true_eq] at hk
    have hx : rd_T70 l x ∈ l := by
      unfold rd_T70
      have hlt : x.toNat < l.length := by omega
      rw [List.getD_eq_getElem?_getD, List.getElem?_eq_getElem hlt]
      exact List.getElem_mem hlt
    have ho := mayC_in hk.1 hx
    have h4 := siteOk_len ho
    have := picked_len (rd_T70 l x).f3 gs (rd_T70 l x).f3.length
    exact ⟨good_up (good_picked _ gs (fun b hb => siteOk_b ho hb) _ (Nat.le_refl _)) (by omega), .inl rfl, by show (picked (rd_T70 l x).f3 gs (rd_T70 l x).f3.length).length ≤ 4; omega⟩
  · rw [if_neg hk] at h
    subst h
    exact ⟨good_nil _, .inr rfl, by simp⟩
theorem good_sites (v : Int) (l : List S70) (hs : List S67) : Good 3 (sitesR v l hs).1 ∧ ((sitesR v l hs).2 = 0 ∨ (sitesR v l hs).1 = []) ∧ (sitesR v l hs).1.length ≤ 3 := by
  unfold sitesR
  by_cases hk : (mayC v l && allB hs 3) = true
  · rw [if_pos hk]
    simp only [Bool.and_eq_true] at hk
    have hl := mayC_len hk.1
    have := picked_len (l.map toB) hs l.length
    refine ⟨good_up (good_picked _ hs (fun b hb => ?_) _ (by simp)) (by omega), .inl rfl, by show (picked (l.map toB) hs l.length).length ≤ 3; omega⟩
    obtain ⟨s, hs2, rfl⟩ := List.mem_map.1 hb
    exact siteOk_w (mayC_in hk.1 hs2)
  · rw [if_neg hk]
    exact ⟨good_nil _, .inr rfl, by simp⟩

theorem nat_and2 (n : Nat) : n &&& 2 = if n % 4 = 2 ∨ n % 4 = 3 then 2 else 0 := by
  have h1 : n &&& 2 ≤ 2 := Nat.and_le_right
  have h2 : (n &&& 2) % 2 ^ 2 = (n % 2 ^ 2) &&& (2 % 2 ^ 2) := Nat.and_mod_two_pow
  have h3 : n % 4 < 4 := Nat.mod_lt _ (by decide)
  rw [show (2 : Nat) ^ 2 = 4 from rfl, Nat.mod_eq_of_lt (by omega), show 2 % 4 = 2 from rfl] at h2
  rw [h2]
  generalize n % 4 = m at h3
  match m, h3 with
  | 0, _ => rfl
  | 1, _ => rfl
  | 2, _ => rfl
  | 3, _ => rfl
theorem and2 (x : Int) : bits .and .i64 x 2 = if x % 4 = 2 ∨ x % 4 = 3 then 2 else 0 := by
  show IntKind.i64.wrap (((BitVec.ofInt 64 x &&& BitVec.ofInt 64 (2 : Int)).toNat : Nat) : Int) = _
  have hb : (BitVec.ofInt 64 (2 : Int)).toNat = 2 := by decide
  have hn := ofInt_toNat x
  rw [BitVec.toNat_and, hb, nat_and2]
  generalize (BitVec.ofInt 64 x).toNat = n at hn
  by_cases h : n % 4 = 2 ∨ n % 4 = 3
  · rw [if_pos h, if_pos (by omega), wrap_i64_in _ (by decide) (by decide)]; rfl
  · rw [if_neg h, if_neg (by omega), wrap_i64_in _ (by decide) (by decide)]; rfl
def wt (r : Int) : Int := Go.bits .and .i64 (r / 4) 15
def dr (r : Int) : Bool := (Go.bits .and .i64 r 2) == 2
def hB (r : Int) : Bool := (Go.bits .and .i64 r 1) == 1
def R (xs : List Int) (i : Nat) : Int := if (i : Int) < (xs.length : Int) then rd xs (i : Int) else 0
def W (i : Int) (r : Int) : List S72 := if (Go.bits .and .i64 r 3) = 1 then (if wt r > 0 then [⟨i, wt r⟩] else []) else []
theorem W_len (i r : Int) : (W i r).length ≤ 1 := by
  unfold W
  split
  · split <;> simp
  · simp
theorem wt_rng (r : Int) : 0 ≤ wt r ∧ wt r ≤ 15 := by
  unfold wt
  rw [and15]
  omega
theorem add_W (o : List S72) (i r : Int) : addOne o i ⟨wt r, dr r⟩ ⟨hB r, 0⟩ = o ++ W i r := by
  unfold addOne W
  have e : (hB r = true ∧ dr r = false) ↔ (Go.bits .and .i64 r 3) = 1 := by
    unfold hB dr
    rw [and1, and2, and3]
    simp only [beq_iff_eq, beq_eq_false_iff_ne]
    by_cases h : r % 4 = 2 ∨ r % 4 = 3
    · rw [if_pos h]
      constructor
      · rintro ⟨_, h2⟩; exact absurd rfl h2
      · intro h1; omega
    · rw [if_neg h]
      constructor
      · rintro ⟨h1, _⟩; omega
      · intro h1; exact ⟨by omega, by decide⟩
  by_cases c : (Go.bits .and .i64 r 3) = 1
  · rw [if_pos c]
    by_cases d : wt r > 0
    · rw [if_pos ⟨(e.2 c).1, (e.2 c).2, d⟩, if_pos d]
    · rw [if_neg (fun q => d q.2.2), if_neg d, List.append_nil]
  · rw [if_neg c, if_neg (fun q => c (e.1 ⟨q.1, q.2.1⟩)), List.append_nil]
theorem same_loop (a : List S72) (hl : a.length ≤ 4) (d : Nat) : ∀ (k i : Nat), a.length - i ≤ d → d < k → wharfagelaw0_SameCandidates.l0 k a a (i : Int) = some true := by
  induction d with
  | zero =>
    intro k i hd hk
    obtain ⟨k, rfl⟩ : ∃ m, k = m + 1 := ⟨k - 1, by omega⟩
    simp only [wharfagelaw0_SameCandidates.l0]
    rw [if_neg (by omega)]
  | succ d ih =>
    intro k i hd hk
    obtain ⟨k, rfl⟩ : ∃ m, k = m + 1 := ⟨k - 1, by omega⟩
    simp only [wharfagelaw0_SameCandidates.l0]
    by_cases h : (i : Int) < (a.length : Int)
    · rw [if_pos h, if_pos (show (0 : Int) ≤ (i : Int) by omega), if_pos h, wrapB _ (by omega) (by omega)]
      simp only [beq_self_eq_true, Bool.not_true, Bool.or_self, Bool.false_eq_true, if_false]
      exact ih k (i + 1) (by omega) (by omega)
    · rw [if_neg h]
theorem same_f (a : List S72) (hl : a.length ≤ 4) (k : Nat) (hk : 5 < k) : wharfagelaw0_SameCandidates.f k a a = some true := by
  unfold wharfagelaw0_SameCandidates.f
  rw [if_pos rfl]
  exact same_loop a hl 4 k 0 (by omega) (by omega)
abbrev Si := S70
abbrev Ba := S74
abbrev He := S67
abbrev Ca := S72
theorem stepA (xs : List Int) (x3 x4 : List He) (x6 x7 : List Ca) (s : List Si) (i k : Nat) (hi : i < 3) (h3 : x3.length ≤ 10) (h4 : x4.length ≤ 10) (h6 : x6.length ≤ 10) (h7 : x7.length ≤ 10) (hs : s.length ≤ 10) :
    wharfagelaw13_CandAll.l0 (k + 3) xs x3 x4 x6 x7 (i : Int) 0 s = wharfagelaw13_CandAll.l0 k xs (x3 ++ [⟨hB (R xs i), 0⟩]) (x4 ++ [⟨hB (R xs i), 0⟩]) (x6 ++ W i (R xs i)) (x7 ++ W i (R xs i)) ((i + 1 : Nat) : Int) 0 (s ++ [⟨wt (R xs i), dr (R xs i), 0, []⟩]) := by
  have hj : ∀ r, wharfagelaw13_CandAll.j1 (k + 2) xs x3 x4 x6 x7 (i : Int) r 0 s = wharfagelaw13_CandAll.l0 k xs (x3 ++ [⟨hB r, 0⟩]) (x4 ++ [⟨hB r, 0⟩]) (x6 ++ W i r) (x7 ++ W i r) ((i + 1 : Nat) : Int) 0 (s ++ [⟨wt r, dr r, 0, []⟩]) := by
    intro r
    have hw : wrap64 ((i : Int) + 1) = ((i + 1 : Nat) : Int) := by unfold wrap64; omega
    simp only [wharfagelaw13_CandAll.j1]
    rw [if_pos (by omega), Option.bind_some, if_pos (by omega), if_pos (by omega), Option.bind_some, if_pos (by omega), Option.bind_some]
    unfold W
    by_cases c : (Go.bits .and .i64 r 3) = 1
    · simp only [if_pos c]
      simp only [wharfagelaw13_CandAll.j2]
      by_cases d : wt r > 0
      · have d' : Go.bits .and .i64 (r / 4) 15 > 0 := d
        rw [decide_eq_true d', if_pos rfl, if_pos (by omega), Option.bind_some, if_pos c, if_pos d', if_pos (by omega), hw, if_pos d]
        rfl
      · have d' : ¬ Go.bits .and .i64 (r / 4) 15 > 0 := d
        rw [decide_eq_false d', if_neg (by decide), if_pos c, if_neg d', hw, if_neg d, List.append_nil, List.append_nil]
        rfl
    · simp only [if_neg c]
      simp only [wharfagelaw13_CandAll.j2]
      rw [if_neg (by decide), if_neg c, hw, List.append_nil, List.append_nil]
      rfl
  simp only [wharfagelaw13_CandAll.l0]
  rw [if_pos (by omega)]
  unfold R
  by_cases h : (i : Int) < (xs.length : Int)
  · simp only [if_pos h]
    rw [if_pos (by omega)]
    exact hj _
  · simp only [if_neg h]
    exact hj _
theorem stepB (xs : List Int) (x3 x4 : List He) (x6 x7 : List Ca) (s : List Si) (k : Nat) (h4 : x4.length ≤ 10) (h7 : x7.length ≤ 10) :
    wharfagelaw13_CandAll.l0 (k + 2) xs x3 x4 x6 x7 ((3 : Nat) : Int) 0 s = wharfagelaw13_CandAll.l0 k xs x3 (x4 ++ [⟨hB (R xs 3), 0⟩]) x6 (x7 ++ W 3 (R xs 3)) 4 0 s := by
  have hj : ∀ r, wharfagelaw13_CandAll.j1 (k + 1) xs x3 x4 x6 x7 ((3 : Nat) : Int) r 0 s = wharfagelaw13_CandAll.l0 k xs x3 (x4 ++ [⟨hB r, 0⟩]) x6 (x7 ++ W 3 r) 4 0 s := by
    intro r
    have hw : wrap64 (((3 : Nat) : Int) + 1) = 4 := by unfold wrap64; omega
    simp only [wharfagelaw13_CandAll.j1]
    rw [if_pos (by omega), Option.bind_some, if_neg (by decide), hw]
    unfold W
    by_cases c : (Go.bits .and .i64 r 3) = 1
    · simp only [if_pos c]
      by_cases d : wt r > 0
      · have d' : Go.bits .and .i64 (r / 4) 15 > 0 := d
        rw [if_pos d', if_pos (by omega), if_pos d]
        rfl
      · have d' : ¬ Go.bits .and .i64 (r / 4) 15 > 0 := d
        rw [if_neg d', if_neg d, List.append_nil]
        rfl
    · simp only [if_neg c]
      rw [List.append_nil]
      rfl
  simp only [wharfagelaw13_CandAll.l0]
  rw [if_pos (by decide)]
  unfold R
  by_cases h : ((3 : Nat) : Int) < (xs.length : Int)
  · simp only [if_pos h]
    rw [if_pos (by omega)]
    exact hj _
  · simp only [if_neg h]
    exact hj _
theorem stepC (xs : List Int) (x3 x4 : List He) (x6 x7 : List Ca) (a b c : Si) (i k : Nat) (hi : i < 4) (hb : b.f3.length ≤ 10) :
    wharfagelaw13_CandAll.l1 (k + 1) xs x3 x4 x6 x7 (i : Int) 0 [a, b, c] = wharfagelaw13_CandAll.l1 k xs x3 x4 x6 x7 ((i + 1 : Nat) : Int) 0 [a, ⟨b.f0, b.f1, b.f2, b.f3 ++ [⟨wt (R xs i), dr (R xs i)⟩]⟩, c] := by
  have hw : wrap64 ((i : Int) + 1) = ((i + 1 : Nat) : Int) := by unfold wrap64; omega
  have e1 : rd_T70 [a, b, c] 1 = b := rfl
  simp only [wharfagelaw13_CandAll.l1]
  rw [if_pos (by omega), e1, hw]
  unfold R
  by_cases h : (i : Int) < (xs.length : Int)
  · simp only [if_pos h]
    rw [if_pos (by omega), if_pos (by simp), if_pos (by omega)]
    rfl
  · simp only [if_neg h]
    have w0 : wt 0 = 0 := by unfold wt; rw [and15]; rfl
    have d0 : dr 0 = false := by unfold dr; rw [and2]; rfl
    rw [if_pos (by simp), if_pos (by omega), w0, d0]
    rfl
theorem all_end (xs : List Int) (k : Nat) (hk : 60 ≤ k) : wharfagelaw13_CandAll.l0 k xs [] [] [] [] 0 0 [] = some true := by
  obtain ⟨k, rfl⟩ : ∃ m, k = m + 17 := ⟨k - 17, by omega⟩
  have l0 := W_len 0 (R xs 0)
  have l1 := W_len 1 (R xs 1)
  have l2 := W_len 2 (R xs 2)
  have l3 := W_len 3 (R xs 3)
  have a0 := stepA xs [] [] [] [] [] 0 (k + 14) (by decide) (by simp) (by simp) (by simp) (by simp) (by simp)
  simp only [List.nil_append] at a0
  have a1 := stepA xs [⟨hB (R xs 0), 0⟩] [⟨hB (R xs 0), 0⟩] (W 0 (R xs 0)) (W 0 (R xs 0)) [⟨wt (R xs 0), dr (R xs 0), 0, []⟩] 1 (k + 11) (by decide) (by simp) (by simp) (by omega) (by omega) (by simp)
  have a2 := stepA xs [⟨hB (R xs 0), 0⟩, ⟨hB (R xs 1), 0⟩] [⟨hB (R xs 0), 0⟩, ⟨hB (R xs 1), 0⟩] (W 0 (R xs 0) ++ W 1 (R xs 1)) (W 0 (R xs 0) ++ W 1 (R xs 1)) [⟨wt (R xs 0), dr (R xs 0), 0, []⟩, ⟨wt (R xs 1), dr (R xs 1), 0, []⟩] 2 (k + 8) (by decide) (by simp) (by simp) (by rw [List.length_append]; omega) (by rw [List.length_append]; omega) (by simp)
  have a3 := stepB xs [⟨hB (R xs 0), 0⟩, ⟨hB (R xs 1), 0⟩, ⟨hB (R xs 2), 0⟩] [⟨hB (R xs 0), 0⟩, ⟨hB (R xs 1), 0⟩, ⟨hB (R xs 2), 0⟩] (W 0 (R xs 0) ++ W 1 (R xs 1) ++ W 2 (R xs 2)) (W 0 (R xs 0) ++ W 1 (R xs 1) ++ W 2 (R xs 2)) [⟨wt (R xs 0), dr (R xs 0), 0, []⟩, ⟨wt (R xs 1), dr (R xs 1), 0, []⟩, ⟨wt (R xs 2), dr (R xs 2), 0, []⟩] (k + 6) (by simp) (by rw [List.length_append, List.length_append]; omega)
  refine a0.trans (a1.trans (a2.trans (a3.trans ?_)))
  simp only [wharfagelaw13_CandAll.l0]
  rw [if_neg (by decide)]
  have c0 := fun G P Q => stepC xs G P (W 0 (R xs 0) ++ W 1 (R xs 1) ++ W 2 (R xs 2)) Q ⟨wt (R xs 0), dr (R xs 0), 0, []⟩ ⟨wt (R xs 1), dr (R xs 1), 0, []⟩ ⟨wt (R xs 2), dr (R xs 2), 0, []⟩ 0 (k + 4) (by decide) (by simp)
  have c1 := fun G P Q => stepC xs G P (W 0 (R xs 0) ++ W 1 (R xs 1) ++ W 2 (R xs 2)) Q ⟨wt (R xs 0), dr (R xs 0), 0, []⟩ ⟨wt (R xs 1), dr (R xs 1), 0, [⟨wt (R xs 0), dr (R xs 0)⟩]⟩ ⟨wt (R xs 2), dr (R xs 2), 0, []⟩ 1 (k + 3) (by decide) (by simp)
  have c2 := fun G P Q => stepC xs G P (W 0 (R xs 0) ++ W 1 (R xs 1) ++ W 2 (R xs 2)) Q ⟨wt (R xs 0), dr (R xs 0), 0, []⟩ ⟨wt (R xs 1), dr (R xs 1), 0, [⟨wt (R xs 0), dr (R xs 0)⟩, ⟨wt (R xs 1), dr (R xs 1)⟩]⟩ ⟨wt (R xs 2), dr (R xs 2), 0, []⟩ 2 (k + 2) (by decide) (by simp)
  have c3 := fun G P Q => stepC xs G P (W 0 (R xs 0) ++ W 1 (R xs 1) ++ W 2 (R xs 2)) Q ⟨wt (R xs 0), dr (R xs 0), 0, []⟩ ⟨wt (R xs 1), dr (R xs 1), 0, [⟨wt (R xs 0), dr (R xs 0)⟩, ⟨wt (R xs 1), dr (R xs 1)⟩, ⟨wt (R xs 2), dr (R xs 2)⟩]⟩ ⟨wt (R xs 2), dr (R xs 2), 0, []⟩ 3 (k + 1) (by decide) (by simp)
  refine (c0 _ _ _).trans ((c1 _ _ _).trans ((c2 _ _ _).trans ((c3 _ _ _).trans ?_)))
  simp only [wharfagelaw13_CandAll.l1]
  rw [if_neg (by decide)]
  have w0 := wt_rng (R xs 0)
  have w1 := wt_rng (R xs 1)
  have w2 := wt_rng (R xs 2)
  have w3 := wt_rng (R xs 3)
  obtain ⟨bs, hbs⟩ : ∃ bs : List Ba, bs = [⟨wt (R xs 0), dr (R xs 0)⟩, ⟨wt (R xs 1), dr (R xs 1)⟩, ⟨wt (R xs 2), dr (R xs 2)⟩, ⟨wt (R xs 3), dr (R xs 3)⟩] := ⟨_, rfl⟩
  have hok : mayC 0 ([⟨wt (R xs 0), dr (R xs 0), 0, []⟩, ⟨wt (R xs 1), dr (R xs 1), 0, bs⟩, ⟨wt (R xs 2), dr (R xs 2), 0, []⟩] : List Si) = true := by
    rw [hbs]
    simp [mayC, siteOk, backOk]
    omega
  have hh3 : allB ([⟨hB (R xs 0), 0⟩, ⟨hB (R xs 1), 0⟩, ⟨hB (R xs 2), 0⟩] : List He) 3 = true := rfl
  have hh4 : allB ([⟨hB (R xs 0), 0⟩, ⟨hB (R xs 1), 0⟩, ⟨hB (R xs 2), 0⟩, ⟨hB (R xs 3), 0⟩] : List He) 4 = true := rfl
  have es := sites_f 0 ([⟨wt (R xs 0), dr (R xs 0), 0, []⟩, ⟨wt (R xs 1), dr (R xs 1), 0, bs⟩, ⟨wt (R xs 2), dr (R xs 2), 0, []⟩] : List Si) ([⟨hB (R xs 0), 0⟩, ⟨hB (R xs 1), 0⟩, ⟨hB (R xs 2), 0⟩] : List He) (by simp) k (by simp; omega)
  have ep : picked (([⟨wt (R xs 0), dr (R xs 0), 0, []⟩, ⟨wt (R xs 1), dr (R xs 1), 0, bs⟩, ⟨wt (R xs 2), dr (R xs 2), 0, []⟩] : List Si).map toB) ([⟨hB (R xs 0), 0⟩, ⟨hB (R xs 1), 0⟩, ⟨hB (R xs 2), 0⟩] : List He) 3 = W 0 (R xs 0) ++ W 1 (R xs 1) ++ W 2 (R xs 2) := by
    rw [← List.nil_append (W 0 (R xs 0)), ← add_W [] 0 (R xs 0), ← add_W _ 1 (R xs 1), ← add_W _ 2 (R xs 2)]
    rfl
  have eq : picked bs ([⟨hB (R xs 0), 0⟩, ⟨hB (R xs 1), 0⟩, ⟨hB (R xs 2), 0⟩, ⟨hB (R xs 3), 0⟩] : List He) 4 = W 0 (R xs 0) ++ W 1 (R xs 1) ++ W 2 (R xs 2) ++ W 3 (R xs 3) := by
    rw [← List.nil_append (W 0 (R xs 0)), ← add_W [] 0 (R xs 0), ← add_W _ 1 (R xs 1), ← add_W _ 2 (R xs 2), ← add_W _ 3 (R xs 3), hbs]
    rfl
  unfold sitesR at es
  rw [hok, hh3, if_pos (show (true && true) = true from rfl), show ([⟨wt (R xs 0), dr (R xs 0), 0, []⟩, ⟨wt (R xs 1), dr (R xs 1), 0, bs⟩, ⟨wt (R xs 2), dr (R xs 2), 0, []⟩] : List Si).length = 3 from rfl, ep] at es
  have eb : cand_Backs.f 0 ([⟨wt (R xs 0), dr (R xs 0), 0, []⟩, ⟨wt (R xs 1), dr (R xs 1), 0, bs⟩, ⟨wt (R xs 2), dr (R xs 2), 0, []⟩] : List Si) 1 ([⟨hB (R xs 0), 0⟩, ⟨hB (R xs 1), 0⟩, ⟨hB (R xs 2), 0⟩, ⟨hB (R xs 3), 0⟩] : List He) = some (W 0 (R xs 0) ++ W 1 (R xs 1) ++ W 2 (R xs 2) ++ W 3 (R xs 3), 0) := by
    unfold cand_Backs.f cand_Backs.ok
    rw [hok, hh4, show rd_T70 ([⟨wt (R xs 0), dr (R xs 0), 0, []⟩, ⟨wt (R xs 1), dr (R xs 1), 0, bs⟩, ⟨wt (R xs 2), dr (R xs 2), 0, []⟩] : List Si) 1 = ⟨wt (R xs 1), dr (R xs 1), 0, bs⟩ from rfl]
    simp only []
    rw [if_pos (by simp), show bs.length = 4 by rw [hbs]; rfl, eq]
  have s3 := same_f (W 0 (R xs 0) ++ W 1 (R xs 1) ++ W 2 (R xs 2)) (by rw [List.length_append, List.length_append]; omega) k (by omega)
  have s4 := same_f (W 0 (R xs 0) ++ W 1 (R xs 1) ++ W 2 (R xs 2) ++ W 3 (R xs 3)) (by rw [List.length_append, List.length_append, List.length_append]; omega) k (by omega)
  rw [hbs] at es eb
  have es' := es
  have eb' := eb
  simp only [List.cons_append, List.nil_append]
  rw [es, Option.bind_some, eb, Option.bind_some]
  simp only [num_f, Option.bind_some, s3, s4, if_true]
theorem CandAll : wharfagelaw13_CandAll.Pure := by
  intro xs _ _ _
  obtain ⟨k, hk⟩ : ∃ k : Nat, 100 ≤ k := ⟨100, Nat.le_refl _⟩
  refine ⟨k, ?_⟩
  unfold wharfagelaw13_CandAll.f
  rw [awake_f k (by omega), Option.bind_some, if_pos rfl]
  exact all_end xs k (by omega)

end Go.Proofs.Ytnocfhnandedoaa.Pure
