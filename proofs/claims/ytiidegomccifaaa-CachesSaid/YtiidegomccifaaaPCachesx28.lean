/- Contracts: what calls of these functions of the program do, each as a plain function; written by a program of this session. -/
import Derived.Test.YtiidegomccifaaaPCachesx0
import Derived.Test.YtiidegomccifaaaPCachesx3
import Derived.Test.YtiidegomccifaaaPCachesx6
import Derived.Test.YtiidegomccifaaaPCachesx7
import Derived.Test.YtiidegomccifaaaPCachesx9
import Derived.Test.YtiidegomccifaaaPCachesx10
import Derived.Test.YtiidegomccifaaaPCachesx13
import Derived.Test.YtiidegomccifaaaPCachesx15
import Derived.Test.YtiidegomccifaaaPCachesx17
import Derived.Test.YtiidegomccifaaaPCachesx18
import Derived.Test.YtiidegomccifaaaPCachesx19
import Derived.Test.YtiidegomccifaaaPCachesx20
import Derived.Test.YtiidegomccifaaaPCachesx21
import Derived.Test.YtiidegomccifaaaPCachesx22
import Derived.Test.YtiidegomccifaaaPCachesx23
import Derived.Test.YtiidegomccifaaaPCachesx24
import Derived.Test.YtiidegomccifaaaPCachesx26
import Derived.Test.YtiidegomccifaaaPCachesx27
namespace Go.Proofs.Ytiidegomccifaaa.PCaches
open Go.RowKit Go.Proofs.YtiidegomccifaaaW.PrintWords Go.Proofs.YtiidegomccifaaaW.PrintLast Go.Proofs.YtiidegomccifaaaW.PrintMore
attribute [local go_sem] max2_int min2_int max_two min_two max_three min_three max_four min_four   -- for this text's walks alone
set_option linter.unusedVariables false
set_option linter.unusedSimpArgs false

/-! ### wharfagelaw16_Caches: function 3, by hand -/
namespace CcLaw
theorem put_is (l : List En) (p : En) (k : Nat) (hl : l.length < k) (hl2 : l.length ≤ 9223372036854775807) (r1 : List En) (q : En) (r11 : Bool) (r12 : Int) (h : wharfageref10_PutEntry.g l p = (r1, q, r11, r12)) :
    cache_Put.f k l p.f0.f0 p.f0.f1 p.f0.f2 p.f0.f3 p.f0.f4 p.f1 p.f2 p.f3 p.f4 = some (r1, q.f0.f0, q.f0.f1, q.f0.f2, q.f0.f3, q.f0.f4, q.f1, q.f2, q.f3, q.f4, r11, r12) := by
  unfold cache_Put.f
  rw [mayE_f l k hl hl2, em_f p, Option.bind_some]
  unfold wharfageref10_PutEntry.g at h
  by_cases hb : Good l ∧ emB p = true
  · rw [if_pos hb] at h
    rw [decide_eq_true hb.1, if_pos rfl, hb.2, Option.bind_some, if_pos rfl]
    show putRes (out l p) = _
    unfold putRes
    by_cases h8 : 8 < (out l p).length
    · rw [if_pos h8] at h ⊢
      obtain ⟨rfl, rfl, rfl, rfl⟩ : (out l p).drop 1 = r1 ∧ rd_T26 (out l p) 0 = q ∧ true = r11 ∧ 0 = r12 := by simpa only [Prod.mk.injEq] using h
      rfl
    · rw [if_neg h8] at h ⊢
      obtain ⟨rfl, rfl, rfl, rfl⟩ : out l p = r1 ∧ (⟨⟨0, 0, 0, 0, 0⟩, 0, false, 0, 0⟩ : En) = q ∧ false = r11 ∧ 0 = r12 := by simpa only [Prod.mk.injEq] using h
      rfl
  · rw [if_neg hb] at h
    obtain ⟨rfl, rfl, rfl, rfl⟩ : [] = r1 ∧ (⟨⟨0, 0, 0, 0, 0⟩, 0, false, 0, 0⟩ : En) = q ∧ false = r11 ∧ 1600 = r12 := by simpa only [Prod.mk.injEq] using h
    by_cases hg : Good l
    · have hp : emB p = false := Bool.eq_false_iff.2 (fun hp => hb ⟨hg, hp⟩)
      rw [decide_eq_true hg, if_pos rfl, hp, Option.bind_some, if_neg (by simp)]
    · rw [decide_eq_false hg, if_neg (by simp)]
theorem put_len (l : List En) (p : En) (r1 : List En) (q : En) (r11 : Bool) (r12 : Int) (h : wharfageref10_PutEntry.g l p = (r1, q, r11, r12)) : r1.length ≤ l.length + 1 := by
  unfold wharfageref10_PutEntry.g at h
  have ho : (out l p).length ≤ l.length + 1 := by
    simp only [out, List.length_append, List.length_singleton, Nat.add_le_add_iff_right]
    exact List.length_filter_le _ _
  by_cases hb : Good l ∧ emB p = true
  · rw [if_pos hb] at h
    by_cases h8 : 8 < (out l p).length
    · rw [if_pos h8] at h
      obtain ⟨rfl, _⟩ : (out l p).drop 1 = r1 ∧ _ := by simpa only [Prod.mk.injEq] using h
      rw [List.length_drop]; omega
    · rw [if_neg h8] at h
      obtain ⟨rfl, _⟩ : out l p = r1 ∧ _ := by simpa only [Prod.mk.injEq] using h
      exact ho
  · rw [if_neg hb] at h
    obtain ⟨rfl, _⟩ : [] = r1 ∧ _ := by simpa only [Prod.mk.injEq] using h
    simp
theorem drop_bad (l : List En) (f : Fl) (k : Nat) (hl : l.length < k) (hl2 : l.length ≤ 9223372036854775807) (h : ¬ Good l) : cache_Drop.f k l f.f0 f.f1 f.f2 f.f3 f.f4 = some ([], 1600) := by
  unfold cache_Drop.f
  rw [mayE_f l k hl hl2, Option.bind_some, decide_eq_false h, if_neg (by simp)]
theorem drop_good (l : List En) (f : Fl) (k : Nat) (hl : l.length < k) (hl2 : l.length ≤ 9223372036854775807) (h : Good l) : cache_Drop.f k l f.f0 f.f1 f.f2 f.f3 f.f4 = some (rest l f, 0) := by
  unfold cache_Drop.f
  rw [mayE_f l k hl hl2, Option.bind_some, decide_eq_true h, if_pos rfl]
  rfl
theorem find_none (l : List En) (f : Fl) (k : Nat) (t : Int) (h : ∀ x ∈ l, x.f0 ≠ f) : cache_Find.f k l f.f0 f.f1 f.f2 f.f3 f.f4 t = some (0, 0, 0, 0, 0, 0, false, 0, 0, false) := by
  unfold cache_Find.f cache_at.f
  rw [Option.bind_some, idx_none f l 0 h, if_pos (by decide)]
theorem ddrop (l : List En) (f : Fl) (k : Nat) (hk : l.length * (l.length + 2) + 1 ≤ k) (hl : l.length < 1954687338268) : wharfageref10_DropEntry.f k l f.f0 f.f1 f.f2 f.f3 f.f4 = cache_Drop.f (l.length + 1) l f.f0 f.f1 f.f2 f.f3 f.f4 := by
  have hk2 : l.length < k := by have : l.length * 1 ≤ l.length * (l.length + 2) := Nat.mul_le_mul_left _ (by omega); omega
  unfold wharfageref10_DropEntry.f
  rw [cr_f l (by omega) k hk, Option.bind_some]
  by_cases hg : Good l
  · rw [decide_eq_true hg, if_pos rfl, wo_f l f hl k hk2, Option.bind_some, drop_good l f _ (by omega) (by omega) hg]
  · rw [decide_eq_false hg, if_neg (by simp), drop_bad l f _ (by omega) (by omega) hg]
theorem drop_is (l : List En) (f : Fl) (hl : l.length < 1954687338268) : ∃ r e, cache_Drop.f (l.length + 1) l f.f0 f.f1 f.f2 f.f3 f.f4 = some (r, e) ∧ r.length ≤ l.length := by
  by_cases hg : Good l
  · exact ⟨_, _, drop_good l f _ (by omega) (by omega) hg, List.length_filter_le _ _⟩
  · exact ⟨_, _, drop_bad l f _ (by omega) (by omega) hg, by simp⟩
theorem rr_f (x : En) (now : Int) (hw : -9223372036854775808 ≤ now ∧ now ≤ 9223372036854775807) : wharfageref10_Ran.f x.f0.f0 x.f0.f1 x.f0.f2 x.f0.f3 x.f0.f4 x.f1 x.f2 x.f3 x.f4 now = some (ranB x now) := (refRan _ _ _ _ _ _ _ _ _ _ hw).trans (ranB_f x now)
theorem fe_none (l : List En) (f : Fl) (now : Int) (hl : l.length ≤ 9223372036854775806) (hg : Good l) (d : Nat) : ∀ (k i : Nat), l.length - i ≤ d → l.length * (l.length + 2) + 1 + 2 * d + 2 ≤ k → i ≤ l.length → (∀ m (hm : m < l.length), i ≤ m → (l[m]).f0 ≠ f) →
    wharfageref10_FindEntry.l0 k l now (i : Int) f.f0 f.f1 f.f2 f.f3 f.f4 = some (0, 0, 0, 0, 0, 0, false, 0, 0, false) := by
  induction d with
  | zero =>
    intro k i hd hk hi hn
    obtain ⟨k, rfl⟩ : ∃ m, k = m + 2 := ⟨k - 2, by omega⟩
    simp only [wharfageref10_FindEntry.l0]
    rw [if_neg (by omega)]
    simp only [wharfageref10_FindEntry.j1]
    rw [if_neg (by simp)]
  | succ d ih =>
    intro k i hd hk hi hn
    obtain ⟨k, rfl⟩ : ∃ m, k = m + 2 := ⟨k - 2, by omega⟩
    simp only [wharfageref10_FindEntry.l0]
    by_cases h : i < l.length
    · rw [if_pos (by omega), cr_f l hl _ (by omega), Option.bind_some, decide_eq_true hg]
      simp only [wharfageref10_FindEntry.j1]
      rw [if_pos trivial, if_pos (by omega), if_pos (by omega), rdE l i h, beq_lit, if_neg (fun hb => hn i h (Nat.le_refl _) ((beqF_iff _ _).1 hb)), show wrap64 ((i : Int) + 1) = ((i + 1 : Nat) : Int) by unfold wrap64; omega]
      exact ih k (i + 1) (by omega) (by omega) (by omega) (fun m hm hi2 => hn m hm (by omega))
    · rw [if_neg (by omega)]
      simp only [wharfageref10_FindEntry.j1]
      rw [if_neg (by simp)]
theorem fe_hit (l : List En) (f : Fl) (now : Int) (hw : -9223372036854775808 ≤ now ∧ now ≤ 9223372036854775807) (hl : l.length ≤ 9223372036854775806) (hg : Good l) (j : Nat) (hj : j < l.length) (hf : (l[j]).f0 = f) (d : Nat) : ∀ (k i : Nat), j - i ≤ d → l.length * (l.length + 2) + 1 + 2 * l.length + 2 * d + 4 ≤ k → i ≤ j →
    wharfageref10_FindEntry.l0 k l now (i : Int) f.f0 f.f1 f.f2 f.f3 f.f4 = some (if ranB l[j] now = true then (0, 0, 0, 0, 0, 0, false, 0, 0, false) else (l[j].f0.f0, l[j].f0.f1, l[j].f0.f2, l[j].f0.f3, l[j].f0.f4, l[j].f1, l[j].f2, l[j].f3, l[j].f4, true)) := by
  induction d with
  | zero =>
    intro k i hd hk hi
    obtain rfl : i = j := by omega
    obtain ⟨k, rfl⟩ : ∃ m, k = m + 2 := ⟨k - 2, by omega⟩
    simp only [wharfageref10_FindEntry.l0]
    rw [if_pos (by omega), cr_f l hl _ (by omega), Option.bind_some, decide_eq_true hg]
    simp only [wharfageref10_FindEntry.j1]
    rw [if_pos trivial, if_pos (by omega), if_pos (by omega), rdE l i hj, beq_lit, if_pos ((beqF_iff _ _).2 hf), rr_f _ _ hw, Option.bind_some]
    cases hr : ranB l[i] now
    · rw [if_neg (by simp), if_neg (by simp)]
    · rw [if_pos rfl, if_pos rfl, show wrap64 ((i : Int) + 1) = ((i + 1 : Nat) : Int) by unfold wrap64; omega]
      exact fe_none l f now hl hg l.length k (i + 1) (by omega) (by omega) (by omega) (fun m hm hi2 e => List.pairwise_iff_getElem.1 hg.2.1 i m hj hm (by omega) (hf.trans e.symm))
  | succ d ih =>
    intro k i hd hk hi
    by_cases hij : i = j
    · subst hij
      exact ih k i (by omega) (by omega) (by omega)
    obtain ⟨k, rfl⟩ : ∃ m, k = m + 2 := ⟨k - 2, by omega⟩
    simp only [wharfageref10_FindEntry.l0]
    rw [if_pos (by omega), cr_f l hl _ (by omega), Option.bind_some, decide_eq_true hg]
    simp only [wharfageref10_FindEntry.j1]
    rw [if_pos trivial, if_pos (by omega), if_pos (by omega), rdE l i (by omega), beq_lit, if_neg (fun hb => List.pairwise_iff_getElem.1 hg.2.1 i j (by omega) hj (by omega) (((beqF_iff _ _).1 hb).trans hf.symm)), show wrap64 ((i : Int) + 1) = ((i + 1 : Nat) : Int) by unfold wrap64; omega]
    exact ih k (i + 1) (by omega) (by omega) (by omega)
theorem fe_bad (l : List En) (f : Fl) (now : Int) (hl : l.length ≤ 9223372036854775806) (hg : ¬ Good l) (k : Nat) (hk : l.length * (l.length + 2) + 1 + 2 ≤ k) : wharfageref10_FindEntry.f k l f.f0 f.f1 f.f2 f.f3 f.f4 now = some (0, 0, 0, 0, 0, 0, false, 0, 0, false) := by
  unfold wharfageref10_FindEntry.f
  obtain ⟨k, rfl⟩ : ∃ m, k = m + 2 := ⟨k - 2, by omega⟩
  simp only [wharfageref10_FindEntry.l0]
  by_cases h : (0 : Int) < (l.length : Int)
  · rw [if_pos h, cr_f l hl _ (by omega), Option.bind_some, decide_eq_false hg]
    simp only [wharfageref10_FindEntry.j1]
    rw [if_neg (by simp)]
  · rw [if_neg h]
    simp only [wharfageref10_FindEntry.j1]
    rw [if_neg (by simp)]
theorem cf_bad (l : List En) (f : Fl) (now : Int) (hl : l.length ≤ 9223372036854775806) (hg : ¬ Good l) : cache_Find.f (l.length + 1) l f.f0 f.f1 f.f2 f.f3 f.f4 now = some (0, 0, 0, 0, 0, 0, false, 0, 0, false) := by
  unfold cache_Find.f cache_at.f
  rw [Option.bind_some]
  by_cases h : idxFrom (⟨f.f0, f.f1, f.f2, f.f3, f.f4⟩ : Fl) l 0 < 0
  · rw [if_pos h]
  · rw [if_neg h, mayE_f l _ (by omega) (by omega), Option.bind_some, decide_eq_false hg, if_neg (by simp)]
theorem cf_hit (l : List En) (f : Fl) (now : Int) (hg : Good l) (j : Nat) (hj : j < l.length) (hf : (l[j]).f0 = f) : cache_Find.f (l.length + 1) l f.f0 f.f1 f.f2 f.f3 f.f4 now = some (if ranB l[j] now = true then (0, 0, 0, 0, 0, 0, false, 0, 0, false) else (l[j].f0.f0, l[j].f0.f1, l[j].f0.f2, l[j].f0.f3, l[j].f0.f4, l[j].f1, l[j].f2, l[j].f3, l[j].f4, true)) := by
  have h8 := hg.2.2
  have hix : idxFrom (⟨f.f0, f.f1, f.f2, f.f3, f.f4⟩ : Fl) l 0 = ((j : Nat) : Int) := by
    have := idx_first f l 0 j hj (fun i hi e => List.pairwise_iff_getElem.1 hg.2.1 i j (by omega) hj hi (e.trans hf.symm)) hf
    rw [Nat.zero_add] at this
    exact this
  unfold cache_Find.f cache_at.f
  rw [Option.bind_some, hix, if_neg (by omega), mayE_f l _ (by omega) (by omega), Option.bind_some, decide_eq_true hg, if_pos rfl, if_pos (by omega), if_pos (by omega), rdE l j hj, ranB_f, Option.bind_some]
  cases hr : ranB l[j] now
  · rw [if_neg (by simp), if_neg (by simp)]
  · rw [if_pos rfl, if_pos rfl]
theorem find_is (l : List En) (f : Fl) (now : Int) (hw : -9223372036854775808 ≤ now ∧ now ≤ 9223372036854775807) (hl : l.length < 1954687338268) : ∃ (x : En) (b : Bool), cache_Find.f (l.length + 1) l f.f0 f.f1 f.f2 f.f3 f.f4 now = some (x.f0.f0, x.f0.f1, x.f0.f2, x.f0.f3, x.f0.f4, x.f1, x.f2, x.f3, x.f4, b) ∧ wharfageref10_FindEntry.f (l.length * (l.length + 2) + 1 + 4 * l.length + 10) l f.f0 f.f1 f.f2 f.f3 f.f4 now = some (x.f0.f0, x.f0.f1, x.f0.f2, x.f0.f3, x.f0.f4, x.f1, x.f2, x.f3, x.f4, b) := by
  by_cases hg : Good l
  · by_cases hex : ∃ j, ∃ (hj : j < l.length), (l[j]).f0 = f
    · obtain ⟨j, hj, hf⟩ := hex
      have h2 := fe_hit l f now hw (by omega) hg j hj hf j (l.length * (l.length + 2) + 1 + 4 * l.length + 10) 0 (by omega) (by omega) (by omega)
      have h1 := cf_hit l f now hg j hj hf
      cases hr : ranB l[j] now
      · rw [hr, if_neg (by simp)] at h1 h2
        exact ⟨l[j], true, h1, h2⟩
      · rw [hr, if_pos rfl] at h1 h2
        exact ⟨⟨⟨0, 0, 0, 0, 0⟩, 0, false, 0, 0⟩, false, h1, h2⟩
    · have hn : ∀ x ∈ l, x.f0 ≠ f := fun x hx e => by
        obtain ⟨j, hj, rfl⟩ := List.getElem_of_mem hx
        exact hex ⟨j, hj, e⟩
      exact ⟨⟨⟨0, 0, 0, 0, 0⟩, 0, false, 0, 0⟩, false, find_none l f _ now hn, fe_none l f now (by omega) hg l.length _ 0 (by omega) (by omega) (by omega) (fun m hm _ e => hex ⟨m, hm, e⟩)⟩
  · exact ⟨⟨⟨0, 0, 0, 0, 0⟩, 0, false, 0, 0⟩, false, cf_bad l f now (by omega) hg, fe_bad l f now (by omega) hg _ (by omega)⟩
theorem sw_l0 (l : List En) (now : Int) (hw : -9223372036854775808 ≤ now ∧ now ≤ 9223372036854775807) (hl : l.length < 1954687338268) (d : Nat) : ∀ (k i : Nat), l.length - i ≤ d → d < k → i ≤ l.length →
    wharfageref10_SweepEntries.l0 k l now ((l.take i).filter (fun p => !ranB p now)) ((l.take i).filter (fun p => ranB p now)) (i : Int) = some (l.filter (fun p => !ranB p now), l.filter (fun p => ranB p now), 0) := by
  induction d with
  | zero =>
    intro k i hd hk hi
    obtain ⟨k, rfl⟩ : ∃ m, k = m + 1 := ⟨k - 1, by omega⟩
    simp only [wharfageref10_SweepEntries.l0]
    rw [if_neg (by omega), List.take_of_length_le (by omega)]
  | succ d ih =>
    intro k i hd hk hi
    obtain ⟨k, rfl⟩ : ∃ m, k = m + 1 := ⟨k - 1, by omega⟩
    simp only [wharfageref10_SweepEntries.l0]
    by_cases h : (i : Int) < (l.length : Int)
    · have hlt : i < l.length := by omega
      have nk := ih k (i + 1) (by omega) (by omega) (by omega)
      have n1 : ((l.take i).filter (fun p => !ranB p now)).length < 1954687338268 := by
        have h1 := List.length_filter_le (fun p => !ranB p now) (l.take i)
        rw [List.length_take] at h1
        omega
      have n2 : ((l.take i).filter (fun p => ranB p now)).length < 1954687338268 := by
        have h1 := List.length_filter_le (fun p => ranB p now) (l.take i)
        rw [List.length_take] at h1
        omega
      rw [List.take_succ_eq_append_getElem hlt, List.filter_append, List.filter_append] at nk
      rw [if_pos h, if_pos (by omega), rdE l i hlt, rr_f _ _ hw, Option.bind_some, show wrap64 ((i : Int) + 1) = ((i + 1 : Nat) : Int) by unfold wrap64; omega]
      cases hr : ranB l[i] now
      · rw [if_neg (by simp), if_pos n1]
        rw [show List.filter (fun p => !ranB p now) [l[i]] = [l[i]] by simp [List.filter, hr], show List.filter (fun p => ranB p now) [l[i]] = [] by simp [List.filter, hr], List.append_nil] at nk
        exact nk
      · rw [if_pos rfl, if_pos n2]
        rw [show List.filter (fun p => !ranB p now) [l[i]] = [] by simp [List.filter, hr], show List.filter (fun p => ranB p now) [l[i]] = [l[i]] by simp [List.filter, hr], List.append_nil] at nk
        exact nk
    · rw [if_neg h, List.take_of_length_le (by omega)]
theorem sweep_is (l : List En) (now : Int) (hw : -9223372036854775808 ≤ now ∧ now ≤ 9223372036854775807) (hl : l.length < 1954687338268) : ∃ r1 r2 e, cache_Sweep.f (l.length + 1) l now = some (r1, r2, e) ∧ wharfageref10_SweepEntries.f (l.length * (l.length + 2) + 1 + 4 * l.length + 10) l now = some (r1, r2, e) ∧ r1.length ≤ l.length ∧ r2.length ≤ l.length := by
  unfold cache_Sweep.f wharfageref10_SweepEntries.f
  rw [mayE_f l _ (by omega) (by omega), cr_f l (by omega) _ (by omega), Option.bind_some, Option.bind_some]
  have hn : wharfageref10_nowMay.f now = some (decide (0 ≤ now ∧ now ≤ 1048576)) := by
    unfold wharfageref10_nowMay.f
    by_cases h0 : now ≥ 0
    · rw [if_pos h0]; congr 1; exact decide_eq_decide.2 (by omega)
    · rw [if_neg h0, decide_eq_false (by omega)]
  obtain ⟨m, hm⟩ : ∃ m, l.length * (l.length + 2) + 1 + 4 * l.length + 10 = m + 1 := ⟨_, rfl⟩
  rw [hm]
  by_cases hg : Good l
  · rw [decide_eq_true hg, if_pos rfl, if_pos rfl, time_f, hn, Option.bind_some, Option.bind_some]
    simp only [wharfageref10_SweepEntries.j0]
    cases ht : decide (0 ≤ now ∧ now ≤ 1048576)
    · rw [if_neg (by simp), if_pos (by simp)]
      exact ⟨_, _, _, rfl, rfl, by simp, by simp⟩
    · rw [if_pos rfl, if_neg (by simp)]
      exact ⟨_, _, _, rfl, sw_l0 l now hw hl l.length m 0 (by omega) (by omega) (by omega), List.length_filter_le _ _, List.length_filter_le _ _⟩
  · rw [decide_eq_false hg, if_neg (by simp), if_neg (by simp)]
    simp only [wharfageref10_SweepEntries.j0]
    rw [if_pos trivial]
    exact ⟨_, _, _, rfl, rfl, by simp, by simp⟩
end CcLaw
def wharfagelaw16_Caches.f (l0 : List S26) (a1_0 a1_1 a1_2 a1_3 a1_4 a1_5 : Int) (a1_6 : Bool) (a1_7 a1_8 a2_0 a2_1 a2_2 a2_3 a2_4 a3 : Int) : Option Bool := if l0.length + 2 < 1954687338268 ∧ -9223372036854775808 ≤ a3 ∧ a3 ≤ 9223372036854775807 then some true else none
/-- n entries from cell o on of block g: each of them has its port's cell. -/
def shapeE (g o n : Nat) (w : World) : Prop := ∃ cur : Array Value, w.heap[g]? = some (.cells cur 26 (0, 0)) ∧ ∀ j, j < n → ∃ x : Int, cur[o + (j * 9 + 5)]? = some (.int .i64 x)
/-- What is written over has its forms yet. -/
def Kint (w w1 : World) : Prop := ∀ (b : Nat) (cur : Array Value), w.heap[b]? = some (.cells cur 26 (0, 0)) → ∃ cur1 : Array Value, w1.heap[b]? = some (.cells cur1 26 (0, 0)) ∧ ∀ (i : Nat) (x : Int), cur[i]? = some (.int .i64 x) → ∃ x1 : Int, cur1[i]? = some (.int .i64 x1)
theorem Kint.refl_ (w : World) : Kint w w := fun b cur h => ⟨cur, h, fun i x hx => ⟨x, hx⟩⟩
theorem Kint.trans_ {w w1 w2 : World} (h : Kint w w1) (h2 : Kint w1 w2) : Kint w w2 := fun b cur hc => by
  obtain ⟨c1, e1, f1⟩ := h b cur hc
  obtain ⟨c2, e2, f2⟩ := h2 b c1 e1
  exact ⟨c2, e2, fun i x hx => by obtain ⟨x1, hx1⟩ := f1 i x hx; exact f2 i x1 hx1⟩
theorem Kint.drew_ {w w1 : World} (h : Kint w w1) : Kint w w1.drew := h
theorem Kint.store {w : World} (g i : Nat) (y : Int) : Kint w (w.setCell ⟨g, i, none⟩ (.int .i64 y)) := fun b cur hc => by
  by_cases hb : b = g
  · subst hb
    refine ⟨cur.setIfInBounds i (.int .i64 y), ?_, fun j x hx => ?_⟩
    · show (w.heap.modify b _)[b]? = _
      rw [Array.getElem?_modify, if_pos rfl, hc]
      rfl
    · by_cases hj : j = i
      · subst hj
        exact ⟨y, Array.getElem?_setIfInBounds_self_of_lt (Array.getElem?_eq_some_iff.1 hx).1⟩
      · exact ⟨x, by rw [Array.getElem?_setIfInBounds_ne (by omega)]; exact hx⟩
  · exact ⟨cur, (Below.heap_setCell w ⟨g, i, none⟩ _ b hb).trans hc, fun j x hx => ⟨x, hx⟩⟩
theorem shapeE.kint {g o n : Nat} {w w1 : World} (h : shapeE g o n w) (hk : Kint w w1) : shapeE g o n w1 := by
  obtain ⟨cur, hc, hf⟩ := h
  obtain ⟨c1, e1, f1⟩ := hk g cur hc
  exact ⟨c1, e1, fun j hj => by obtain ⟨x, hx⟩ := hf j hj; exact f1 _ x hx⟩
theorem shapeE.below {g o n : Nat} {w w1 : World} (h : shapeE g o n w) (hb : Below w.heap.size w w1) : shapeE g o n w1 := by
  obtain ⟨cur, hc, hf⟩ := h
  exact ⟨cur, (hb.block g (Array.getElem?_eq_some_iff.1 hc).1).trans hc, hf⟩
/-- A row that SpoilEntrys may be handed. -/
def Spo (base : Nat) (w : World) (v : Value) : Prop := ∃ A n c, v = .slice A n c ∧ n ≤ 9223372036854775807 ∧ (n = 0 ∨ ∃ g o, A = some ⟨g, o, none⟩ ∧ base ≤ g ∧ shapeE g o n w)
theorem Spo.kint {base : Nat} {w w1 : World} {v : Value} (h : Spo base w v) (hk : Kint w w1) : Spo base w1 v := by
  obtain ⟨A, n, c, hv, hn, h⟩ := h
  refine ⟨A, n, c, hv, hn, ?_⟩
  rcases h with h | ⟨g, o, ha, hg, hs⟩
  · exact .inl h
  · exact .inr ⟨g, o, ha, hg, hs.kint hk⟩
theorem Spo.below {base : Nat} {w w1 : World} {v : Value} (h : Spo base w v) (hb : Below w.heap.size w w1) : Spo base w1 v := by
  obtain ⟨A, n, c, hv, hn, h⟩ := h
  refine ⟨A, n, c, hv, hn, ?_⟩
  rcases h with h | ⟨g, o, ha, hg, hs⟩
  · exact .inl h
  · exact .inr ⟨g, o, ha, hg, hs.below hb⟩
theorem Spo.of {w : World} {base b0 : Nat} {ok : Nat → Prop} {v : Value} {xs : List S26} (h : Kd.Q k26 26 w base ok v xs) (hle : b0 ≤ base) (hl : xs.length ≤ 9223372036854775807) : Spo b0 w v := by
  obtain ⟨h0, inner, ⟨hlen, hq⟩, hr⟩ := h
  have e9 : Kd.sz k26 = 9 := rfl
  rw [e9] at hlen hr hq
  rcases hq with ⟨hn, A, hv, _⟩ | ⟨g, off, cap, cur, hv, hg, hh, hn, hoc, hsz, htk⟩
  · exact ⟨A, 0, 0, hv, by omega, .inl rfl⟩
  · refine ⟨_, _, _, hv, hl, .inr ⟨g, off * 9, rfl, by omega, cur, hh, fun j hj => ?_⟩⟩
    have hM := hr.2 j xs[j] (List.getElem?_eq_getElem hj)
    have hcs := k26_openM hM
    have h9 := congrArg (fun x => x[5]?) hcs
    simp only [List.getElem?_take, List.getElem?_drop] at h9
    rw [if_pos (by omega)] at h9
    have h8 := congrArg (fun x => x[j * 9 + 5]?) htk
    simp only [List.getElem?_take, List.getElem?_drop, Array.getElem?_toList] at h8
    rw [if_pos (by omega)] at h8
    exact ⟨_, h8.trans (h9.trans rfl)⟩
set_option maxHeartbeats 8000000 in
set_option maxRecDepth 100000 in
theorem spoilE.calls (v : Value) (w0 w : World) (hB : Below w0.heap.size w0 w) (hs : Spo w0.heap.size w v) :
    Calls Try.prog 18 #[v] w fun e w' => e = .returned (.tuple #[]) ∧ Below w0.heap.size w0 w' ∧ Kint w w' := by
  obtain ⟨A, n, c, rfl, hn, h⟩ := hs
  have hu := Try.underlying26
  have HB := Aside0.mk hB
  have HNN := Aside0.mk hn
  have HK := Aside0.mk (Kint.refl_ w)
  rcases h with rfl | ⟨g, o, rfl, hg, hsh⟩
  · clear hB hn
    go_enter Try.func18, Try.ntmps18
    go_wp2_with fail
    go_loopw [2] (fun vi wr => vi = .int .i64 0 ∧ wr = w) (fun _ _ => 0)
    case atStart => exact ⟨rfl, rfl⟩
    case round =>
      obtain ⟨rfl, rfl⟩ := hrel
      go_wp2_with fail
      go_end0
      exact ⟨rfl, HB.out, HK.out⟩
  · have HS := Aside0.mk hsh
    have HG := Aside0.mk hg
    clear hB hsh hg hn
    go_enter Try.func18, Try.ntmps18
    go_wp2_with fail
    go_loopw [2] (fun vi wr => ∃ i : Nat, vi = .int .i64 i ∧ i ≤ n ∧ Aside0 (shapeE g o n wr) ∧ Aside0 (Below w0.heap.size w0 wr) ∧ Aside0 (Kint w wr)) (fun vi _ => n - (intOf vi).toNat)
    case atStart => exact ⟨0, rfl, Nat.zero_le _, HS, HB, HK⟩
    case round =>
      clear HS HB HK
      obtain ⟨i, rfl, hi, HS, HB, HK⟩ := hrel
      by_cases hlt : i < n
      · obtain ⟨x2, y0⟩ : ∃ x2 : Int, wr.cell? ⟨g, o + (i * 9 + 5), none⟩ = some (.int .i64 x2) := by
          obtain ⟨cur, hg, hc⟩ := HS.out
          obtain ⟨x2, hx⟩ := hc i hlt
          exact ⟨x2, by rw [World.cell?, hg]; exact hx⟩
        have y1 : wr.frozen? ⟨g, o + (i * 9 + 5), none⟩ = false := by
          obtain ⟨cur, hg, _⟩ := HS.out
          show (match wr.heap[g]? with | some (.cells _ _ (lo, hi)) => decide (lo ≤ o + (i * 9 + 5)) && decide (o + (i * 9 + 5) < hi) | _ => false) = false
          rw [hg]; simp
        have s1 : o + i * 9 + 5 = o + (i * 9 + 5) := by omega
        have p1 : (0 : Int) ≤ (i : Int) := by omega
        have p2 : ((i : Int) < (n : Int)) = True := eq_true (by omega)
        go_wp2_with fail
        have hnn := HNN.out
        have hw : wrap64 ((i : Int) + 1) = ((i + 1 : Nat) : Int) := by unfold wrap64; omega
        go_roundw
        case rel => exact ⟨i + 1, by rw [hw], by omega, ⟨HS.out.kint (Kint.store g _ _)⟩, ⟨HB.out.setCell HG.out _⟩, ⟨HK.out.trans_ (Kint.store g _ _)⟩⟩
        case measure =>
          have e1 : (intOf (.int .i64 (wrap64 ((i : Int) + 1)))).toNat = i + 1 := by rw [hw]; rfl
          have e2 : (intOf (.int .i64 (i : Int))).toNat = i := rfl
          rw [e1, e2]
          omega
      · go_wp2_with fail
        go_end0
        exact ⟨rfl, HB.out, HK.out⟩
def BxC (L : List (Nat × Array Value × Nat)) (w : World) : Prop := ∀ e ∈ L, w.heap[e.1]? = some (.cells e.2.1 e.2.2 (0, 0))
theorem BxC.below {L : List (Nat × Array Value × Nat)} {w w1 : World} (h : BxC L w) (hb : Below w.heap.size w w1) : BxC L w1 := fun e he => (hb.block e.1 (Array.getElem?_eq_some_iff.1 (h e he)).1).trans (h e he)
theorem BxC.get {L : List (Nat × Array Value × Nat)} {w : World} (h : BxC L w) (i : Nat) {n : Nat} {cs : Array Value} {t : Nat} (hi : L[i]? = some (n, cs, t)) : w.heap[n]? = some (.cells cs t (0, 0)) := h _ (List.mem_of_getElem? hi)
theorem BxC.cons {L : List (Nat × Array Value × Nat)} {w : World} {n : Nat} {cs : Array Value} {t : Nat} (h : BxC L w) (h1 : w.heap[n]? = some (.cells cs t (0, 0))) : BxC ((n, cs, t) :: L) w := fun e he => by
  rcases List.mem_cons.1 he with rfl | he
  · exact h1
  · exact h e he
theorem BxC.nil (w : World) : BxC [] w := fun e he => by cases he
def Rws (L : List (Option Addr × List S26)) (w : World) : Prop := ∀ e ∈ L, Kd.C k26 w e.1 e.2.length e.2
theorem Rws.below {L : List (Option Addr × List S26)} {w w1 : World} (h : Rws L w) (hb : Below w.heap.size w w1) : Rws L w1 := fun e he => Kd.C_below (h e he) hb
theorem Rws.get {L : List (Option Addr × List S26)} {w : World} (h : Rws L w) (i : Nat) {A : Option Addr} {xs : List S26} (hi : L[i]? = some (A, xs)) : Kd.C k26 w A xs.length xs := h _ (List.mem_of_getElem? hi)
theorem Rws.cons {L : List (Option Addr × List S26)} {w : World} {A : Option Addr} {xs : List S26} (h : Rws L w) (h1 : Kd.C k26 w A xs.length xs) : Rws ((A, xs) :: L) w := fun e he => by
  rcases List.mem_cons.1 he with rfl | he
  · exact h1
  · exact h e he
theorem Rws.nil (w : World) : Rws [] w := fun e he => by cases he
def Sps (base : Nat) (L : List Value) (w : World) : Prop := ∀ v ∈ L, Spo base w v
theorem Sps.below {base : Nat} {L : List Value} {w w1 : World} (h : Sps base L w) (hb : Below w.heap.size w w1) : Sps base L w1 := fun e he => (h e he).below hb
theorem Sps.kint {base : Nat} {L : List Value} {w w1 : World} (h : Sps base L w) (hk : Kint w w1) : Sps base L w1 := fun e he => (h e he).kint hk
theorem Sps.get {base : Nat} {L : List Value} {w : World} (h : Sps base L w) (i : Nat) {v : Value} (hi : L[i]? = some v) : Spo base w v := h _ (List.mem_of_getElem? hi)
theorem Sps.cons {base : Nat} {L : List Value} {w : World} {v : Value} (h : Sps base L w) (h1 : Spo base w v) : Sps base (v :: L) w := fun e he => by
  rcases List.mem_cons.1 he with rfl | he
  · exact h1
  · exact h e he
theorem Sps.nil (base : Nat) (w : World) : Sps base [] w := fun e he => by cases he
set_option maxHeartbeats 8000000 in
set_option maxRecDepth 100000 in
theorem wharfagelaw16_Caches.calls (A0 : Option Addr) (c0 : Nat) (l0 : List S26) (a1_0 a1_1 a1_2 a1_3 a1_4 a1_5 : Int) (a1_6 : Bool) (a1_7 a1_8 a2_0 a2_1 a2_2 a2_3 a2_4 a3 : Int) (r : Bool) (w : World) (hr0 : Kd.C k26 w A0 l0.length l0) (hc0 : l0.length ≤ c0) (h : wharfagelaw16_Caches.f l0 a1_0 a1_1 a1_2 a1_3 a1_4 a1_5 a1_6 a1_7 a1_8 a2_0 a2_1 a2_2 a2_3 a2_4 a3 = some r) :
    Calls Try.prog 3 #[.slice A0 l0.length c0, .agg #[.int .i64 a1_0, .int .i64 a1_1, .int .i64 a1_2, .int .i64 a1_3, .int .i64 a1_4, .int .i64 a1_5, .bool a1_6, .int .i64 a1_7, .int .i64 a1_8], .agg #[.int .i64 a2_0, .int .i64 a2_1, .int .i64 a2_2, .int .i64 a2_3, .int .i64 a2_4], .int .i64 a3] w fun e w' => e = .returned (.bool r) ∧ Below w.heap.size w w' := by
  unfold wharfagelaw16_Caches.f at h
  by_cases hsz : l0.length + 2 < 1954687338268 ∧ -9223372036854775808 ≤ a3 ∧ a3 ≤ 9223372036854775807
  case neg => rw [if_neg hsz] at h; exact absurd h (by simp)
  rw [if_pos hsz] at h
  obtain rfl := Option.some.inj h
  clear h
  have hu := Try.underlying26
  have hu2 := Try.underlying24
  have HL := Aside0.mk hsz.1
  have HR0 := Aside0.mk hr0
  have HC0 := Aside0.mk hc0
  obtain ⟨r1, pq, r11, r12, hput⟩ : ∃ r1 pq r11 r12, wharfageref10_PutEntry.g l0 (⟨⟨a1_0, a1_1, a1_2, a1_3, a1_4⟩, a1_5, a1_6, a1_7, a1_8⟩ : S26) = (r1, pq, r11, r12) := ⟨_, _, _, _, rfl⟩
  have HPUT := Aside0.mk hput
  have HPL := Aside0.mk (CcLaw.put_len l0 (⟨⟨a1_0, a1_1, a1_2, a1_3, a1_4⟩, a1_5, a1_6, a1_7, a1_8⟩ : S26) r1 pq r11 r12 hput)
  obtain ⟨cx, cb, hf1, hf2⟩ := CcLaw.find_is l0 (⟨a2_0, a2_1, a2_2, a2_3, a2_4⟩ : S24) a3 hsz.2 (by omega)
  have HF1 := Aside0.mk hf1
  have HF2 := Aside0.mk hf2
  obtain ⟨dr, de, hd, hdl⟩ := CcLaw.drop_is l0 (⟨a2_0, a2_1, a2_2, a2_3, a2_4⟩ : S24) (by omega)
  have HD := Aside0.mk hd
  have HDL := Aside0.mk hdl
  obtain ⟨sr, tr, se, hs1, hs2, hsl, htl⟩ := CcLaw.sweep_is l0 a3 hsz.2 (by omega)
  have HS1 := Aside0.mk hs1
  have HS2 := Aside0.mk hs2
  have HSL := Aside0.mk (And.intro hsl htl)
  obtain ⟨mb, hm1, hm2⟩ : ∃ mb, cache_May.f (l0.length + 1) l0 = some mb ∧ wharfageref10_CacheMay.f (l0.length * (l0.length + 2) + 1 + 4 * l0.length + 10) l0 = some mb := ⟨_, CcLaw.mayE_f l0 _ (by omega) (by omega), CcLaw.cr_f l0 (by omega) _ (by omega)⟩
  have HM1 := Aside0.mk hm1
  have HM2 := Aside0.mk hm2
  clear hsz hr0 hc0 hput hf1 hf2 hd hdl hs1 hs2 hsl htl hm1 hm2
  go_enter Try.func3, Try.ntmps3
  go_upto_region 1 with fail
  obtain ⟨nF, hnF⟩ : ∃ n, n = w.heap.size + 1 := ⟨_, rfl⟩
  obtain ⟨nE, hnE⟩ : ∃ n, n = w.heap.size := ⟨_, rfl⟩
  obtain ⟨wb, hwb⟩ : ∃ x_, x_ = (w.alloc (.cells #[.int .i64 a1_0, .int .i64 a1_1, .int .i64 a1_2, .int .i64 a1_3, .int .i64 a1_4, .int .i64 a1_5, .bool a1_6, .int .i64 a1_7, .int .i64 a1_8] 26)).alloc (.cells #[.int .i64 a2_0, .int .i64 a2_1, .int .i64 a2_2, .int .i64 a2_3, .int .i64 a2_4] 24) := ⟨_, rfl⟩
  have B0 := Aside0.mk (show BxC [(nE, #[.int .i64 a1_0, .int .i64 a1_1, .int .i64 a1_2, .int .i64 a1_3, .int .i64 a1_4, .int .i64 a1_5, .bool a1_6, .int .i64 a1_7, .int .i64 a1_8], 26), (nF, #[.int .i64 a2_0, .int .i64 a2_1, .int .i64 a2_2, .int .i64 a2_3, .int .i64 a2_4], 24)] wb from ((BxC.nil wb).cons (show wb.heap[nF]? = some (.cells #[.int .i64 a2_0, .int .i64 a2_1, .int .i64 a2_2, .int .i64 a2_3, .int .i64 a2_4] 24 (0, 0)) by rw [hwb, hnF]; simpa only [World.size_alloc] using heap_alloc_new (w.alloc (.cells #[.int .i64 a1_0, .int .i64 a1_1, .int .i64 a1_2, .int .i64 a1_3, .int .i64 a1_4, .int .i64 a1_5, .bool a1_6, .int .i64 a1_7, .int .i64 a1_8] 26)) (.cells #[.int .i64 a2_0, .int .i64 a2_1, .int .i64 a2_2, .int .i64 a2_3, .int .i64 a2_4] 24 (0, 0)))).cons (show wb.heap[nE]? = some (.cells #[.int .i64 a1_0, .int .i64 a1_1, .int .i64 a1_2, .int .i64 a1_3, .int .i64 a1_4, .int .i64 a1_5, .bool a1_6, .int .i64 a1_7, .int .i64 a1_8] 26 (0, 0)) by rw [hwb, hnE]; exact pe_alloc (heap_alloc_new w _) _))
  have HB0 := Aside0.mk (show Below w.heap.size w wb by rw [hwb]; exact below_alloc (below_alloc (Below.refl _ _) _) _)
  rw [← hwb, ← hnF, ← hnE]
  clear hwb hnF hnE
  go_upto_region 2 with
    (go_at_call 5; refine (wharfagelaw0_LendEntrys.calls A0 c0 l0 l0 _ (Kd.C_below HR0.out HB0.out) HC0.out (if_pos HL.out)).mono ?_; rintro e w1 ⟨g, c, rfl, hc2, hg, hx, hb⟩; have HX := Aside0.mk hx; have HV1 := Aside0.mk (Kd.C_below (Kd.C_below HR0.out HB0.out) hb); have HC2 := Aside0.mk hc2; have BX := Aside0.mk (B0.out.below hb); have HB1 := Aside0.mk (below_step HB0.out hb); clear hx hc2 hg hb B0)
  have RW := Aside0.mk (((Rws.nil w1).cons HV1.out).cons (Go.Proofs.Ytiidegomccifaaa.Hand.hk_head HX.out rfl))
  have SP := Aside0.mk (Sps.nil w1.heap.size w1)
  have HBT := Aside0.mk (Below.refl w1.heap.size w1)
  have e0 : w1.cell? ⟨nE, 0, none⟩ = some (.int .i64 a1_0) := (pe_cell (BX.out.get 0 rfl)).trans rfl
  have e1 : w1.cell? ⟨nE, 1, none⟩ = some (.int .i64 a1_1) := (pe_cell (BX.out.get 0 rfl)).trans rfl
  have e2 : w1.cell? ⟨nE, 2, none⟩ = some (.int .i64 a1_2) := (pe_cell (BX.out.get 0 rfl)).trans rfl
  have e3 : w1.cell? ⟨nE, 3, none⟩ = some (.int .i64 a1_3) := (pe_cell (BX.out.get 0 rfl)).trans rfl
  have e4 : w1.cell? ⟨nE, 4, none⟩ = some (.int .i64 a1_4) := (pe_cell (BX.out.get 0 rfl)).trans rfl
  have e5 : w1.cell? ⟨nE, 5, none⟩ = some (.int .i64 a1_5) := (pe_cell (BX.out.get 0 rfl)).trans rfl
  have e6 : w1.cell? ⟨nE, 6, none⟩ = some (.bool a1_6) := (pe_cell (BX.out.get 0 rfl)).trans rfl
  have e7 : w1.cell? ⟨nE, 7, none⟩ = some (.int .i64 a1_7) := (pe_cell (BX.out.get 0 rfl)).trans rfl
  have e8 : w1.cell? ⟨nE, 8, none⟩ = some (.int .i64 a1_8) := (pe_cell (BX.out.get 0 rfl)).trans rfl
  go_upto_region 3 with first
    | (go_at_call 6; refine (cache_Put.calls (l0.length + 1) (some ⟨g, 0, none⟩) c l0 a1_0 a1_1 a1_2 a1_3 a1_4 a1_5 a1_6 a1_7 a1_8 r1 pq.f0.f0 pq.f0.f1 pq.f0.f2 pq.f0.f3 pq.f0.f4 pq.f1 pq.f2 pq.f3 pq.f4 r11 r12 _ (RW.out.get 0 rfl) (by have := HC2.out; omega) (CcLaw.put_is l0 (⟨⟨a1_0, a1_1, a1_2, a1_3, a1_4⟩, a1_5, a1_6, a1_7, a1_8⟩ : S26) _ (by omega) (by have := HL.out; omega) r1 pq r11 r12 HPUT.out)).mono ?_; rintro e w2 ⟨va, rfl, ho, hb⟩; have hsp := Spo.of ho (below_size HBT.out) (by have := HPL.out; have := HL.out; omega); obtain ⟨Aa, ca, rfl, _⟩ := Kd.Q_slice ho; replace BX := Aside0.mk (BX.out.below hb); replace RW := Aside0.mk (RW.out.below hb); replace SP := Aside0.mk (SP.out.below hb); replace HBT := Aside0.mk (below_step HBT.out hb); have CAa := Aside0.mk (Kd.Q_reads' ho).2.1; replace RW := Aside0.mk (RW.out.cons (Kd.Q_reads' ho).2.2); replace SP := Aside0.mk (SP.out.cons hsp); clear e0 e1 e2 e3 e4 e5 e6 e7 e8 ho hsp hb)
    | ((with_reducible refine gate_dst (N := 11) rfl ?_); refine box_event ?hg (N := 11) ?hd (cs := #[.int .i64 0, .int .i64 0, .int .i64 0, .int .i64 0, .int .i64 0, .int .i64 0, .bool false, .int .i64 0, .int .i64 0]) (t := 26) ?hr ?_; (case hd => rfl); (case hg => rfl); (case hr => first | (go_simp; done) | (go_simp; rfl)); intro g11 hg_ w3 hbox hb; have BG := Aside0.mk hbox; have GG := Aside0.mk (Nat.le_of_eq hg_.symm : w2.heap.size ≤ g11); have HBG := Aside0.mk hb; have z0 : w3.cell? ⟨g11, 0, none⟩ = some (.int .i64 0) := (pe_cell BG.out).trans rfl; have y0 : w3.frozen? ⟨g11, 0, none⟩ = false := pe_free BG.out; have z1 : w3.cell? ⟨g11, 1, none⟩ = some (.int .i64 0) := (pe_cell BG.out).trans rfl; have y1 : w3.frozen? ⟨g11, 1, none⟩ = false := pe_free BG.out; have z2 : w3.cell? ⟨g11, 2, none⟩ = some (.int .i64 0) := (pe_cell BG.out).trans rfl; have y2 : w3.frozen? ⟨g11, 2, none⟩ = false := pe_free BG.out; have z3 : w3.cell? ⟨g11, 3, none⟩ = some (.int .i64 0) := (pe_cell BG.out).trans rfl; have y3 : w3.frozen? ⟨g11, 3, none⟩ = false := pe_free BG.out; have z4 : w3.cell? ⟨g11, 4, none⟩ = some (.int .i64 0) := (pe_cell BG.out).trans rfl; have y4 : w3.frozen? ⟨g11, 4, none⟩ = false := pe_free BG.out; have z5 : w3.cell? ⟨g11, 5, none⟩ = some (.int .i64 0) := (pe_cell BG.out).trans rfl; have y5 : w3.frozen? ⟨g11, 5, none⟩ = false := pe_free BG.out; have z6 : w3.cell? ⟨g11, 6, none⟩ = some (.bool false) := (pe_cell BG.out).trans rfl; have y6 : w3.frozen? ⟨g11, 6, none⟩ = false := pe_free BG.out; have z7 : w3.cell? ⟨g11, 7, none⟩ = some (.int .i64 0) := (pe_cell BG.out).trans rfl; have y7 : w3.frozen? ⟨g11, 7, none⟩ = false := pe_free BG.out; have z8 : w3.cell? ⟨g11, 8, none⟩ = some (.int .i64 0) := (pe_cell BG.out).trans rfl; have y8 : w3.frozen? ⟨g11, 8, none⟩ = false := pe_free BG.out; clear hb hbox hg_)
  obtain ⟨wp, hwp⟩ : ∃ x_, x_ = (((((((((w3.setCell ⟨g11, 0, none⟩ (.int .i64 pq.f0.f0)).setCell ⟨g11, 1, none⟩ (.int .i64 pq.f0.f1)).setCell ⟨g11, 2, none⟩ (.int .i64 pq.f0.f2)).setCell ⟨g11, 3, none⟩ (.int .i64 pq.f0.f3)).setCell ⟨g11, 4, none⟩ (.int .i64 pq.f0.f4)).setCell ⟨g11, 5, none⟩ (.int .i64 pq.f1)).setCell ⟨g11, 6, none⟩ (.bool pq.f2)).setCell ⟨g11, 7, none⟩ (.int .i64 pq.f3)).setCell ⟨g11, 8, none⟩ (.int .i64 pq.f4)) := ⟨_, rfl⟩
  have hbp : Below w2.heap.size w2 wp := by rw [hwp]; (with_reducible repeat (first | exact HBG.out | refine below_set ?_ GG.out))
  have hp : wp.heap[g11]? = some (.cells #[.int .i64 pq.f0.f0, .int .i64 pq.f0.f1, .int .i64 pq.f0.f2, .int .i64 pq.f0.f3, .int .i64 pq.f0.f4, .int .i64 pq.f1, .bool pq.f2, .int .i64 pq.f3, .int .i64 pq.f4] 26 (0, 0)) := by
    rw [hwp]
    refine blk_put (cs := #[.int .i64 pq.f0.f0, .int .i64 pq.f0.f1, .int .i64 pq.f0.f2, .int .i64 pq.f0.f3, .int .i64 pq.f0.f4, .int .i64 pq.f1, .bool pq.f2, .int .i64 pq.f3, .int .i64 0]) ?_ 8 _ rfl
    refine blk_put (cs := #[.int .i64 pq.f0.f0, .int .i64 pq.f0.f1, .int .i64 pq.f0.f2, .int .i64 pq.f0.f3, .int .i64 pq.f0.f4, .int .i64 pq.f1, .bool pq.f2, .int .i64 0, .int .i64 0]) ?_ 7 _ rfl
    refine blk_put (cs := #[.int .i64 pq.f0.f0, .int .i64 pq.f0.f1, .int .i64 pq.f0.f2, .int .i64 pq.f0.f3, .int .i64 pq.f0.f4, .int .i64 pq.f1, .bool false, .int .i64 0, .int .i64 0]) ?_ 6 _ rfl
    refine blk_put (cs := #[.int .i64 pq.f0.f0, .int .i64 pq.f0.f1, .int .i64 pq.f0.f2, .int .i64 pq.f0.f3, .int .i64 pq.f0.f4, .int .i64 0, .bool false, .int .i64 0, .int .i64 0]) ?_ 5 _ rfl
    refine blk_put (cs := #[.int .i64 pq.f0.f0, .int .i64 pq.f0.f1, .int .i64 pq.f0.f2, .int .i64 pq.f0.f3, .int .i64 0, .int .i64 0, .bool false, .int .i64 0, .int .i64 0]) ?_ 4 _ rfl
    refine blk_put (cs := #[.int .i64 pq.f0.f0, .int .i64 pq.f0.f1, .int .i64 pq.f0.f2, .int .i64 0, .int .i64 0, .int .i64 0, .bool false, .int .i64 0, .int .i64 0]) ?_ 3 _ rfl
    refine blk_put (cs := #[.int .i64 pq.f0.f0, .int .i64 pq.f0.f1, .int .i64 0, .int .i64 0, .int .i64 0, .int .i64 0, .bool false, .int .i64 0, .int .i64 0]) ?_ 2 _ rfl
    refine blk_put (cs := #[.int .i64 pq.f0.f0, .int .i64 0, .int .i64 0, .int .i64 0, .int .i64 0, .int .i64 0, .bool false, .int .i64 0, .int .i64 0]) ?_ 1 _ rfl
    refine blk_put (cs := #[.int .i64 0, .int .i64 0, .int .i64 0, .int .i64 0, .int .i64 0, .int .i64 0, .bool false, .int .i64 0, .int .i64 0]) ?_ 0 _ rfl
    exact BG.out
  rw [← hwp]
  clear hwp BG GG HBG z0 z1 z2 z3 z4 z5 z6 z7 z8 y0 y1 y2 y3 y4 y5 y6 y7 y8
  replace BX := Aside0.mk (BX.out.below hbp); replace RW := Aside0.mk (RW.out.below hbp); replace SP := Aside0.mk (SP.out.below hbp); replace HBT := Aside0.mk (below_step HBT.out hbp)
  replace BX := Aside0.mk (BX.out.cons hp)
  clear hbp hp
  have e0 : wp.cell? ⟨nE, 0, none⟩ = some (.int .i64 a1_0) := (pe_cell (BX.out.get 1 rfl)).trans rfl
  have e1 : wp.cell? ⟨nE, 1, none⟩ = some (.int .i64 a1_1) := (pe_cell (BX.out.get 1 rfl)).trans rfl
  have e2 : wp.cell? ⟨nE, 2, none⟩ = some (.int .i64 a1_2) := (pe_cell (BX.out.get 1 rfl)).trans rfl
  have e3 : wp.cell? ⟨nE, 3, none⟩ = some (.int .i64 a1_3) := (pe_cell (BX.out.get 1 rfl)).trans rfl
  have e4 : wp.cell? ⟨nE, 4, none⟩ = some (.int .i64 a1_4) := (pe_cell (BX.out.get 1 rfl)).trans rfl
  have e5 : wp.cell? ⟨nE, 5, none⟩ = some (.int .i64 a1_5) := (pe_cell (BX.out.get 1 rfl)).trans rfl
  have e6 : wp.cell? ⟨nE, 6, none⟩ = some (.bool a1_6) := (pe_cell (BX.out.get 1 rfl)).trans rfl
  have e7 : wp.cell? ⟨nE, 7, none⟩ = some (.int .i64 a1_7) := (pe_cell (BX.out.get 1 rfl)).trans rfl
  have e8 : wp.cell? ⟨nE, 8, none⟩ = some (.int .i64 a1_8) := (pe_cell (BX.out.get 1 rfl)).trans rfl
  go_upto_region 4 with first
    | (go_at_call 7; refine (wharfageref10_PutEntry.calls A0 c0 l0 a1_0 a1_1 a1_2 a1_3 a1_4 a1_5 a1_6 a1_7 a1_8 r1 pq r11 r12 _ (RW.out.get 2 rfl) HC0.out (by have := HL.out; omega) HPUT.out).mono ?_; rintro e w4 ⟨vb, rfl, ho, hb⟩; obtain ⟨Ab, cb_, rfl⟩ := Kd.R_slice ho; replace BX := Aside0.mk (BX.out.below hb); replace RW := Aside0.mk (RW.out.below hb); replace SP := Aside0.mk (SP.out.below hb); replace HBT := Aside0.mk (below_step HBT.out hb); have CAb := Aside0.mk (Kd.R_reads' ho).2.1; replace RW := Aside0.mk (RW.out.cons (Kd.R_reads' ho).2.2); clear e0 e1 e2 e3 e4 e5 e6 e7 e8 ho hb)
    | ((with_reducible refine gate_dst (N := 15) rfl ?_); refine box_event ?hg (N := 15) ?hd (cs := #[.int .i64 0, .int .i64 0, .int .i64 0, .int .i64 0, .int .i64 0, .int .i64 0, .bool false, .int .i64 0, .int .i64 0]) (t := 26) ?hr ?_; (case hd => rfl); (case hg => rfl); (case hr => first | (go_simp; done) | (go_simp; rfl)); intro g15 hg_ w5 hbox hb; have BG := Aside0.mk hbox; have GG := Aside0.mk (Nat.le_of_eq hg_.symm : w4.heap.size ≤ g15); have HBG := Aside0.mk hb; have z0 : w5.cell? ⟨g15, 0, none⟩ = some (.int .i64 0) := (pe_cell BG.out).trans rfl; have y0 : w5.frozen? ⟨g15, 0, none⟩ = false := pe_free BG.out; have z1 : w5.cell? ⟨g15, 1, none⟩ = some (.int .i64 0) := (pe_cell BG.out).trans rfl; have y1 : w5.frozen? ⟨g15, 1, none⟩ = false := pe_free BG.out; have z2 : w5.cell? ⟨g15, 2, none⟩ = some (.int .i64 0) := (pe_cell BG.out).trans rfl; have y2 : w5.frozen? ⟨g15, 2, none⟩ = false := pe_free BG.out; have z3 : w5.cell? ⟨g15, 3, none⟩ = some (.int .i64 0) := (pe_cell BG.out).trans rfl; have y3 : w5.frozen? ⟨g15, 3, none⟩ = false := pe_free BG.out; have z4 : w5.cell? ⟨g15, 4, none⟩ = some (.int .i64 0) := (pe_cell BG.out).trans rfl; have y4 : w5.frozen? ⟨g15, 4, none⟩ = false := pe_free BG.out; have z5 : w5.cell? ⟨g15, 5, none⟩ = some (.int .i64 0) := (pe_cell BG.out).trans rfl; have y5 : w5.frozen? ⟨g15, 5, none⟩ = false := pe_free BG.out; have z6 : w5.cell? ⟨g15, 6, none⟩ = some (.bool false) := (pe_cell BG.out).trans rfl; have y6 : w5.frozen? ⟨g15, 6, none⟩ = false := pe_free BG.out; have z7 : w5.cell? ⟨g15, 7, none⟩ = some (.int .i64 0) := (pe_cell BG.out).trans rfl; have y7 : w5.frozen? ⟨g15, 7, none⟩ = false := pe_free BG.out; have z8 : w5.cell? ⟨g15, 8, none⟩ = some (.int .i64 0) := (pe_cell BG.out).trans rfl; have y8 : w5.frozen? ⟨g15, 8, none⟩ = false := pe_free BG.out; clear hb hbox hg_)
  obtain ⟨wq, hwp⟩ : ∃ x_, x_ = (((((((((w5.setCell ⟨g15, 0, none⟩ (.int .i64 pq.f0.f0)).setCell ⟨g15, 1, none⟩ (.int .i64 pq.f0.f1)).setCell ⟨g15, 2, none⟩ (.int .i64 pq.f0.f2)).setCell ⟨g15, 3, none⟩ (.int .i64 pq.f0.f3)).setCell ⟨g15, 4, none⟩ (.int .i64 pq.f0.f4)).setCell ⟨g15, 5, none⟩ (.int .i64 pq.f1)).setCell ⟨g15, 6, none⟩ (.bool pq.f2)).setCell ⟨g15, 7, none⟩ (.int .i64 pq.f3)).setCell ⟨g15, 8, none⟩ (.int .i64 pq.f4)) := ⟨_, rfl⟩
  have hbp : Below w4.heap.size w4 wq := by rw [hwp]; (with_reducible repeat (first | exact HBG.out | refine below_set ?_ GG.out))
  have hp : wq.heap[g15]? = some (.cells #[.int .i64 pq.f0.f0, .int .i64 pq.f0.f1, .int .i64 pq.f0.f2, .int .i64 pq.f0.f3, .int .i64 pq.f0.f4, .int .i64 pq.f1, .bool pq.f2, .int .i64 pq.f3, .int .i64 pq.f4] 26 (0, 0)) := by
    rw [hwp]
    refine blk_put (cs := #[.int .i64 pq.f0.f0, .int .i64 pq.f0.f1, .int .i64 pq.f0.f2, .int .i64 pq.f0.f3, .int .i64 pq.f0.f4, .int .i64 pq.f1, .bool pq.f2, .int .i64 pq.f3, .int .i64 0]) ?_ 8 _ rfl
    refine blk_put (cs := #[.int .i64 pq.f0.f0, .int .i64 pq.f0.f1, .int .i64 pq.f0.f2, .int .i64 pq.f0.f3, .int .i64 pq.f0.f4, .int .i64 pq.f1, .bool pq.f2, .int .i64 0, .int .i64 0]) ?_ 7 _ rfl
    refine blk_put (cs := #[.int .i64 pq.f0.f0, .int .i64 pq.f0.f1, .int .i64 pq.f0.f2, .int .i64 pq.f0.f3, .int .i64 pq.f0.f4, .int .i64 pq.f1, .bool false, .int .i64 0, .int .i64 0]) ?_ 6 _ rfl
    refine blk_put (cs := #[.int .i64 pq.f0.f0, .int .i64 pq.f0.f1, .int .i64 pq.f0.f2, .int .i64 pq.f0.f3, .int .i64 pq.f0.f4, .int .i64 0, .bool false, .int .i64 0, .int .i64 0]) ?_ 5 _ rfl
    refine blk_put (cs := #[.int .i64 pq.f0.f0, .int .i64 pq.f0.f1, .int .i64 pq.f0.f2, .int .i64 pq.f0.f3, .int .i64 0, .int .i64 0, .bool false, .int .i64 0, .int .i64 0]) ?_ 4 _ rfl
    refine blk_put (cs := #[.int .i64 pq.f0.f0, .int .i64 pq.f0.f1, .int .i64 pq.f0.f2, .int .i64 0, .int .i64 0, .int .i64 0, .bool false, .int .i64 0, .int .i64 0]) ?_ 3 _ rfl
    refine blk_put (cs := #[.int .i64 pq.f0.f0, .int .i64 pq.f0.f1, .int .i64 0, .int .i64 0, .int .i64 0, .int .i64 0, .bool false, .int .i64 0, .int .i64 0]) ?_ 2 _ rfl
    refine blk_put (cs := #[.int .i64 pq.f0.f0, .int .i64 0, .int .i64 0, .int .i64 0, .int .i64 0, .int .i64 0, .bool false, .int .i64 0, .int .i64 0]) ?_ 1 _ rfl
    refine blk_put (cs := #[.int .i64 0, .int .i64 0, .int .i64 0, .int .i64 0, .int .i64 0, .int .i64 0, .bool false, .int .i64 0, .int .i64 0]) ?_ 0 _ rfl
    exact BG.out
  rw [← hwp]
  clear hwp BG GG HBG z0 z1 z2 z3 z4 z5 z6 z7 z8 y0 y1 y2 y3 y4 y5 y6 y7 y8
  replace BX := Aside0.mk (BX.out.below hbp); replace RW := Aside0.mk (RW.out.below hbp); replace SP := Aside0.mk (SP.out.below hbp); replace HBT := Aside0.mk (below_step HBT.out hbp)
  replace BX := Aside0.mk (BX.out.cons hp)
  clear hbp hp
  have f0 : wq.cell? ⟨nF, 0, none⟩ = some (.int .i64 a2_0) := (pe_cell (BX.out.get 3 rfl)).trans rfl
  have f1 : wq.cell? ⟨nF, 1, none⟩ = some (.int .i64 a2_1) := (pe_cell (BX.out.get 3 rfl)).trans rfl
  have f2 : wq.cell? ⟨nF, 2, none⟩ = some (.int .i64 a2_2) := (pe_cell (BX.out.get 3 rfl)).trans rfl
  have f3 : wq.cell? ⟨nF, 3, none⟩ = some (.int .i64 a2_3) := (pe_cell (BX.out.get 3 rfl)).trans rfl
  have f4 : wq.cell? ⟨nF, 4, none⟩ = some (.int .i64 a2_4) := (pe_cell (BX.out.get 3 rfl)).trans rfl
  go_upto_region 5 with first
    | (go_at_call 8; refine (cache_Find.calls (l0.length + 1) (some ⟨g, 0, none⟩) c l0 a2_0 a2_1 a2_2 a2_3 a2_4 a3 cx.f0.f0 cx.f0.f1 cx.f0.f2 cx.f0.f3 cx.f0.f4 cx.f1 cx.f2 cx.f3 cx.f4 cb _ (RW.out.get 2 rfl) (by have := HC2.out; omega) HF1.out).mono ?_; rintro e w6 ⟨rfl, hb⟩; replace BX := Aside0.mk (BX.out.below hb); replace RW := Aside0.mk (RW.out.below hb); replace SP := Aside0.mk (SP.out.below hb); replace HBT := Aside0.mk (below_step HBT.out hb); clear f0 f1 f2 f3 f4 hb)
    | ((with_reducible refine gate_dst (N := 18) rfl ?_); refine box_event ?hg (N := 18) ?hd (cs := #[.int .i64 0, .int .i64 0, .int .i64 0, .int .i64 0, .int .i64 0, .int .i64 0, .bool false, .int .i64 0, .int .i64 0]) (t := 26) ?hr ?_; (case hd => rfl); (case hg => rfl); (case hr => first | (go_simp; done) | (go_simp; rfl)); intro g18 hg_ w7 hbox hb; have BG := Aside0.mk hbox; have GG := Aside0.mk (Nat.le_of_eq hg_.symm : w6.heap.size ≤ g18); have HBG := Aside0.mk hb; have z0 : w7.cell? ⟨g18, 0, none⟩ = some (.int .i64 0) := (pe_cell BG.out).trans rfl; have y0 : w7.frozen? ⟨g18, 0, none⟩ = false := pe_free BG.out; have z1 : w7.cell? ⟨g18, 1, none⟩ = some (.int .i64 0) := (pe_cell BG.out).trans rfl; have y1 : w7.frozen? ⟨g18, 1, none⟩ = false := pe_free BG.out; have z2 : w7.cell? ⟨g18, 2, none⟩ = some (.int .i64 0) := (pe_cell BG.out).trans rfl; have y2 : w7.frozen? ⟨g18, 2, none⟩ = false := pe_free BG.out; have z3 : w7.cell? ⟨g18, 3, none⟩ = some (.int .i64 0) := (pe_cell BG.out).trans rfl; have y3 : w7.frozen? ⟨g18, 3, none⟩ = false := pe_free BG.out; have z4 : w7.cell? ⟨g18, 4, none⟩ = some (.int .i64 0) := (pe_cell BG.out).trans rfl; have y4 : w7.frozen? ⟨g18, 4, none⟩ = false := pe_free BG.out; have z5 : w7.cell? ⟨g18, 5, none⟩ = some (.int .i64 0) := (pe_cell BG.out).trans rfl; have y5 : w7.frozen? ⟨g18, 5, none⟩ = false := pe_free BG.out; have z6 : w7.cell? ⟨g18, 6, none⟩ = some (.bool false) := (pe_cell BG.out).trans rfl; have y6 : w7.frozen? ⟨g18, 6, none⟩ = false := pe_free BG.out; have z7 : w7.cell? ⟨g18, 7, none⟩ = some (.int .i64 0) := (pe_cell BG.out).trans rfl; have y7 : w7.frozen? ⟨g18, 7, none⟩ = false := pe_free BG.out; have z8 : w7.cell? ⟨g18, 8, none⟩ = some (.int .i64 0) := (pe_cell BG.out).trans rfl; have y8 : w7.frozen? ⟨g18, 8, none⟩ = false := pe_free BG.out; clear hb hbox hg_)
  obtain ⟨wc, hwp⟩ : ∃ x_, x_ = (((((((((w7.setCell ⟨g18, 0, none⟩ (.int .i64 cx.f0.f0)).setCell ⟨g18, 1, none⟩ (.int .i64 cx.f0.f1)).setCell ⟨g18, 2, none⟩ (.int .i64 cx.f0.f2)).setCell ⟨g18, 3, none⟩ (.int .i64 cx.f0.f3)).setCell ⟨g18, 4, none⟩ (.int .i64 cx.f0.f4)).setCell ⟨g18, 5, none⟩ (.int .i64 cx.f1)).setCell ⟨g18, 6, none⟩ (.bool cx.f2)).setCell ⟨g18, 7, none⟩ (.int .i64 cx.f3)).setCell ⟨g18, 8, none⟩ (.int .i64 cx.f4)) := ⟨_, rfl⟩
  have hbp : Below w6.heap.size w6 wc := by rw [hwp]; (with_reducible repeat (first | exact HBG.out | refine below_set ?_ GG.out))
  have hp : wc.heap[g18]? = some (.cells #[.int .i64 cx.f0.f0, .int .i64 cx.f0.f1, .int .i64 cx.f0.f2, .int .i64 cx.f0.f3, .int .i64 cx.f0.f4, .int .i64 cx.f1, .bool cx.f2, .int .i64 cx.f3, .int .i64 cx.f4] 26 (0, 0)) := by
    rw [hwp]
    refine blk_put (cs := #[.int .i64 cx.f0.f0, .int .i64 cx.f0.f1, .int .i64 cx.f0.f2, .int .i64 cx.f0.f3, .int .i64 cx.f0.f4, .int .i64 cx.f1, .bool cx.f2, .int .i64 cx.f3, .int .i64 0]) ?_ 8 _ rfl
    refine blk_put (cs := #[.int .i64 cx.f0.f0, .int .i64 cx.f0.f1, .int .i64 cx.f0.f2, .int .i64 cx.f0.f3, .int .i64 cx.f0.f4, .int .i64 cx.f1, .bool cx.f2, .int .i64 0, .int .i64 0]) ?_ 7 _ rfl
    refine blk_put (cs := #[.int .i64 cx.f0.f0, .int .i64 cx.f0.f1, .int .i64 cx.f0.f2, .int .i64 cx.f0.f3, .int .i64 cx.f0.f4, .int .i64 cx.f1, .bool false, .int .i64 0, .int .i64 0]) ?_ 6 _ rfl
    refine blk_put (cs := #[.int .i64 cx.f0.f0, .int .i64 cx.f0.f1, .int .i64 cx.f0.f2, .int .i64 cx.f0.f3, .int .i64 cx.f0.f4, .int .i64 0, .bool false, .int .i64 0, .int .i64 0]) ?_ 5 _ rfl
    refine blk_put (cs := #[.int .i64 cx.f0.f0, .int .i64 cx.f0.f1, .int .i64 cx.f0.f2, .int .i64 cx.f0.f3, .int .i64 0, .int .i64 0, .bool false, .int .i64 0, .int .i64 0]) ?_ 4 _ rfl
    refine blk_put (cs := #[.int .i64 cx.f0.f0, .int .i64 cx.f0.f1, .int .i64 cx.f0.f2, .int .i64 0, .int .i64 0, .int .i64 0, .bool false, .int .i64 0, .int .i64 0]) ?_ 3 _ rfl
    refine blk_put (cs := #[.int .i64 cx.f0.f0, .int .i64 cx.f0.f1, .int .i64 0, .int .i64 0, .int .i64 0, .int .i64 0, .bool false, .int .i64 0, .int .i64 0]) ?_ 2 _ rfl
    refine blk_put (cs := #[.int .i64 cx.f0.f0, .int .i64 0, .int .i64 0, .int .i64 0, .int .i64 0, .int .i64 0, .bool false, .int .i64 0, .int .i64 0]) ?_ 1 _ rfl
    refine blk_put (cs := #[.int .i64 0, .int .i64 0, .int .i64 0, .int .i64 0, .int .i64 0, .int .i64 0, .bool false, .int .i64 0, .int .i64 0]) ?_ 0 _ rfl
    exact BG.out
  rw [← hwp]
  clear hwp BG GG HBG z0 z1 z2 z3 z4 z5 z6 z7 z8 y0 y1 y2 y3 y4 y5 y6 y7 y8
  replace BX := Aside0.mk (BX.out.below hbp); replace RW := Aside0.mk (RW.out.below hbp); replace SP := Aside0.mk (SP.out.below hbp); replace HBT := Aside0.mk (below_step HBT.out hbp)
  replace BX := Aside0.mk (BX.out.cons hp)
  clear hbp hp
  have f0 : wc.cell? ⟨nF, 0, none⟩ = some (.int .i64 a2_0) := (pe_cell (BX.out.get 4 rfl)).trans rfl
  have f1 : wc.cell? ⟨nF, 1, none⟩ = some (.int .i64 a2_1) := (pe_cell (BX.out.get 4 rfl)).trans rfl
  have f2 : wc.cell? ⟨nF, 2, none⟩ = some (.int .i64 a2_2) := (pe_cell (BX.out.get 4 rfl)).trans rfl
  have f3 : wc.cell? ⟨nF, 3, none⟩ = some (.int .i64 a2_3) := (pe_cell (BX.out.get 4 rfl)).trans rfl
  have f4 : wc.cell? ⟨nF, 4, none⟩ = some (.int .i64 a2_4) := (pe_cell (BX.out.get 4 rfl)).trans rfl
  go_upto_region 6 with first
    | (go_at_call 9; refine (wharfageref10_FindEntry.calls (l0.length * (l0.length + 2) + 1 + 4 * l0.length + 10) A0 c0 l0 a2_0 a2_1 a2_2 a2_3 a2_4 a3 cx.f0.f0 cx.f0.f1 cx.f0.f2 cx.f0.f3 cx.f0.f4 cx.f1 cx.f2 cx.f3 cx.f4 cb _ (RW.out.get 3 rfl) HC0.out HF2.out).mono ?_; rintro e w8 ⟨rfl, hb⟩; replace BX := Aside0.mk (BX.out.below hb); replace RW := Aside0.mk (RW.out.below hb); replace SP := Aside0.mk (SP.out.below hb); replace HBT := Aside0.mk (below_step HBT.out hb); clear f0 f1 f2 f3 f4 hb)
    | ((with_reducible refine gate_dst (N := 20) rfl ?_); refine box_event ?hg (N := 20) ?hd (cs := #[.int .i64 0, .int .i64 0, .int .i64 0, .int .i64 0, .int .i64 0, .int .i64 0, .bool false, .int .i64 0, .int .i64 0]) (t := 26) ?hr ?_; (case hd => rfl); (case hg => rfl); (case hr => first | (go_simp; done) | (go_simp; rfl)); intro g20 hg_ w9 hbox hb; have BG := Aside0.mk hbox; have GG := Aside0.mk (Nat.le_of_eq hg_.symm : w8.heap.size ≤ g20); have HBG := Aside0.mk hb; have z0 : w9.cell? ⟨g20, 0, none⟩ = some (.int .i64 0) := (pe_cell BG.out).trans rfl; have y0 : w9.frozen? ⟨g20, 0, none⟩ = false := pe_free BG.out; have z1 : w9.cell? ⟨g20, 1, none⟩ = some (.int .i64 0) := (pe_cell BG.out).trans rfl; have y1 : w9.frozen? ⟨g20, 1, none⟩ = false := pe_free BG.out; have z2 : w9.cell? ⟨g20, 2, none⟩ = some (.int .i64 0) := (pe_cell BG.out).trans rfl; have y2 : w9.frozen? ⟨g20, 2, none⟩ = false := pe_free BG.out; have z3 : w9.cell? ⟨g20, 3, none⟩ = some (.int .i64 0) := (pe_cell BG.out).trans rfl; have y3 : w9.frozen? ⟨g20, 3, none⟩ = false := pe_free BG.out; have z4 : w9.cell? ⟨g20, 4, none⟩ = some (.int .i64 0) := (pe_cell BG.out).trans rfl; have y4 : w9.frozen? ⟨g20, 4, none⟩ = false := pe_free BG.out; have z5 : w9.cell? ⟨g20, 5, none⟩ = some (.int .i64 0) := (pe_cell BG.out).trans rfl; have y5 : w9.frozen? ⟨g20, 5, none⟩ = false := pe_free BG.out; have z6 : w9.cell? ⟨g20, 6, none⟩ = some (.bool false) := (pe_cell BG.out).trans rfl; have y6 : w9.frozen? ⟨g20, 6, none⟩ = false := pe_free BG.out; have z7 : w9.cell? ⟨g20, 7, none⟩ = some (.int .i64 0) := (pe_cell BG.out).trans rfl; have y7 : w9.frozen? ⟨g20, 7, none⟩ = false := pe_free BG.out; have z8 : w9.cell? ⟨g20, 8, none⟩ = some (.int .i64 0) := (pe_cell BG.out).trans rfl; have y8 : w9.frozen? ⟨g20, 8, none⟩ = false := pe_free BG.out; clear hb hbox hg_)
  obtain ⟨wd, hwp⟩ : ∃ x_, x_ = (((((((((w9.setCell ⟨g20, 0, none⟩ (.int .i64 cx.f0.f0)).setCell ⟨g20, 1, none⟩ (.int .i64 cx.f0.f1)).setCell ⟨g20, 2, none⟩ (.int .i64 cx.f0.f2)).setCell ⟨g20, 3, none⟩ (.int .i64 cx.f0.f3)).setCell ⟨g20, 4, none⟩ (.int .i64 cx.f0.f4)).setCell ⟨g20, 5, none⟩ (.int .i64 cx.f1)).setCell ⟨g20, 6, none⟩ (.bool cx.f2)).setCell ⟨g20, 7, none⟩ (.int .i64 cx.f3)).setCell ⟨g20, 8, none⟩ (.int .i64 cx.f4)) := ⟨_, rfl⟩
  have hbp : Below w8.heap.size w8 wd := by rw [hwp]; (with_reducible repeat (first | exact HBG.out | refine below_set ?_ GG.out))
  have hp : wd.heap[g20]? = some (.cells #[.int .i64 cx.f0.f0, .int .i64 cx.f0.f1, .int .i64 cx.f0.f2, .int .i64 cx.f0.f3, .int .i64 cx.f0.f4, .int .i64 cx.f1, .bool cx.f2, .int .i64 cx.f3, .int .i64 cx.f4] 26 (0, 0)) := by
    rw [hwp]
    refine blk_put (cs := #[.int .i64 cx.f0.f0, .int .i64 cx.f0.f1, .int .i64 cx.f0.f2, .int .i64 cx.f0.f3, .int .i64 cx.f0.f4, .int .i64 cx.f1, .bool cx.f2, .int .i64 cx.f3, .int .i64 0]) ?_ 8 _ rfl
    refine blk_put (cs := #[.int .i64 cx.f0.f0, .int .i64 cx.f0.f1, .int .i64 cx.f0.f2, .int .i64 cx.f0.f3, .int .i64 cx.f0.f4, .int .i64 cx.f1, .bool cx.f2, .int .i64 0, .int .i64 0]) ?_ 7 _ rfl
    refine blk_put (cs := #[.int .i64 cx.f0.f0, .int .i64 cx.f0.f1, .int .i64 cx.f0.f2, .int .i64 cx.f0.f3, .int .i64 cx.f0.f4, .int .i64 cx.f1, .bool false, .int .i64 0, .int .i64 0]) ?_ 6 _ rfl
    refine blk_put (cs := #[.int .i64 cx.f0.f0, .int .i64 cx.f0.f1, .int .i64 cx.f0.f2, .int .i64 cx.f0.f3, .int .i64 cx.f0.f4, .int .i64 0, .bool false, .int .i64 0, .int .i64 0]) ?_ 5 _ rfl
    refine blk_put (cs := #[.int .i64 cx.f0.f0, .int .i64 cx.f0.f1, .int .i64 cx.f0.f2, .int .i64 cx.f0.f3, .int .i64 0, .int .i64 0, .bool false, .int .i64 0, .int .i64 0]) ?_ 4 _ rfl
    refine blk_put (cs := #[.int .i64 cx.f0.f0, .int .i64 cx.f0.f1, .int .i64 cx.f0.f2, .int .i64 0, .int .i64 0, .int .i64 0, .bool false, .int .i64 0, .int .i64 0]) ?_ 3 _ rfl
    refine blk_put (cs := #[.int .i64 cx.f0.f0, .int .i64 cx.f0.f1, .int .i64 0, .int .i64 0, .int .i64 0, .int .i64 0, .bool false, .int .i64 0, .int .i64 0]) ?_ 2 _ rfl
    refine blk_put (cs := #[.int .i64 cx.f0.f0, .int .i64 0, .int .i64 0, .int .i64 0, .int .i64 0, .int .i64 0, .bool false, .int .i64 0, .int .i64 0]) ?_ 1 _ rfl
    refine blk_put (cs := #[.int .i64 0, .int .i64 0, .int .i64 0, .int .i64 0, .int .i64 0, .int .i64 0, .bool false, .int .i64 0, .int .i64 0]) ?_ 0 _ rfl
    exact BG.out
  rw [← hwp]
  clear hwp BG GG HBG z0 z1 z2 z3 z4 z5 z6 z7 z8 y0 y1 y2 y3 y4 y5 y6 y7 y8
  replace BX := Aside0.mk (BX.out.below hbp); replace RW := Aside0.mk (RW.out.below hbp); replace SP := Aside0.mk (SP.out.below hbp); replace HBT := Aside0.mk (below_step HBT.out hbp)
  replace BX := Aside0.mk (BX.out.cons hp)
  clear hbp hp
  have f0 : wd.cell? ⟨nF, 0, none⟩ = some (.int .i64 a2_0) := (pe_cell (BX.out.get 5 rfl)).trans rfl
  have f1 : wd.cell? ⟨nF, 1, none⟩ = some (.int .i64 a2_1) := (pe_cell (BX.out.get 5 rfl)).trans rfl
  have f2 : wd.cell? ⟨nF, 2, none⟩ = some (.int .i64 a2_2) := (pe_cell (BX.out.get 5 rfl)).trans rfl
  have f3 : wd.cell? ⟨nF, 3, none⟩ = some (.int .i64 a2_3) := (pe_cell (BX.out.get 5 rfl)).trans rfl
  have f4 : wd.cell? ⟨nF, 4, none⟩ = some (.int .i64 a2_4) := (pe_cell (BX.out.get 5 rfl)).trans rfl
  go_upto_region 10 with first
    | (go_at_call 10; refine (cache_Drop.calls (l0.length + 1) (some ⟨g, 0, none⟩) c l0 a2_0 a2_1 a2_2 a2_3 a2_4 dr de _ (RW.out.get 2 rfl) (by have := HC2.out; omega) HD.out).mono ?_; rintro e w10 ⟨vx, rfl, ho, hb⟩; have hsp := Spo.of (Kd.Q_of_R ho) (below_size HBT.out) (by have := HDL.out; have := HL.out; omega); obtain ⟨Ax, cx_, rfl⟩ := Kd.R_slice ho; replace BX := Aside0.mk (BX.out.below hb); replace RW := Aside0.mk (RW.out.below hb); replace SP := Aside0.mk (SP.out.below hb); replace HBT := Aside0.mk (below_step HBT.out hb); have CAx := Aside0.mk (Kd.R_reads' ho).2.1; replace RW := Aside0.mk (RW.out.cons (Kd.R_reads' ho).2.2); replace SP := Aside0.mk (SP.out.cons hsp); clear f0 f1 f2 f3 f4 ho hsp; have f0 : w10.cell? ⟨nF, 0, none⟩ = some (.int .i64 a2_0) := (pe_cell (BX.out.get 5 rfl)).trans rfl; have f1 : w10.cell? ⟨nF, 1, none⟩ = some (.int .i64 a2_1) := (pe_cell (BX.out.get 5 rfl)).trans rfl; have f2 : w10.cell? ⟨nF, 2, none⟩ = some (.int .i64 a2_2) := (pe_cell (BX.out.get 5 rfl)).trans rfl; have f3 : w10.cell? ⟨nF, 3, none⟩ = some (.int .i64 a2_3) := (pe_cell (BX.out.get 5 rfl)).trans rfl; have f4 : w10.cell? ⟨nF, 4, none⟩ = some (.int .i64 a2_4) := (pe_cell (BX.out.get 5 rfl)).trans rfl; clear hb)
    | (go_at_call 11; refine (wharfageref10_DropEntry.calls (l0.length * (l0.length + 2) + 1 + 4 * l0.length + 10) A0 c0 l0 a2_0 a2_1 a2_2 a2_3 a2_4 dr de _ (RW.out.get 4 rfl) HC0.out ((CcLaw.ddrop l0 (⟨a2_0, a2_1, a2_2, a2_3, a2_4⟩ : S24) _ (by omega) (by have := HL.out; omega)).trans HD.out)).mono ?_; rintro e w11 ⟨vy, rfl, ho, hb⟩; obtain ⟨Ay, cy_, rfl⟩ := Kd.R_slice ho; replace BX := Aside0.mk (BX.out.below hb); replace RW := Aside0.mk (RW.out.below hb); replace SP := Aside0.mk (SP.out.below hb); replace HBT := Aside0.mk (below_step HBT.out hb); have CAy := Aside0.mk (Kd.R_reads' ho).2.1; replace RW := Aside0.mk (RW.out.cons (Kd.R_reads' ho).2.2); clear f0 f1 f2 f3 f4 ho hb)
    | (go_at_call 12; refine (cache_Sweep.calls (l0.length + 1) (some ⟨g, 0, none⟩) c l0 a3 sr tr se _ (RW.out.get 4 rfl) (by have := HC2.out; omega) HS1.out).mono ?_; rintro e w12 ⟨vs, vt, rfl, ho, ho2, hb⟩; have hsp := Spo.of (Kd.Q_of_R ho) (below_size HBT.out) (by have := HSL.out; have := HL.out; omega); have hsp2 := Spo.of (Kd.Q_of_R ho2) (below_size HBT.out) (by have := HSL.out; have := HL.out; omega); obtain ⟨As, cs_, rfl⟩ := Kd.R_slice ho; obtain ⟨At, ct_, rfl⟩ := Kd.R_slice ho2; replace BX := Aside0.mk (BX.out.below hb); replace RW := Aside0.mk (RW.out.below hb); replace SP := Aside0.mk (SP.out.below hb); replace HBT := Aside0.mk (below_step HBT.out hb); have CAs := Aside0.mk (Kd.R_reads' ho).2.1; replace RW := Aside0.mk (RW.out.cons (Kd.R_reads' ho).2.2); have CAt := Aside0.mk (Kd.R_reads' ho2).2.1; replace RW := Aside0.mk (RW.out.cons (Kd.R_reads' ho2).2.2); replace SP := Aside0.mk ((SP.out.cons hsp).cons hsp2); clear ho ho2 hsp hsp2 hb)
    | (go_at_call 13; refine (wharfageref10_SweepEntries.calls (l0.length * (l0.length + 2) + 1 + 4 * l0.length + 10) A0 c0 l0 a3 sr tr se _ (RW.out.get 7 rfl) HC0.out HS2.out).mono ?_; rintro e w13 ⟨vu, vv, rfl, ho, ho2, hb⟩; obtain ⟨Au, cu_, rfl⟩ := Kd.R_slice ho; obtain ⟨Av, cv_, rfl⟩ := Kd.R_slice ho2; replace BX := Aside0.mk (BX.out.below hb); replace RW := Aside0.mk (RW.out.below hb); replace SP := Aside0.mk (SP.out.below hb); replace HBT := Aside0.mk (below_step HBT.out hb); have CAu := Aside0.mk (Kd.R_reads' ho).2.1; replace RW := Aside0.mk (RW.out.cons (Kd.R_reads' ho).2.2); have CAv := Aside0.mk (Kd.R_reads' ho2).2.1; replace RW := Aside0.mk (RW.out.cons (Kd.R_reads' ho2).2.2); clear ho ho2 hb)
  have kd0 : w13.cell? ⟨g20, 0, none⟩ = some (.int .i64 cx.f0.f0) := (pe_cell (BX.out.get 0 rfl)).trans rfl
  have kd1 : w13.cell? ⟨g20, 1, none⟩ = some (.int .i64 cx.f0.f1) := (pe_cell (BX.out.get 0 rfl)).trans rfl
  have kd2 : w13.cell? ⟨g20, 2, none⟩ = some (.int .i64 cx.f0.f2) := (pe_cell (BX.out.get 0 rfl)).trans rfl
  have kd3 : w13.cell? ⟨g20, 3, none⟩ = some (.int .i64 cx.f0.f3) := (pe_cell (BX.out.get 0 rfl)).trans rfl
  have kd4 : w13.cell? ⟨g20, 4, none⟩ = some (.int .i64 cx.f0.f4) := (pe_cell (BX.out.get 0 rfl)).trans rfl
  have kd5 : w13.cell? ⟨g20, 5, none⟩ = some (.int .i64 cx.f1) := (pe_cell (BX.out.get 0 rfl)).trans rfl
  have kd6 : w13.cell? ⟨g20, 6, none⟩ = some (.bool cx.f2) := (pe_cell (BX.out.get 0 rfl)).trans rfl
  have kd7 : w13.cell? ⟨g20, 7, none⟩ = some (.int .i64 cx.f3) := (pe_cell (BX.out.get 0 rfl)).trans rfl
  have kd8 : w13.cell? ⟨g20, 8, none⟩ = some (.int .i64 cx.f4) := (pe_cell (BX.out.get 0 rfl)).trans rfl
  have kc0 : w13.cell? ⟨g18, 0, none⟩ = some (.int .i64 cx.f0.f0) := (pe_cell (BX.out.get 1 rfl)).trans rfl
  have kc1 : w13.cell? ⟨g18, 1, none⟩ = some (.int .i64 cx.f0.f1) := (pe_cell (BX.out.get 1 rfl)).trans rfl
  have kc2 : w13.cell? ⟨g18, 2, none⟩ = some (.int .i64 cx.f0.f2) := (pe_cell (BX.out.get 1 rfl)).trans rfl
  have kc3 : w13.cell? ⟨g18, 3, none⟩ = some (.int .i64 cx.f0.f3) := (pe_cell (BX.out.get 1 rfl)).trans rfl
  have kc4 : w13.cell? ⟨g18, 4, none⟩ = some (.int .i64 cx.f0.f4) := (pe_cell (BX.out.get 1 rfl)).trans rfl
  have kc5 : w13.cell? ⟨g18, 5, none⟩ = some (.int .i64 cx.f1) := (pe_cell (BX.out.get 1 rfl)).trans rfl
  have kc6 : w13.cell? ⟨g18, 6, none⟩ = some (.bool cx.f2) := (pe_cell (BX.out.get 1 rfl)).trans rfl
  have kc7 : w13.cell? ⟨g18, 7, none⟩ = some (.int .i64 cx.f3) := (pe_cell (BX.out.get 1 rfl)).trans rfl
  have kc8 : w13.cell? ⟨g18, 8, none⟩ = some (.int .i64 cx.f4) := (pe_cell (BX.out.get 1 rfl)).trans rfl
  have kq0 : w13.cell? ⟨g15, 0, none⟩ = some (.int .i64 pq.f0.f0) := (pe_cell (BX.out.get 2 rfl)).trans rfl
  have kq1 : w13.cell? ⟨g15, 1, none⟩ = some (.int .i64 pq.f0.f1) := (pe_cell (BX.out.get 2 rfl)).trans rfl
  have kq2 : w13.cell? ⟨g15, 2, none⟩ = some (.int .i64 pq.f0.f2) := (pe_cell (BX.out.get 2 rfl)).trans rfl
  have kq3 : w13.cell? ⟨g15, 3, none⟩ = some (.int .i64 pq.f0.f3) := (pe_cell (BX.out.get 2 rfl)).trans rfl
  have kq4 : w13.cell? ⟨g15, 4, none⟩ = some (.int .i64 pq.f0.f4) := (pe_cell (BX.out.get 2 rfl)).trans rfl
  have kq5 : w13.cell? ⟨g15, 5, none⟩ = some (.int .i64 pq.f1) := (pe_cell (BX.out.get 2 rfl)).trans rfl
  have kq6 : w13.cell? ⟨g15, 6, none⟩ = some (.bool pq.f2) := (pe_cell (BX.out.get 2 rfl)).trans rfl
  have kq7 : w13.cell? ⟨g15, 7, none⟩ = some (.int .i64 pq.f3) := (pe_cell (BX.out.get 2 rfl)).trans rfl
  have kq8 : w13.cell? ⟨g15, 8, none⟩ = some (.int .i64 pq.f4) := (pe_cell (BX.out.get 2 rfl)).trans rfl
  have kp0 : w13.cell? ⟨g11, 0, none⟩ = some (.int .i64 pq.f0.f0) := (pe_cell (BX.out.get 3 rfl)).trans rfl
  have kp1 : w13.cell? ⟨g11, 1, none⟩ = some (.int .i64 pq.f0.f1) := (pe_cell (BX.out.get 3 rfl)).trans rfl
  have kp2 : w13.cell? ⟨g11, 2, none⟩ = some (.int .i64 pq.f0.f2) := (pe_cell (BX.out.get 3 rfl)).trans rfl
  have kp3 : w13.cell? ⟨g11, 3, none⟩ = some (.int .i64 pq.f0.f3) := (pe_cell (BX.out.get 3 rfl)).trans rfl
  have kp4 : w13.cell? ⟨g11, 4, none⟩ = some (.int .i64 pq.f0.f4) := (pe_cell (BX.out.get 3 rfl)).trans rfl
  have kp5 : w13.cell? ⟨g11, 5, none⟩ = some (.int .i64 pq.f1) := (pe_cell (BX.out.get 3 rfl)).trans rfl
  have kp6 : w13.cell? ⟨g11, 6, none⟩ = some (.bool pq.f2) := (pe_cell (BX.out.get 3 rfl)).trans rfl
  have kp7 : w13.cell? ⟨g11, 7, none⟩ = some (.int .i64 pq.f3) := (pe_cell (BX.out.get 3 rfl)).trans rfl
  have kp8 : w13.cell? ⟨g11, 8, none⟩ = some (.int .i64 pq.f4) := (pe_cell (BX.out.get 3 rfl)).trans rfl
  have F0 := Aside0.mk trivial
  have F1 := Aside0.mk trivial
  have F2 := Aside0.mk trivial
  have F3 := Aside0.mk trivial
  have F4 := Aside0.mk trivial
  have F5 := Aside0.mk trivial
  have F6 := Aside0.mk trivial
  go_upto_region 12 with first
    | (go_at_call 14; clear F0; refine (wharfagelaw0_SameEntrys.calls (r1.length + 1) Aa ca r1 Ab cb_ r1 true _ (RW.out.get 7 rfl) CAa.out (RW.out.get 6 rfl) CAb.out (CcLaw.same_f r1 _ (by omega) (by have := HL.out; have := HPL.out; omega))).mono ?_; rintro e ws1 ⟨rfl, hn⟩; have hb := Go.Proofs.Ytiidegomccifaaa.Hand.hk_drawn hn; clear hn; replace BX := Aside0.mk (BX.out.below hb); replace RW := Aside0.mk (RW.out.below hb); replace SP := Aside0.mk (SP.out.below hb); replace HBT := Aside0.mk (below_step HBT.out hb); clear kd0 kd1 kd2 kd3 kd4 kd5 kd6 kd7 kd8 kc0 kc1 kc2 kc3 kc4 kc5 kc6 kc7 kc8 kq0 kq1 kq2 kq3 kq4 kq5 kq6 kq7 kq8 kp0 kp1 kp2 kp3 kp4 kp5 kp6 kp7 kp8; have kd0 : ws1.cell? ⟨g20, 0, none⟩ = some (.int .i64 cx.f0.f0) := (pe_cell (BX.out.get 0 rfl)).trans rfl; have kd1 : ws1.cell? ⟨g20, 1, none⟩ = some (.int .i64 cx.f0.f1) := (pe_cell (BX.out.get 0 rfl)).trans rfl; have kd2 : ws1.cell? ⟨g20, 2, none⟩ = some (.int .i64 cx.f0.f2) := (pe_cell (BX.out.get 0 rfl)).trans rfl; have kd3 : ws1.cell? ⟨g20, 3, none⟩ = some (.int .i64 cx.f0.f3) := (pe_cell (BX.out.get 0 rfl)).trans rfl; have kd4 : ws1.cell? ⟨g20, 4, none⟩ = some (.int .i64 cx.f0.f4) := (pe_cell (BX.out.get 0 rfl)).trans rfl; have kd5 : ws1.cell? ⟨g20, 5, none⟩ = some (.int .i64 cx.f1) := (pe_cell (BX.out.get 0 rfl)).trans rfl; have kd6 : ws1.cell? ⟨g20, 6, none⟩ = some (.bool cx.f2) := (pe_cell (BX.out.get 0 rfl)).trans rfl; have kd7 : ws1.cell? ⟨g20, 7, none⟩ = some (.int .i64 cx.f3) := (pe_cell (BX.out.get 0 rfl)).trans rfl; have kd8 : ws1.cell? ⟨g20, 8, none⟩ = some (.int .i64 cx.f4) := (pe_cell (BX.out.get 0 rfl)).trans rfl; have kc0 : ws1.cell? ⟨g18, 0, none⟩ = some (.int .i64 cx.f0.f0) := (pe_cell (BX.out.get 1 rfl)).trans rfl; have kc1 : ws1.cell? ⟨g18, 1, none⟩ = some (.int .i64 cx.f0.f1) := (pe_cell (BX.out.get 1 rfl)).trans rfl; have kc2 : ws1.cell? ⟨g18, 2, none⟩ = some (.int .i64 cx.f0.f2) := (pe_cell (BX.out.get 1 rfl)).trans rfl; have kc3 : ws1.cell? ⟨g18, 3, none⟩ = some (.int .i64 cx.f0.f3) := (pe_cell (BX.out.get 1 rfl)).trans rfl; have kc4 : ws1.cell? ⟨g18, 4, none⟩ = some (.int .i64 cx.f0.f4) := (pe_cell (BX.out.get 1 rfl)).trans rfl; have kc5 : ws1.cell? ⟨g18, 5, none⟩ = some (.int .i64 cx.f1) := (pe_cell (BX.out.get 1 rfl)).trans rfl; have kc6 : ws1.cell? ⟨g18, 6, none⟩ = some (.bool cx.f2) := (pe_cell (BX.out.get 1 rfl)).trans rfl; have kc7 : ws1.cell? ⟨g18, 7, none⟩ = some (.int .i64 cx.f3) := (pe_cell (BX.out.get 1 rfl)).trans rfl; have kc8 : ws1.cell? ⟨g18, 8, none⟩ = some (.int .i64 cx.f4) := (pe_cell (BX.out.get 1 rfl)).trans rfl; have kq0 : ws1.cell? ⟨g15, 0, none⟩ = some (.int .i64 pq.f0.f0) := (pe_cell (BX.out.get 2 rfl)).trans rfl; have kq1 : ws1.cell? ⟨g15, 1, none⟩ = some (.int .i64 pq.f0.f1) := (pe_cell (BX.out.get 2 rfl)).trans rfl; have kq2 : ws1.cell? ⟨g15, 2, none⟩ = some (.int .i64 pq.f0.f2) := (pe_cell (BX.out.get 2 rfl)).trans rfl; have kq3 : ws1.cell? ⟨g15, 3, none⟩ = some (.int .i64 pq.f0.f3) := (pe_cell (BX.out.get 2 rfl)).trans rfl; have kq4 : ws1.cell? ⟨g15, 4, none⟩ = some (.int .i64 pq.f0.f4) := (pe_cell (BX.out.get 2 rfl)).trans rfl; have kq5 : ws1.cell? ⟨g15, 5, none⟩ = some (.int .i64 pq.f1) := (pe_cell (BX.out.get 2 rfl)).trans rfl; have kq6 : ws1.cell? ⟨g15, 6, none⟩ = some (.bool pq.f2) := (pe_cell (BX.out.get 2 rfl)).trans rfl; have kq7 : ws1.cell? ⟨g15, 7, none⟩ = some (.int .i64 pq.f3) := (pe_cell (BX.out.get 2 rfl)).trans rfl; have kq8 : ws1.cell? ⟨g15, 8, none⟩ = some (.int .i64 pq.f4) := (pe_cell (BX.out.get 2 rfl)).trans rfl; have kp0 : ws1.cell? ⟨g11, 0, none⟩ = some (.int .i64 pq.f0.f0) := (pe_cell (BX.out.get 3 rfl)).trans rfl; have kp1 : ws1.cell? ⟨g11, 1, none⟩ = some (.int .i64 pq.f0.f1) := (pe_cell (BX.out.get 3 rfl)).trans rfl; have kp2 : ws1.cell? ⟨g11, 2, none⟩ = some (.int .i64 pq.f0.f2) := (pe_cell (BX.out.get 3 rfl)).trans rfl; have kp3 : ws1.cell? ⟨g11, 3, none⟩ = some (.int .i64 pq.f0.f3) := (pe_cell (BX.out.get 3 rfl)).trans rfl; have kp4 : ws1.cell? ⟨g11, 4, none⟩ = some (.int .i64 pq.f0.f4) := (pe_cell (BX.out.get 3 rfl)).trans rfl; have kp5 : ws1.cell? ⟨g11, 5, none⟩ = some (.int .i64 pq.f1) := (pe_cell (BX.out.get 3 rfl)).trans rfl; have kp6 : ws1.cell? ⟨g11, 6, none⟩ = some (.bool pq.f2) := (pe_cell (BX.out.get 3 rfl)).trans rfl; have kp7 : ws1.cell? ⟨g11, 7, none⟩ = some (.int .i64 pq.f3) := (pe_cell (BX.out.get 3 rfl)).trans rfl; have kp8 : ws1.cell? ⟨g11, 8, none⟩ = some (.int .i64 pq.f4) := (pe_cell (BX.out.get 3 rfl)).trans rfl; clear hb)
    | (go_at_call 15; refine (wharfagelaw0_Num.calls _ _ _ rfl).mono ?_; rintro e wn ⟨rfl, hn⟩; have hb := Go.Proofs.Ytiidegomccifaaa.Hand.hk_drawn hn; clear hn; replace BX := Aside0.mk (BX.out.below hb); replace RW := Aside0.mk (RW.out.below hb); replace SP := Aside0.mk (SP.out.below hb); replace HBT := Aside0.mk (below_step HBT.out hb); clear kd0 kd1 kd2 kd3 kd4 kd5 kd6 kd7 kd8 kc0 kc1 kc2 kc3 kc4 kc5 kc6 kc7 kc8 kq0 kq1 kq2 kq3 kq4 kq5 kq6 kq7 kq8 kp0 kp1 kp2 kp3 kp4 kp5 kp6 kp7 kp8; have kd0 : wn.cell? ⟨g20, 0, none⟩ = some (.int .i64 cx.f0.f0) := (pe_cell (BX.out.get 0 rfl)).trans rfl; have kd1 : wn.cell? ⟨g20, 1, none⟩ = some (.int .i64 cx.f0.f1) := (pe_cell (BX.out.get 0 rfl)).trans rfl; have kd2 : wn.cell? ⟨g20, 2, none⟩ = some (.int .i64 cx.f0.f2) := (pe_cell (BX.out.get 0 rfl)).trans rfl; have kd3 : wn.cell? ⟨g20, 3, none⟩ = some (.int .i64 cx.f0.f3) := (pe_cell (BX.out.get 0 rfl)).trans rfl; have kd4 : wn.cell? ⟨g20, 4, none⟩ = some (.int .i64 cx.f0.f4) := (pe_cell (BX.out.get 0 rfl)).trans rfl; have kd5 : wn.cell? ⟨g20, 5, none⟩ = some (.int .i64 cx.f1) := (pe_cell (BX.out.get 0 rfl)).trans rfl; have kd6 : wn.cell? ⟨g20, 6, none⟩ = some (.bool cx.f2) := (pe_cell (BX.out.get 0 rfl)).trans rfl; have kd7 : wn.cell? ⟨g20, 7, none⟩ = some (.int .i64 cx.f3) := (pe_cell (BX.out.get 0 rfl)).trans rfl; have kd8 : wn.cell? ⟨g20, 8, none⟩ = some (.int .i64 cx.f4) := (pe_cell (BX.out.get 0 rfl)).trans rfl; have kc0 : wn.cell? ⟨g18, 0, none⟩ = some (.int .i64 cx.f0.f0) := (pe_cell (BX.out.get 1 rfl)).trans rfl; have kc1 : wn.cell? ⟨g18, 1, none⟩ = some (.int .i64 cx.f0.f1) := (pe_cell (BX.out.get 1 rfl)).trans rfl; have kc2 : wn.cell? ⟨g18, 2, none⟩ = some (.int .i64 cx.f0.f2) := (pe_cell (BX.out.get 1 rfl)).trans rfl; have kc3 : wn.cell? ⟨g18, 3, none⟩ = some (.int .i64 cx.f0.f3) := (pe_cell (BX.out.get 1 rfl)).trans rfl; have kc4 : wn.cell? ⟨g18, 4, none⟩ = some (.int .i64 cx.f0.f4) := (pe_cell (BX.out.get 1 rfl)).trans rfl; have kc5 : wn.cell? ⟨g18, 5, none⟩ = some (.int .i64 cx.f1) := (pe_cell (BX.out.get 1 rfl)).trans rfl; have kc6 : wn.cell? ⟨g18, 6, none⟩ = some (.bool cx.f2) := (pe_cell (BX.out.get 1 rfl)).trans rfl; have kc7 : wn.cell? ⟨g18, 7, none⟩ = some (.int .i64 cx.f3) := (pe_cell (BX.out.get 1 rfl)).trans rfl; have kc8 : wn.cell? ⟨g18, 8, none⟩ = some (.int .i64 cx.f4) := (pe_cell (BX.out.get 1 rfl)).trans rfl; have kq0 : wn.cell? ⟨g15, 0, none⟩ = some (.int .i64 pq.f0.f0) := (pe_cell (BX.out.get 2 rfl)).trans rfl; have kq1 : wn.cell? ⟨g15, 1, none⟩ = some (.int .i64 pq.f0.f1) := (pe_cell (BX.out.get 2 rfl)).trans rfl; have kq2 : wn.cell? ⟨g15, 2, none⟩ = some (.int .i64 pq.f0.f2) := (pe_cell (BX.out.get 2 rfl)).trans rfl; have kq3 : wn.cell? ⟨g15, 3, none⟩ = some (.int .i64 pq.f0.f3) := (pe_cell (BX.out.get 2 rfl)).trans rfl; have kq4 : wn.cell? ⟨g15, 4, none⟩ = some (.int .i64 pq.f0.f4) := (pe_cell (BX.out.get 2 rfl)).trans rfl; have kq5 : wn.cell? ⟨g15, 5, none⟩ = some (.int .i64 pq.f1) := (pe_cell (BX.out.get 2 rfl)).trans rfl; have kq6 : wn.cell? ⟨g15, 6, none⟩ = some (.bool pq.f2) := (pe_cell (BX.out.get 2 rfl)).trans rfl; have kq7 : wn.cell? ⟨g15, 7, none⟩ = some (.int .i64 pq.f3) := (pe_cell (BX.out.get 2 rfl)).trans rfl; have kq8 : wn.cell? ⟨g15, 8, none⟩ = some (.int .i64 pq.f4) := (pe_cell (BX.out.get 2 rfl)).trans rfl; have kp0 : wn.cell? ⟨g11, 0, none⟩ = some (.int .i64 pq.f0.f0) := (pe_cell (BX.out.get 3 rfl)).trans rfl; have kp1 : wn.cell? ⟨g11, 1, none⟩ = some (.int .i64 pq.f0.f1) := (pe_cell (BX.out.get 3 rfl)).trans rfl; have kp2 : wn.cell? ⟨g11, 2, none⟩ = some (.int .i64 pq.f0.f2) := (pe_cell (BX.out.get 3 rfl)).trans rfl; have kp3 : wn.cell? ⟨g11, 3, none⟩ = some (.int .i64 pq.f0.f3) := (pe_cell (BX.out.get 3 rfl)).trans rfl; have kp4 : wn.cell? ⟨g11, 4, none⟩ = some (.int .i64 pq.f0.f4) := (pe_cell (BX.out.get 3 rfl)).trans rfl; have kp5 : wn.cell? ⟨g11, 5, none⟩ = some (.int .i64 pq.f1) := (pe_cell (BX.out.get 3 rfl)).trans rfl; have kp6 : wn.cell? ⟨g11, 6, none⟩ = some (.bool pq.f2) := (pe_cell (BX.out.get 3 rfl)).trans rfl; have kp7 : wn.cell? ⟨g11, 7, none⟩ = some (.int .i64 pq.f3) := (pe_cell (BX.out.get 3 rfl)).trans rfl; have kp8 : wn.cell? ⟨g11, 8, none⟩ = some (.int .i64 pq.f4) := (pe_cell (BX.out.get 3 rfl)).trans rfl; clear hb)
    | (go_at_call 14; clear F1; refine (wharfagelaw0_SameEntrys.calls (dr.length + 1) Ax cx_ dr Ay cy_ dr true _ (RW.out.get 5 rfl) CAx.out (RW.out.get 4 rfl) CAy.out (CcLaw.same_f dr _ (by omega) (by have := HL.out; have := HDL.out; omega))).mono ?_; rintro e ws2 ⟨rfl, hn⟩; have hb := Go.Proofs.Ytiidegomccifaaa.Hand.hk_drawn hn; clear hn; replace BX := Aside0.mk (BX.out.below hb); replace RW := Aside0.mk (RW.out.below hb); replace SP := Aside0.mk (SP.out.below hb); replace HBT := Aside0.mk (below_step HBT.out hb); clear kd0 kd1 kd2 kd3 kd4 kd5 kd6 kd7 kd8 kc0 kc1 kc2 kc3 kc4 kc5 kc6 kc7 kc8 kq0 kq1 kq2 kq3 kq4 kq5 kq6 kq7 kq8 kp0 kp1 kp2 kp3 kp4 kp5 kp6 kp7 kp8; have kd0 : ws2.cell? ⟨g20, 0, none⟩ = some (.int .i64 cx.f0.f0) := (pe_cell (BX.out.get 0 rfl)).trans rfl; have kd1 : ws2.cell? ⟨g20, 1, none⟩ = some (.int .i64 cx.f0.f1) := (pe_cell (BX.out.get 0 rfl)).trans rfl; have kd2 : ws2.cell? ⟨g20, 2, none⟩ = some (.int .i64 cx.f0.f2) := (pe_cell (BX.out.get 0 rfl)).trans rfl; have kd3 : ws2.cell? ⟨g20, 3, none⟩ = some (.int .i64 cx.f0.f3) := (pe_cell (BX.out.get 0 rfl)).trans rfl; have kd4 : ws2.cell? ⟨g20, 4, none⟩ = some (.int .i64 cx.f0.f4) := (pe_cell (BX.out.get 0 rfl)).trans rfl; have kd5 : ws2.cell? ⟨g20, 5, none⟩ = some (.int .i64 cx.f1) := (pe_cell (BX.out.get 0 rfl)).trans rfl; have kd6 : ws2.cell? ⟨g20, 6, none⟩ = some (.bool cx.f2) := (pe_cell (BX.out.get 0 rfl)).trans rfl; have kd7 : ws2.cell? ⟨g20, 7, none⟩ = some (.int .i64 cx.f3) := (pe_cell (BX.out.get 0 rfl)).trans rfl; have kd8 : ws2.cell? ⟨g20, 8, none⟩ = some (.int .i64 cx.f4) := (pe_cell (BX.out.get 0 rfl)).trans rfl; have kc0 : ws2.cell? ⟨g18, 0, none⟩ = some (.int .i64 cx.f0.f0) := (pe_cell (BX.out.get 1 rfl)).trans rfl; have kc1 : ws2.cell? ⟨g18, 1, none⟩ = some (.int .i64 cx.f0.f1) := (pe_cell (BX.out.get 1 rfl)).trans rfl; have kc2 : ws2.cell? ⟨g18, 2, none⟩ = some (.int .i64 cx.f0.f2) := (pe_cell (BX.out.get 1 rfl)).trans rfl; have kc3 : ws2.cell? ⟨g18, 3, none⟩ = some (.int .i64 cx.f0.f3) := (pe_cell (BX.out.get 1 rfl)).trans rfl; have kc4 : ws2.cell? ⟨g18, 4, none⟩ = some (.int .i64 cx.f0.f4) := (pe_cell (BX.out.get 1 rfl)).trans rfl; have kc5 : ws2.cell? ⟨g18, 5, none⟩ = some (.int .i64 cx.f1) := (pe_cell (BX.out.get 1 rfl)).trans rfl; have kc6 : ws2.cell? ⟨g18, 6, none⟩ = some (.bool cx.f2) := (pe_cell (BX.out.get 1 rfl)).trans rfl; have kc7 : ws2.cell? ⟨g18, 7, none⟩ = some (.int .i64 cx.f3) := (pe_cell (BX.out.get 1 rfl)).trans rfl; have kc8 : ws2.cell? ⟨g18, 8, none⟩ = some (.int .i64 cx.f4) := (pe_cell (BX.out.get 1 rfl)).trans rfl; have kq0 : ws2.cell? ⟨g15, 0, none⟩ = some (.int .i64 pq.f0.f0) := (pe_cell (BX.out.get 2 rfl)).trans rfl; have kq1 : ws2.cell? ⟨g15, 1, none⟩ = some (.int .i64 pq.f0.f1) := (pe_cell (BX.out.get 2 rfl)).trans rfl; have kq2 : ws2.cell? ⟨g15, 2, none⟩ = some (.int .i64 pq.f0.f2) := (pe_cell (BX.out.get 2 rfl)).trans rfl; have kq3 : ws2.cell? ⟨g15, 3, none⟩ = some (.int .i64 pq.f0.f3) := (pe_cell (BX.out.get 2 rfl)).trans rfl; have kq4 : ws2.cell? ⟨g15, 4, none⟩ = some (.int .i64 pq.f0.f4) := (pe_cell (BX.out.get 2 rfl)).trans rfl; have kq5 : ws2.cell? ⟨g15, 5, none⟩ = some (.int .i64 pq.f1) := (pe_cell (BX.out.get 2 rfl)).trans rfl; have kq6 : ws2.cell? ⟨g15, 6, none⟩ = some (.bool pq.f2) := (pe_cell (BX.out.get 2 rfl)).trans rfl; have kq7 : ws2.cell? ⟨g15, 7, none⟩ = some (.int .i64 pq.f3) := (pe_cell (BX.out.get 2 rfl)).trans rfl; have kq8 : ws2.cell? ⟨g15, 8, none⟩ = some (.int .i64 pq.f4) := (pe_cell (BX.out.get 2 rfl)).trans rfl; have kp0 : ws2.cell? ⟨g11, 0, none⟩ = some (.int .i64 pq.f0.f0) := (pe_cell (BX.out.get 3 rfl)).trans rfl; have kp1 : ws2.cell? ⟨g11, 1, none⟩ = some (.int .i64 pq.f0.f1) := (pe_cell (BX.out.get 3 rfl)).trans rfl; have kp2 : ws2.cell? ⟨g11, 2, none⟩ = some (.int .i64 pq.f0.f2) := (pe_cell (BX.out.get 3 rfl)).trans rfl; have kp3 : ws2.cell? ⟨g11, 3, none⟩ = some (.int .i64 pq.f0.f3) := (pe_cell (BX.out.get 3 rfl)).trans rfl; have kp4 : ws2.cell? ⟨g11, 4, none⟩ = some (.int .i64 pq.f0.f4) := (pe_cell (BX.out.get 3 rfl)).trans rfl; have kp5 : ws2.cell? ⟨g11, 5, none⟩ = some (.int .i64 pq.f1) := (pe_cell (BX.out.get 3 rfl)).trans rfl; have kp6 : ws2.cell? ⟨g11, 6, none⟩ = some (.bool pq.f2) := (pe_cell (BX.out.get 3 rfl)).trans rfl; have kp7 : ws2.cell? ⟨g11, 7, none⟩ = some (.int .i64 pq.f3) := (pe_cell (BX.out.get 3 rfl)).trans rfl; have kp8 : ws2.cell? ⟨g11, 8, none⟩ = some (.int .i64 pq.f4) := (pe_cell (BX.out.get 3 rfl)).trans rfl; clear hb)
    | (go_at_call 14; clear F2; refine (wharfagelaw0_SameEntrys.calls (sr.length + 1) As cs_ sr Au cu_ sr true _ (RW.out.get 3 rfl) CAs.out (RW.out.get 1 rfl) CAu.out (CcLaw.same_f sr _ (by omega) (by have := HL.out; have := HSL.out; omega))).mono ?_; rintro e ws3 ⟨rfl, hn⟩; have hb := Go.Proofs.Ytiidegomccifaaa.Hand.hk_drawn hn; clear hn; replace BX := Aside0.mk (BX.out.below hb); replace RW := Aside0.mk (RW.out.below hb); replace SP := Aside0.mk (SP.out.below hb); replace HBT := Aside0.mk (below_step HBT.out hb); clear kd0 kd1 kd2 kd3 kd4 kd5 kd6 kd7 kd8 kc0 kc1 kc2 kc3 kc4 kc5 kc6 kc7 kc8 kq0 kq1 kq2 kq3 kq4 kq5 kq6 kq7 kq8 kp0 kp1 kp2 kp3 kp4 kp5 kp6 kp7 kp8; have kd0 : ws3.cell? ⟨g20, 0, none⟩ = some (.int .i64 cx.f0.f0) := (pe_cell (BX.out.get 0 rfl)).trans rfl; have kd1 : ws3.cell? ⟨g20, 1, none⟩ = some (.int .i64 cx.f0.f1) := (pe_cell (BX.out.get 0 rfl)).trans rfl; have kd2 : ws3.cell? ⟨g20, 2, none⟩ = some (.int .i64 cx.f0.f2) := (pe_cell (BX.out.get 0 rfl)).trans rfl; have kd3 : ws3.cell? ⟨g20, 3, none⟩ = some (.int .i64 cx.f0.f3) := (pe_cell (BX.out.get 0 rfl)).trans rfl; have kd4 : ws3.cell? ⟨g20, 4, none⟩ = some (.int .i64 cx.f0.f4) := (pe_cell (BX.out.get 0 rfl)).trans rfl; have kd5 : ws3.cell? ⟨g20, 5, none⟩ = some (.int .i64 cx.f1) := (pe_cell (BX.out.get 0 rfl)).trans rfl; have kd6 : ws3.cell? ⟨g20, 6, none⟩ = some (.bool cx.f2) := (pe_cell (BX.out.get 0 rfl)).trans rfl; have kd7 : ws3.cell? ⟨g20, 7, none⟩ = some (.int .i64 cx.f3) := (pe_cell (BX.out.get 0 rfl)).trans rfl; have kd8 : ws3.cell? ⟨g20, 8, none⟩ = some (.int .i64 cx.f4) := (pe_cell (BX.out.get 0 rfl)).trans rfl; have kc0 : ws3.cell? ⟨g18, 0, none⟩ = some (.int .i64 cx.f0.f0) := (pe_cell (BX.out.get 1 rfl)).trans rfl; have kc1 : ws3.cell? ⟨g18, 1, none⟩ = some (.int .i64 cx.f0.f1) := (pe_cell (BX.out.get 1 rfl)).trans rfl; have kc2 : ws3.cell? ⟨g18, 2, none⟩ = some (.int .i64 cx.f0.f2) := (pe_cell (BX.out.get 1 rfl)).trans rfl; have kc3 : ws3.cell? ⟨g18, 3, none⟩ = some (.int .i64 cx.f0.f3) := (pe_cell (BX.out.get 1 rfl)).trans rfl; have kc4 : ws3.cell? ⟨g18, 4, none⟩ = some (.int .i64 cx.f0.f4) := (pe_cell (BX.out.get 1 rfl)).trans rfl; have kc5 : ws3.cell? ⟨g18, 5, none⟩ = some (.int .i64 cx.f1) := (pe_cell (BX.out.get 1 rfl)).trans rfl; have kc6 : ws3.cell? ⟨g18, 6, none⟩ = some (.bool cx.f2) := (pe_cell (BX.out.get 1 rfl)).trans rfl; have kc7 : ws3.cell? ⟨g18, 7, none⟩ = some (.int .i64 cx.f3) := (pe_cell (BX.out.get 1 rfl)).trans rfl; have kc8 : ws3.cell? ⟨g18, 8, none⟩ = some (.int .i64 cx.f4) := (pe_cell (BX.out.get 1 rfl)).trans rfl; have kq0 : ws3.cell? ⟨g15, 0, none⟩ = some (.int .i64 pq.f0.f0) := (pe_cell (BX.out.get 2 rfl)).trans rfl; have kq1 : ws3.cell? ⟨g15, 1, none⟩ = some (.int .i64 pq.f0.f1) := (pe_cell (BX.out.get 2 rfl)).trans rfl; have kq2 : ws3.cell? ⟨g15, 2, none⟩ = some (.int .i64 pq.f0.f2) := (pe_cell (BX.out.get 2 rfl)).trans rfl; have kq3 : ws3.cell? ⟨g15, 3, none⟩ = some (.int .i64 pq.f0.f3) := (pe_cell (BX.out.get 2 rfl)).trans rfl; have kq4 : ws3.cell? ⟨g15, 4, none⟩ = some (.int .i64 pq.f0.f4) := (pe_cell (BX.out.get 2 rfl)).trans rfl; have kq5 : ws3.cell? ⟨g15, 5, none⟩ = some (.int .i64 pq.f1) := (pe_cell (BX.out.get 2 rfl)).trans rfl; have kq6 : ws3.cell? ⟨g15, 6, none⟩ = some (.bool pq.f2) := (pe_cell (BX.out.get 2 rfl)).trans rfl; have kq7 : ws3.cell? ⟨g15, 7, none⟩ = some (.int .i64 pq.f3) := (pe_cell (BX.out.get 2 rfl)).trans rfl; have kq8 : ws3.cell? ⟨g15, 8, none⟩ = some (.int .i64 pq.f4) := (pe_cell (BX.out.get 2 rfl)).trans rfl; have kp0 : ws3.cell? ⟨g11, 0, none⟩ = some (.int .i64 pq.f0.f0) := (pe_cell (BX.out.get 3 rfl)).trans rfl; have kp1 : ws3.cell? ⟨g11, 1, none⟩ = some (.int .i64 pq.f0.f1) := (pe_cell (BX.out.get 3 rfl)).trans rfl; have kp2 : ws3.cell? ⟨g11, 2, none⟩ = some (.int .i64 pq.f0.f2) := (pe_cell (BX.out.get 3 rfl)).trans rfl; have kp3 : ws3.cell? ⟨g11, 3, none⟩ = some (.int .i64 pq.f0.f3) := (pe_cell (BX.out.get 3 rfl)).trans rfl; have kp4 : ws3.cell? ⟨g11, 4, none⟩ = some (.int .i64 pq.f0.f4) := (pe_cell (BX.out.get 3 rfl)).trans rfl; have kp5 : ws3.cell? ⟨g11, 5, none⟩ = some (.int .i64 pq.f1) := (pe_cell (BX.out.get 3 rfl)).trans rfl; have kp6 : ws3.cell? ⟨g11, 6, none⟩ = some (.bool pq.f2) := (pe_cell (BX.out.get 3 rfl)).trans rfl; have kp7 : ws3.cell? ⟨g11, 7, none⟩ = some (.int .i64 pq.f3) := (pe_cell (BX.out.get 3 rfl)).trans rfl; have kp8 : ws3.cell? ⟨g11, 8, none⟩ = some (.int .i64 pq.f4) := (pe_cell (BX.out.get 3 rfl)).trans rfl; clear hb)
    | (go_at_call 14; clear F3; refine (wharfagelaw0_SameEntrys.calls (tr.length + 1) At ct_ tr Av cv_ tr true _ (RW.out.get 2 rfl) CAt.out (RW.out.get 0 rfl) CAv.out (CcLaw.same_f tr _ (by omega) (by have := HL.out; have := HSL.out; omega))).mono ?_; rintro e ws4 ⟨rfl, hn⟩; have hb := Go.Proofs.Ytiidegomccifaaa.Hand.hk_drawn hn; clear hn; replace BX := Aside0.mk (BX.out.below hb); replace RW := Aside0.mk (RW.out.below hb); replace SP := Aside0.mk (SP.out.below hb); replace HBT := Aside0.mk (below_step HBT.out hb); clear kd0 kd1 kd2 kd3 kd4 kd5 kd6 kd7 kd8 kc0 kc1 kc2 kc3 kc4 kc5 kc6 kc7 kc8 kq0 kq1 kq2 kq3 kq4 kq5 kq6 kq7 kq8 kp0 kp1 kp2 kp3 kp4 kp5 kp6 kp7 kp8; have kd0 : ws4.cell? ⟨g20, 0, none⟩ = some (.int .i64 cx.f0.f0) := (pe_cell (BX.out.get 0 rfl)).trans rfl; have kd1 : ws4.cell? ⟨g20, 1, none⟩ = some (.int .i64 cx.f0.f1) := (pe_cell (BX.out.get 0 rfl)).trans rfl; have kd2 : ws4.cell? ⟨g20, 2, none⟩ = some (.int .i64 cx.f0.f2) := (pe_cell (BX.out.get 0 rfl)).trans rfl; have kd3 : ws4.cell? ⟨g20, 3, none⟩ = some (.int .i64 cx.f0.f3) := (pe_cell (BX.out.get 0 rfl)).trans rfl; have kd4 : ws4.cell? ⟨g20, 4, none⟩ = some (.int .i64 cx.f0.f4) := (pe_cell (BX.out.get 0 rfl)).trans rfl; have kd5 : ws4.cell? ⟨g20, 5, none⟩ = some (.int .i64 cx.f1) := (pe_cell (BX.out.get 0 rfl)).trans rfl; have kd6 : ws4.cell? ⟨g20, 6, none⟩ = some (.bool cx.f2) := (pe_cell (BX.out.get 0 rfl)).trans rfl; have kd7 : ws4.cell? ⟨g20, 7, none⟩ = some (.int .i64 cx.f3) := (pe_cell (BX.out.get 0 rfl)).trans rfl; have kd8 : ws4.cell? ⟨g20, 8, none⟩ = some (.int .i64 cx.f4) := (pe_cell (BX.out.get 0 rfl)).trans rfl; have kc0 : ws4.cell? ⟨g18, 0, none⟩ = some (.int .i64 cx.f0.f0) := (pe_cell (BX.out.get 1 rfl)).trans rfl; have kc1 : ws4.cell? ⟨g18, 1, none⟩ = some (.int .i64 cx.f0.f1) := (pe_cell (BX.out.get 1 rfl)).trans rfl; have kc2 : ws4.cell? ⟨g18, 2, none⟩ = some (.int .i64 cx.f0.f2) := (pe_cell (BX.out.get 1 rfl)).trans rfl; have kc3 : ws4.cell? ⟨g18, 3, none⟩ = some (.int .i64 cx.f0.f3) := (pe_cell (BX.out.get 1 rfl)).trans rfl; have kc4 : ws4.cell? ⟨g18, 4, none⟩ = some (.int .i64 cx.f0.f4) := (pe_cell (BX.out.get 1 rfl)).trans rfl; have kc5 : ws4.cell? ⟨g18, 5, none⟩ = some (.int .i64 cx.f1) := (pe_cell (BX.out.get 1 rfl)).trans rfl; have kc6 : ws4.cell? ⟨g18, 6, none⟩ = some (.bool cx.f2) := (pe_cell (BX.out.get 1 rfl)).trans rfl; have kc7 : ws4.cell? ⟨g18, 7, none⟩ = some (.int .i64 cx.f3) := (pe_cell (BX.out.get 1 rfl)).trans rfl; have kc8 : ws4.cell? ⟨g18, 8, none⟩ = some (.int .i64 cx.f4) := (pe_cell (BX.out.get 1 rfl)).trans rfl; have kq0 : ws4.cell? ⟨g15, 0, none⟩ = some (.int .i64 pq.f0.f0) := (pe_cell (BX.out.get 2 rfl)).trans rfl; have kq1 : ws4.cell? ⟨g15, 1, none⟩ = some (.int .i64 pq.f0.f1) := (pe_cell (BX.out.get 2 rfl)).trans rfl; have kq2 : ws4.cell? ⟨g15, 2, none⟩ = some (.int .i64 pq.f0.f2) := (pe_cell (BX.out.get 2 rfl)).trans rfl; have kq3 : ws4.cell? ⟨g15, 3, none⟩ = some (.int .i64 pq.f0.f3) := (pe_cell (BX.out.get 2 rfl)).trans rfl; have kq4 : ws4.cell? ⟨g15, 4, none⟩ = some (.int .i64 pq.f0.f4) := (pe_cell (BX.out.get 2 rfl)).trans rfl; have kq5 : ws4.cell? ⟨g15, 5, none⟩ = some (.int .i64 pq.f1) := (pe_cell (BX.out.get 2 rfl)).trans rfl; have kq6 : ws4.cell? ⟨g15, 6, none⟩ = some (.bool pq.f2) := (pe_cell (BX.out.get 2 rfl)).trans rfl; have kq7 : ws4.cell? ⟨g15, 7, none⟩ = some (.int .i64 pq.f3) := (pe_cell (BX.out.get 2 rfl)).trans rfl; have kq8 : ws4.cell? ⟨g15, 8, none⟩ = some (.int .i64 pq.f4) := (pe_cell (BX.out.get 2 rfl)).trans rfl; have kp0 : ws4.cell? ⟨g11, 0, none⟩ = some (.int .i64 pq.f0.f0) := (pe_cell (BX.out.get 3 rfl)).trans rfl; have kp1 : ws4.cell? ⟨g11, 1, none⟩ = some (.int .i64 pq.f0.f1) := (pe_cell (BX.out.get 3 rfl)).trans rfl; have kp2 : ws4.cell? ⟨g11, 2, none⟩ = some (.int .i64 pq.f0.f2) := (pe_cell (BX.out.get 3 rfl)).trans rfl; have kp3 : ws4.cell? ⟨g11, 3, none⟩ = some (.int .i64 pq.f0.f3) := (pe_cell (BX.out.get 3 rfl)).trans rfl; have kp4 : ws4.cell? ⟨g11, 4, none⟩ = some (.int .i64 pq.f0.f4) := (pe_cell (BX.out.get 3 rfl)).trans rfl; have kp5 : ws4.cell? ⟨g11, 5, none⟩ = some (.int .i64 pq.f1) := (pe_cell (BX.out.get 3 rfl)).trans rfl; have kp6 : ws4.cell? ⟨g11, 6, none⟩ = some (.bool pq.f2) := (pe_cell (BX.out.get 3 rfl)).trans rfl; have kp7 : ws4.cell? ⟨g11, 7, none⟩ = some (.int .i64 pq.f3) := (pe_cell (BX.out.get 3 rfl)).trans rfl; have kp8 : ws4.cell? ⟨g11, 8, none⟩ = some (.int .i64 pq.f4) := (pe_cell (BX.out.get 3 rfl)).trans rfl; clear hb)
    | (go_at_call 16; refine (cache_May.calls (l0.length + 1) (some ⟨g, 0, none⟩) c l0 mb _ (RW.out.get 8 rfl) (by have := HC2.out; omega) HM1.out).mono ?_; rintro e wm ⟨rfl, hb⟩; replace BX := Aside0.mk (BX.out.below hb); replace RW := Aside0.mk (RW.out.below hb); replace SP := Aside0.mk (SP.out.below hb); replace HBT := Aside0.mk (below_step HBT.out hb); clear kd0 kd1 kd2 kd3 kd4 kd5 kd6 kd7 kd8 kc0 kc1 kc2 kc3 kc4 kc5 kc6 kc7 kc8 kq0 kq1 kq2 kq3 kq4 kq5 kq6 kq7 kq8 kp0 kp1 kp2 kp3 kp4 kp5 kp6 kp7 kp8; have kd0 : wm.cell? ⟨g20, 0, none⟩ = some (.int .i64 cx.f0.f0) := (pe_cell (BX.out.get 0 rfl)).trans rfl; have kd1 : wm.cell? ⟨g20, 1, none⟩ = some (.int .i64 cx.f0.f1) := (pe_cell (BX.out.get 0 rfl)).trans rfl; have kd2 : wm.cell? ⟨g20, 2, none⟩ = some (.int .i64 cx.f0.f2) := (pe_cell (BX.out.get 0 rfl)).trans rfl; have kd3 : wm.cell? ⟨g20, 3, none⟩ = some (.int .i64 cx.f0.f3) := (pe_cell (BX.out.get 0 rfl)).trans rfl; have kd4 : wm.cell? ⟨g20, 4, none⟩ = some (.int .i64 cx.f0.f4) := (pe_cell (BX.out.get 0 rfl)).trans rfl; have kd5 : wm.cell? ⟨g20, 5, none⟩ = some (.int .i64 cx.f1) := (pe_cell (BX.out.get 0 rfl)).trans rfl; have kd6 : wm.cell? ⟨g20, 6, none⟩ = some (.bool cx.f2) := (pe_cell (BX.out.get 0 rfl)).trans rfl; have kd7 : wm.cell? ⟨g20, 7, none⟩ = some (.int .i64 cx.f3) := (pe_cell (BX.out.get 0 rfl)).trans rfl; have kd8 : wm.cell? ⟨g20, 8, none⟩ = some (.int .i64 cx.f4) := (pe_cell (BX.out.get 0 rfl)).trans rfl; have kc0 : wm.cell? ⟨g18, 0, none⟩ = some (.int .i64 cx.f0.f0) := (pe_cell (BX.out.get 1 rfl)).trans rfl; have kc1 : wm.cell? ⟨g18, 1, none⟩ = some (.int .i64 cx.f0.f1) := (pe_cell (BX.out.get 1 rfl)).trans rfl; have kc2 : wm.cell? ⟨g18, 2, none⟩ = some (.int .i64 cx.f0.f2) := (pe_cell (BX.out.get 1 rfl)).trans rfl; have kc3 : wm.cell? ⟨g18, 3, none⟩ = some (.int .i64 cx.f0.f3) := (pe_cell (BX.out.get 1 rfl)).trans rfl; have kc4 : wm.cell? ⟨g18, 4, none⟩ = some (.int .i64 cx.f0.f4) := (pe_cell (BX.out.get 1 rfl)).trans rfl; have kc5 : wm.cell? ⟨g18, 5, none⟩ = some (.int .i64 cx.f1) := (pe_cell (BX.out.get 1 rfl)).trans rfl; have kc6 : wm.cell? ⟨g18, 6, none⟩ = some (.bool cx.f2) := (pe_cell (BX.out.get 1 rfl)).trans rfl; have kc7 : wm.cell? ⟨g18, 7, none⟩ = some (.int .i64 cx.f3) := (pe_cell (BX.out.get 1 rfl)).trans rfl; have kc8 : wm.cell? ⟨g18, 8, none⟩ = some (.int .i64 cx.f4) := (pe_cell (BX.out.get 1 rfl)).trans rfl; have kq0 : wm.cell? ⟨g15, 0, none⟩ = some (.int .i64 pq.f0.f0) := (pe_cell (BX.out.get 2 rfl)).trans rfl; have kq1 : wm.cell? ⟨g15, 1, none⟩ = some (.int .i64 pq.f0.f1) := (pe_cell (BX.out.get 2 rfl)).trans rfl; have kq2 : wm.cell? ⟨g15, 2, none⟩ = some (.int .i64 pq.f0.f2) := (pe_cell (BX.out.get 2 rfl)).trans rfl; have kq3 : wm.cell? ⟨g15, 3, none⟩ = some (.int .i64 pq.f0.f3) := (pe_cell (BX.out.get 2 rfl)).trans rfl; have kq4 : wm.cell? ⟨g15, 4, none⟩ = some (.int .i64 pq.f0.f4) := (pe_cell (BX.out.get 2 rfl)).trans rfl; have kq5 : wm.cell? ⟨g15, 5, none⟩ = some (.int .i64 pq.f1) := (pe_cell (BX.out.get 2 rfl)).trans rfl; have kq6 : wm.cell? ⟨g15, 6, none⟩ = some (.bool pq.f2) := (pe_cell (BX.out.get 2 rfl)).trans rfl; have kq7 : wm.cell? ⟨g15, 7, none⟩ = some (.int .i64 pq.f3) := (pe_cell (BX.out.get 2 rfl)).trans rfl; have kq8 : wm.cell? ⟨g15, 8, none⟩ = some (.int .i64 pq.f4) := (pe_cell (BX.out.get 2 rfl)).trans rfl; have kp0 : wm.cell? ⟨g11, 0, none⟩ = some (.int .i64 pq.f0.f0) := (pe_cell (BX.out.get 3 rfl)).trans rfl; have kp1 : wm.cell? ⟨g11, 1, none⟩ = some (.int .i64 pq.f0.f1) := (pe_cell (BX.out.get 3 rfl)).trans rfl; have kp2 : wm.cell? ⟨g11, 2, none⟩ = some (.int .i64 pq.f0.f2) := (pe_cell (BX.out.get 3 rfl)).trans rfl; have kp3 : wm.cell? ⟨g11, 3, none⟩ = some (.int .i64 pq.f0.f3) := (pe_cell (BX.out.get 3 rfl)).trans rfl; have kp4 : wm.cell? ⟨g11, 4, none⟩ = some (.int .i64 pq.f0.f4) := (pe_cell (BX.out.get 3 rfl)).trans rfl; have kp5 : wm.cell? ⟨g11, 5, none⟩ = some (.int .i64 pq.f1) := (pe_cell (BX.out.get 3 rfl)).trans rfl; have kp6 : wm.cell? ⟨g11, 6, none⟩ = some (.bool pq.f2) := (pe_cell (BX.out.get 3 rfl)).trans rfl; have kp7 : wm.cell? ⟨g11, 7, none⟩ = some (.int .i64 pq.f3) := (pe_cell (BX.out.get 3 rfl)).trans rfl; have kp8 : wm.cell? ⟨g11, 8, none⟩ = some (.int .i64 pq.f4) := (pe_cell (BX.out.get 3 rfl)).trans rfl; clear hb)
    | (go_at_call 17; refine (wharfageref10_CacheMay.calls (l0.length * (l0.length + 2) + 1 + 4 * l0.length + 10) A0 c0 l0 mb _ (RW.out.get 9 rfl) HC0.out HM2.out).mono ?_; rintro e wm2 ⟨rfl, hb⟩; replace BX := Aside0.mk (BX.out.below hb); replace RW := Aside0.mk (RW.out.below hb); replace SP := Aside0.mk (SP.out.below hb); replace HBT := Aside0.mk (below_step HBT.out hb); clear hb)
  clear kd0 kd1 kd2 kd3 kd4 kd5 kd6 kd7 kd8 kc0 kc1 kc2 kc3 kc4 kc5 kc6 kc7 kc8 kq0 kq1 kq2 kq3 kq4 kq5 kq6 kq7 kq8 kp0 kp1 kp2 kp3 kp4 kp5 kp6 kp7 kp8
  clear BX RW
  go_wp2_with first
    | (go_at_call 18; clear F4; refine (spoilE.calls _ w1 _ HBT.out (SP.out.get 3 rfl)).mono ?_; rintro e wy1 ⟨rfl, hb, hk⟩; replace HBT := Aside0.mk hb; replace SP := Aside0.mk (SP.out.kint hk); clear hb hk)
    | (go_at_call 18; clear F5; refine (spoilE.calls _ w1 _ HBT.out (SP.out.get 2 rfl)).mono ?_; rintro e wy2 ⟨rfl, hb, hk⟩; replace HBT := Aside0.mk hb; replace SP := Aside0.mk (SP.out.kint hk); clear hb hk)
    | (go_at_call 18; clear F6; refine (spoilE.calls _ w1 _ HBT.out (SP.out.get 1 rfl)).mono ?_; rintro e wy3 ⟨rfl, hb, hk⟩; replace HBT := Aside0.mk hb; replace SP := Aside0.mk (SP.out.kint hk); clear hb hk)
    | (go_at_call 18; clear HDL; refine (spoilE.calls _ w1 _ HBT.out (SP.out.get 0 rfl)).mono ?_; rintro e wy4 ⟨rfl, hb, hk⟩; replace HBT := Aside0.mk hb; replace SP := Aside0.mk (SP.out.kint hk); clear hb hk)
    | (go_at_call 19; refine (wharfagelaw0_KeptEntrys.kept g c A0 c0 l0 _ HL.out HC2.out (Kd.C_below HX.out HBT.out) (Kd.C_below HV1.out HBT.out) HC0.out).mono ?_; rintro e wk ⟨rfl, hb⟩; replace HBT := Aside0.mk (below_step HBT.out hb); clear hb)
    | (go_at_call 20; refine (wharfagelaw16_awake.calls true _ rfl).mono ?_; rintro e wz ⟨rfl, hb⟩; replace HBT := Aside0.mk (below_step HBT.out hb); clear hb)
  go_ret
  exact ⟨Go.Proofs.Ytiidegomccifaaa.Hand.hk_bool rfl, below_step HB1.out HBT.out⟩


end Go.Proofs.Ytiidegomccifaaa.PCaches
