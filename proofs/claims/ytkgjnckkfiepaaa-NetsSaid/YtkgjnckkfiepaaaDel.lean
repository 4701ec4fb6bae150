/- slices.Delete and slices.Clone at rows of texts: what the calls give and what they change, for rows of the program's own. -/
import Derived.Test.YtkgjnckkfiepaaaProg
import Derived.Test.YtkgjnckkfiepaaaChan
import Derived.Test.YtkgjnckkfiepaaaWZeros
import Derived.Deep.AppendLies
import Derived.Deep.RegionLaw
import Derived.Lib.SliceRun
import Derived.WalkKit
import Derived.WalkSpells
import Derived.KernelRfl
import Derived.Outline
namespace Go.Proofs.Ytkgjnckkfiepaaa.Net
open Go.RowKit Go.Proofs.YtkgjnckkfiepaaaW.PrintWords Go.Proofs.YtkgjnckkfiepaaaW.PrintLast Go.Proofs.YtkgjnckkfiepaaaW.PrintMore Go.Proofs.Ytkgjnckkfiepaaa.Chan
set_option linter.unusedVariables false
set_option linter.unusedSimpArgs false
theorem setCells_far (b : Nat) : ∀ (vs : List Value) (o : Nat) (w : World), Chg w (w.setCells b o vs) (fun k => k = b)
  | [], o, w => Chg.refl _ _
  | v :: r, o, w => (Chg.set w ⟨b, o, none⟩ v).trans (setCells_far b r (o + 1) _) (fun _ _ h => h)
theorem setCells_block (b : Nat) : ∀ (vs : List Value) (o : Nat) (w : World) (cs : Array Value) (t : TypeId) (m : Nat × Nat), w.heap[b]? = some (.cells cs t m) →
    ∃ cs' : Array Value, (w.setCells b o vs).heap[b]? = some (.cells cs' t m) ∧ cs'.size = cs.size ∧ ∀ j, j < cs.size → cs'[j]? = if o ≤ j ∧ j < o + vs.length then vs[j - o]? else cs[j]?
  | [], o, w, cs, t, m, h => ⟨cs, h, rfl, fun j _ => by rw [if_neg (by simp)]⟩
  | v :: r, o, w, cs, t, m, h => by
    obtain ⟨c2, h2, hs, hg⟩ := setCells_block b r (o + 1) (w.setCell ⟨b, o, none⟩ v) _ t m (cb_put h v)
    rw [Array.size_setIfInBounds] at hs hg
    refine ⟨c2, h2, hs, fun j hj => ?_⟩
    rw [hg j hj]
    by_cases h1 : o + 1 ≤ j ∧ j < o + 1 + r.length
    · rw [if_pos h1, if_pos ⟨by omega, by simp; omega⟩, show j - o = (j - (o + 1)) + 1 by omega, List.getElem?_cons_succ]
    · rw [if_neg h1]
      by_cases h3 : j = o
      · subst h3
        rw [if_pos ⟨by omega, by simp⟩, Nat.sub_self, Array.getElem?_setIfInBounds_self_of_lt hj]; rfl
      · rw [if_neg (by simp; omega), Array.getElem?_setIfInBounds_ne (fun e => h3 e.symm)]
theorem info9 : (Try.prog.info? 9).map (fun i => (i.zero, i.size, i.bytes)) = some (some (.string ⟨#[]⟩), 1, 16) := by kernel_rfl
theorem len_encs (l : List ByteArray) : (encs Value.string l).length = l.length := by simp [encs]
theorem getElem?_encs (l : List ByteArray) (j : Nat) : (encs Value.string l)[j]? = l[j]?.map Value.string := by simp [encs]
set_option maxHeartbeats 4000000 in
set_option maxRecDepth 1000000 in
/-- slices.Delete of one place of a row of one's own. -/
theorem delete_one (N g cap i j : Nat) (l : List ByteArray) (w : World) (hR : Kd.R Kd.string 9 w N (fun _ => True) (.slice (some ⟨g, 0, none⟩) l.length cap) l) (hi : i < l.length) (hj : j = i + 1) :
    Calls Try.prog 21 #[.slice (some ⟨g, 0, none⟩) l.length cap, .int .i64 i, .int .i64 j] w fun e w' => e = .returned (.slice (some ⟨g, 0, none⟩) (l.length - 1) cap) ∧ Kd.R Kd.string 9 w' N (fun _ => True) (.slice (some ⟨g, 0, none⟩) (l.length - 1) cap) (l.eraseIdx i) ∧ Chg w w' (fun k => k = g) := by
  obtain ⟨i0, hi0, hz0, hz1, hz2⟩ := info_parts info9
  have hown := Kd.own_of_R hR
  have hN : N ≤ g := Kd.R_base hR g (by simp [Value.ownBlock])
  obtain ⟨cur, hblk, hlc, hcm, hcs, hcur⟩ : ∃ cur : Array Value, w.heap[g]? = some (.cells cur 9 (0, 0)) ∧ l.length ≤ cap ∧ cap ≤ maxLen ∧ cur.size = cap ∧ ∀ j, j < l.length → cur[j]? = l[j]?.map Value.string := by
    rcases hown.2 with ⟨h, _⟩ | ⟨g', cap', cur, h, _, hb, h1, h2, h3, h4⟩
    · cases h
    · injection h with h5 h6 h7
      injection h5 with h5
      injection h5 with h5
      subst h5 h7
      refine ⟨cur, hb, h1, h2, by omega, fun j hj => ?_⟩
      have h8 := congrArg (fun x => x[j]?) h4
      simp only [List.getElem?_take, Nat.mul_one, hj, if_true, Array.getElem?_toList] at h8
      rw [h8, getElem?_encs]
  have hcell : ∀ j, j < l.length → w.cell? ⟨g, j, none⟩ = l[j]?.map Value.string := fun j hj => (cb_cell hblk).trans (hcur j hj)
  unfold maxLen at hcm
  -- the cells that go to the left
  obtain ⟨news, hnews⟩ : ∃ news, news = encs Value.string (l.drop j) := ⟨_, rfl⟩
  have hlen : news.length = l.length - j := by rw [hnews, len_encs]; simp
  obtain ⟨A, hA, hsrc⟩ : ∃ A : Addr, (if cap = j then some (⟨g, 0, none⟩ : Addr) else some ⟨g, j, none⟩) = some A ∧ Hid (∀ t u, news[t]? = some u → w.drew.cell? (A.add t) = some u) := by
    by_cases h : cap = j
    · refine ⟨⟨g, 0, none⟩, by simp [h], fun t u hu => ?_⟩
      have h0 : news.length = 0 := by rw [hlen]; omega
      rw [List.length_eq_zero_iff.1 h0] at hu
      simp at hu
    · refine ⟨⟨g, j, none⟩, by simp [h], fun t u hu => ?_⟩
      have ht : t < l.length - j := by
        have := (List.getElem?_eq_some_iff.1 hu).1
        rwa [hlen] at this
      rw [hnews, getElem?_encs, List.getElem?_drop] at hu
      rw [Addr.add_lit]
      exact (hcell (j + t) (by omega)).trans hu
  have s1 : Hid (news.length = (l.length - j) * 1) := by rw [Nat.mul_one]; exact hlen
  have s2 : Hid (∀ u ∈ news, u.oneCell' = true) := by
    intro u hu
    rw [hnews] at hu
    obtain ⟨x, _, rfl⟩ := List.mem_map.1 hu
    rfl
  have s3 : Hid (∀ t, t < news.length → (w.drew.cell? ⟨g, 0 + i * 1 + t, none⟩).isSome = true ∧ w.drew.frozen? ⟨g, 0 + i * 1 + t, none⟩ = false) := by
    intro t ht
    rw [hlen] at ht
    rw [Nat.mul_one, Nat.zero_add]
    exact ⟨by
      show (w.cell? _).isSome = true
      rw [hcell (i + t) (by omega)]
      simp [show i + t < l.length by omega], cb_free hblk⟩
  obtain ⟨W1, hW1⟩ : ∃ W1, W1 = w.drew.setCells g (0 + i * 1) news := ⟨_, rfl⟩
  obtain ⟨c1, hb1, hs1, hg1⟩ := setCells_block g news (0 + i * 1) w.drew cur 9 (0, 0) hblk
  rw [← hW1] at hb1
  have hcl : ∀ ty, (Builtin.clear_ #[22] ty #[.slice (some ⟨g, i + (l.length - j), none⟩) (l.length - (i + (l.length - j))) (cap - (i + (l.length - j)))]).run Try.prog W1 = .ok (.tuple #[]) (W1.setCells g (i + (l.length - j)) (List.replicate (l.length - (i + (l.length - j))) (.string ⟨#[]⟩))) :=
    fun ty => Lib.run_clear_slice W1 _ _ ty _ Try.underlying22 Try.zeroValue9 rfl rfl g (i + (l.length - j)) _ _ (by omega) (fun t ht => by
      rw [cb_cell hb1, Array.getElem?_eq_getElem (by omega)]; rfl) (fun t ht => cb_free hb1)
  obtain ⟨W2, hW2⟩ : ∃ W2, W2 = W1.setCells g (i + (l.length - j)) (List.replicate (l.length - (i + (l.length - j))) (.string ⟨#[]⟩)) := ⟨_, rfl⟩
  rw [← hW2] at hcl
  obtain ⟨c2, hb2, hs2, hg2⟩ := setCells_block g (List.replicate (l.length - (i + (l.length - j))) (Value.string ⟨#[]⟩)) (i + (l.length - j)) W1 c1 9 (0, 0) hb1
  rw [← hW2] at hb2
  have hchg : Chg w W2 (fun k => k = g) := by
    rw [hW2, hW1]
    exact ((show Chg w w.drew (fun k => k = g) from ⟨rfl, rfl, rfl, Nat.le_refl _, fun _ _ _ => rfl⟩).trans (setCells_far g _ _ _) (fun _ _ h => h)).trans (setCells_far g _ _ _) (fun _ _ h => h)
  have hout : Kd.R Kd.string 9 W2 N (fun _ => True) (.slice (some ⟨g, 0, none⟩) (l.length - 1) cap) (l.eraseIdx i) := by
    have hle : (l.eraseIdx i).length = l.length - 1 := by rw [List.length_eraseIdx, if_pos hi]
    refine Kd.R_of_own ?_ (fun _ _ => trivial)
    refine ⟨by rw [encs_length]; omega, .inr ⟨g, cap, c2, by rw [hle], hN, hb2, by omega, by unfold maxLen; omega, by omega, ?_⟩⟩
    apply List.ext_getElem?
    intro k
    rw [Nat.mul_one, hle, List.getElem?_take, getElem?_encs, List.getElem?_eraseIdx, Array.getElem?_toList]
    by_cases hk : k < l.length - 1
    · rw [if_pos hk, hg2 k (by omega), if_neg (by omega), hg1 k (by omega)]
      by_cases hki : k < i
      · rw [if_neg (by omega), if_pos hki]
        exact hcur k (by omega)
      · rw [if_pos ⟨by omega, by omega⟩, if_neg hki, hnews, getElem?_encs, List.getElem?_drop, show j + (k - (0 + i * 1)) = k + 1 by omega]
    · rw [if_neg hk]
      split
      · rw [List.getElem?_eq_none (by omega)]; rfl
      · rw [List.getElem?_eq_none (by omega)]; rfl
  have HO := Aside0.mk hout
  have HC := Aside0.mk hchg
  have hW : Hid (W1 = w.drew.setCells g (0 + i * 1) news) := hW1
  have hic : i ≤ cap := by omega
  have hjc : j ≤ cap := by omega
  have hij : i ≤ j := by omega
  have hjl : j ≤ l.length := by omega
  have hlt : i < j := by omega
  have HE := Aside0.mk (show i + (l.length - j) = l.length - 1 by omega)
  clear hW1 hW2 hb1 hb2 hg1 hg2 hs1 hs2 hout hchg hblk hcell hcur hown hR hnews hlen hj
  go_enter Try.func21, Try.ntmps21
  go_wp2_with fail
  go_region_law (refine step_append_room rfl (.tmp 22) (.tmp 25) 22 rfl 9 i0 1 Try.underlying22 hi0 hz1 g 0 i cap (by simp [Act.eval, Act.put]) A (l.length - j) (cap - j) news (by simp [Act.eval, Act.put]) s1.out hsrc.out s2.out (by omega) s3.out ?_; rw [← hW.out])
  go_wp2
  go_ret
  exact ⟨congrArg (fun n => Ending.returned (.slice (some ⟨g, 0, none⟩) n cap)) HE.out, HO.out, HC.out⟩
end Go.Proofs.Ytkgjnckkfiepaaa.Net
