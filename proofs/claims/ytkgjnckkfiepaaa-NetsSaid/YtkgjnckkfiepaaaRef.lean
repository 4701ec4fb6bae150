/- The document's own net: a row behind a pointer; sends, takes, copies. -/
import Derived.Test.YtkgjnckkfiepaaaTake
namespace Go.Proofs.Ytkgjnckkfiepaaa.Net
open Go.RowKit Go.Proofs.YtkgjnckkfiepaaaW.PrintWords Go.Proofs.YtkgjnckkfiepaaaW.PrintLast Go.Proofs.YtkgjnckkfiepaaaW.PrintMore Go.Proofs.Ytkgjnckkfiepaaa.Chan
set_option linter.unusedVariables false
set_option linter.unusedSimpArgs false
structure RefAt (N : Nat) (w : World) (p : Nat) (v : Value) (l : List ByteArray) : Prop where
  cell : w.heap[p]? = some (.cells #[v] 28 (0, 0))
  row : Kd.R Kd.string 9 w N (fun _ => True) v l
  lo : N ≤ p
  few : l.length ≤ 32
def rfoot (p : Nat) (v : Value) (k : Nat) : Prop := k = p ∨ v.ownBlock = some k
theorem RefAt.foot_lo {N p w v l} (h : RefAt N w p v l) : ∀ k, rfoot p v k → N ≤ k := by
  rintro k (rfl | hk)
  · exact h.lo
  · exact Kd.R_base h.row k hk
theorem RefAt.foot_lt {N p w v l} (h : RefAt N w p v l) : ∀ k, rfoot p v k → k < w.heap.size := by
  rintro k (rfl | hk)
  · exact cb_lt h.cell
  · exact Kd.R_lt h.row k hk
theorem RefAt.keep {N p w w1 v l} (h : RefAt N w p v l) {F : Nat → Prop} (hc : Chg w w1 F) (hF : ∀ k, rfoot p v k → ¬ F k) : RefAt N w1 p v l := by
  have hk : ∀ k, rfoot p v k → w1.heap[k]? = w.heap[k]? := fun k hk => hc.block k (h.foot_lt k hk) (hF k hk)
  exact ⟨(hk p (.inl rfl)).trans h.cell, Kd.R_of_own (own_move (Kd.own_of_R h.row) (fun k hv => hk k (.inr hv))) (fun _ _ => trivial), h.lo, h.few⟩
theorem RefAt.below {N p w w1 v l} (h : RefAt N w p v l) (hb : Below w.heap.size w w1) : RefAt N w1 p v l :=
  h.keep (Chg.of_below (F := fun _ => False) hb) (fun _ _ hf => hf)
def Ref2 (N : Nat) (w : World) (p : Nat) (v : Value) (l : List ByteArray) (w' : World) : Prop := ∃ v', RefAt N w' p v' l ∧ Chg w w' (rfoot p v) ∧ Moved w v v'
theorem Ref2.refl {N p w v l} (h : RefAt N w p v l) : Ref2 N w p v l w := ⟨v, h, Chg.refl _ _, Moved.refl _ _⟩
/-- The struct's row written anew. -/
theorem ref_put {N p : Nat} {w w2 : World} {v v2 : Value} {l2 : List ByteArray} {F : Nat → Prop} (hlo : N ≤ p) (hc : Chg w w2 F) (hF : ∀ k, k < w.heap.size → F k → rfoot p v k) (hp2 : w2.heap[p]? = some (.cells #[v] 28 (0, 0)))
    (hr : Kd.R Kd.string 9 w2 N (fun _ => True) v2 l2) (hat : Moved w v v2) (hf : l2.length ≤ 32) : Ref2 N w p v l2 (w2.setCell ⟨p, 0, none⟩ v2) := by
  have hs := Chg.set w2 ⟨p, 0, none⟩ v2
  refine ⟨v2, ⟨cb_put hp2 v2, ?_, hlo, hf⟩, ?_, hat⟩
  · exact Kd.R_of_own (own_move (Kd.own_of_R hr) (fun k hk => hs.block k (Kd.R_lt hr k hk) (fun e => Kd.R_ne hr hp2 (by decide) (by rw [hk]; exact congrArg some e.symm)))) (fun _ _ => trivial)
  · have h1 : Chg w w2 (rfoot p v) := ⟨hc.os, hc.tape, hc.output, hc.size, fun k hk hn => hc.block k hk (fun hf => hn (hF k hk hf))⟩
    exact h1.trans hs (fun k _ hk => .inl hk)
set_option maxHeartbeats 4000000 in
set_option maxRecDepth 100000 in
theorem rsend_calls {N p v l} (s : ByteArray) (w : World) (hN : N ≤ w.heap.size) (h : RefAt N w p v l) :
    Calls Try.prog 10 #[.pointer (some ⟨p, 0, none⟩), .string s] w fun e w' => e = .returned (.int .i64 (sendL l s).2) ∧ Ref2 N w p v (sendL l s).1 w' := by
  have H := Aside0.mk h
  have HN := Aside0.mk hN
  obtain ⟨A, c, rfl, hc, hC⟩ := Kd.R_reads h.row
  have x0 : w.cell? ⟨p, 0, none⟩ = some (.slice A l.length c) := (cb_cell h.cell).trans rfl
  unfold sendL
  by_cases h0 : 0 < s.size
  · have h1 := str_some h0
    by_cases h2 : s.size ≤ 512
    · rw [if_pos ⟨h0, h2⟩]
      unfold addL
      by_cases hl : l.length < 32
      · rw [if_pos hl]
        have hpo : (Value.slice A l.length c).ownBlock ≠ some p := fun e => Kd.R_ne h.row h.cell (by decide) e.symm
        have HPO := Aside0.mk hpo
        have HL := Aside0.mk hl
        clear h hN hc hC hpo
        go_enter Try.func10, Try.ntmps10
        go_wp2_with (first | ((with_reducible refine gate_builtin (b := .append) (xs := #[.tmp 22, .tmp 24]) rfl ?_); at_builtin; refine Kd.R_append Kd.string (w0 := w) N rfl (.tmp 22) (.tmp 24) 22 9 (.string ⟨#[]⟩) 16 rfl Try.underlying22 info9 rfl (by decide) (by omega) (.slice A l.length c) l s [.string s] (fun _ => True) (fun _ => False) rfl rfl ?aP (fun _ hk => hk.elim) ?aF ?aO ?aB ?aS ?aL ?_; (case aP => exact rfl); (case aF => exact (fun _ _ => trivial)); (case aO => exact H.out.row); (case aB => exact Below.refl _ _); (case aS => exact HN.out); (case aL => have := HL.out; omega); intro v2 w2 ho hb hg hat; have n1_ := Aside0.mk (ho); have n2_ := Aside0.mk hg; have n3_ := Aside0.mk hat; have HP2 := Aside0.mk ((hg.block p (cb_lt H.out.cell) (fun e => HPO.out e.symm)).trans H.out.cell); have z0 : w2.cell? ⟨p, 0, none⟩ = some (.slice A l.length c) := (cb_cell HP2.out).trans rfl; have z1 : w2.frozen? ⟨p, 0, none⟩ = false := cb_free HP2.out; obtain ⟨A2, c2, hv2⟩ := Kd.R_slice ho; subst hv2; clear ho hb hg hat))
        go_ret
        have hl2 : (l ++ [s]).length = l.length + 1 := by simp
        rw [hl2] at n1_ n3_
        refine ⟨rfl, ref_put H.out.lo (Chg.of_grown n2_.out) (fun k _ hk => .inr hk.symm) HP2.out n1_.out ?_ (by have := HL.out; omega)⟩
        intro k hk
        rcases n3_.out with h3 | ⟨b, h3, h4⟩
        · exact .inl (h3 ▸ hk)
        · rw [h3] at hk
          injection hk with hk
          subst hk
          exact .inr h4
      · rw [if_neg hl]
        clear h hN hc hC
        go_enter Try.func10, Try.ntmps10
        go_wp2_with fail
        go_ret
        exact ⟨rfl, Ref2.refl H.out⟩
    · rw [if_neg (fun hh => h2 hh.2)]
      clear h hN hc hC
      go_enter Try.func10, Try.ntmps10
      go_wp2_with fail
      go_ret
      exact ⟨rfl, Ref2.refl H.out⟩
  · rw [if_neg (fun hh => h0 hh.1)]
    obtain rfl := str_empty h0
    clear h hN h0 hc hC
    go_enter Try.func10, Try.ntmps10
    go_wp2_with fail
    go_ret
    exact ⟨rfl, Ref2.refl H.out⟩
theorem ref_at {N p A c l} {w : World} (h : RefAt N w p (.slice A l.length c) l) (i : Nat) (hi : i < l.length) : ∃ g, A = some ⟨g, 0, none⟩ ∧ w.cell? ⟨g, i, none⟩ = some (.string (atL l i)) := by
  rcases own_head h.row with ⟨_, h0⟩ | ⟨g, cap, hv, _⟩
  · rw [h0] at hi
    simp at hi
  · injection hv with h1 h2 h3
    subst h1
    have hc := Kd.R_cell (d := ⟨#[]⟩) h.row (i : Int) (by omega) (by omega)
    exact ⟨g, rfl, by simpa [rdOf, atL] using hc.1⟩
/-- The texts of a net may be sent. -/
def goodL (l : List ByteArray) : Prop := l.length ≤ 32 ∧ ∀ s ∈ l, 0 < s.size ∧ s.size ≤ 512
theorem good_at {l : List ByteArray} (h : goodL l) (i : Nat) (hi : i < l.length) : 0 < (atL l i).size ∧ (atL l i).size ≤ 512 := by
  have e : atL l i = l[i] := by simp [atL, hi]
  rw [e]
  exact h.2 _ (List.getElem_mem hi)
set_option maxHeartbeats 4000000 in
set_option maxRecDepth 100000 in
theorem rcopy_calls {N p v l} (k : Int) (w : World) (hN : N ≤ w.heap.size) (h : RefAt N w p v l) (hg : goodL l) :
    Calls Try.prog 14 #[.pointer (some ⟨p, 0, none⟩), .int .i64 k] w fun e w' => e = .returned (.int .i64 (copyL l k).2) ∧ Ref2 N w p v (copyL l k).1 w' := by
  have H := Aside0.mk h
  have HN := Aside0.mk hN
  obtain ⟨A, c, rfl, hc, hC⟩ := Kd.R_reads h.row
  have x0 : w.cell? ⟨p, 0, none⟩ = some (.slice A l.length c) := (cb_cell h.cell).trans rfl
  unfold copyL
  by_cases h0 : inL l k
  · rw [if_pos h0]
    obtain ⟨i, rfl⟩ := Int.eq_ofNat_of_zero_le h0.1
    have hi : i < l.length := by have := h0.2; omega
    obtain ⟨g, rfl, hgc⟩ := ref_at h i hi
    have hs := rsend_calls (atL l i) w hN h
    have e : sendL l (atL l i) = addL l (atL l i) := if_pos (good_at hg i hi)
    rw [e] at hs
    have HS := Aside0.mk hs
    have hm : l.length ≤ 32 := h.few
    clear h hN h0 hc hC hs e hg
    go_enter Try.func14, Try.ntmps14
    go_wp2_with first
      | (go_at_call 10; refine (HS.out).mono ?_; rintro e w1 ⟨rfl, ho⟩; have HO := Aside0.mk ho; clear ho)
    go_ret
    exact ⟨rfl, HO.out⟩
  · rw [if_neg h0]
    have hd : k < 0 ∨ 0 ≤ k ∧ (l.length : Int) ≤ k := by unfold inL at h0; omega
    clear h hN h0 hc hC hg
    rcases hd with hd | ⟨hd1, hd2⟩
    · go_enter Try.func14, Try.ntmps14
      go_wp2_with fail
      go_ret
      exact ⟨rfl, Ref2.refl H.out⟩
    · go_enter Try.func14, Try.ntmps14
      go_wp2_with fail
      go_ret
      exact ⟨rfl, Ref2.refl H.out⟩
end Go.Proofs.Ytkgjnckkfiepaaa.Net
