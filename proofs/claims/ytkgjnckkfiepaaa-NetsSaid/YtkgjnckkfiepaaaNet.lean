/- What the calls on a net do: a row of texts, and a channel that holds a token for each of them. -/
import Derived.Test.YtkgjnckkfiepaaaDel
namespace Go.Proofs.Ytkgjnckkfiepaaa.Net
open Go.RowKit Go.Conc Go.Proofs.YtkgjnckkfiepaaaW.PrintWords Go.Proofs.YtkgjnckkfiepaaaW.PrintLast Go.Proofs.YtkgjnckkfiepaaaW.PrintMore Go.Proofs.Ytkgjnckkfiepaaa.Chan
set_option linter.unusedVariables false
set_option linter.unusedSimpArgs false
/-- A net: its struct's block p, its channel's block ch, its row v, the texts l; all of it lies at N or above. -/
structure NetAt (N : Nat) (w : World) (p ch : Nat) (v : Value) (l : List ByteArray) : Prop where
  cell : w.heap[p]? = some (.cells #[v, .chan (some ch)] 51 (0, 0))
  chan : ∃ buf s r, w.heap[ch]? = some (.chan 32 buf false s r false) ∧ buf.size = l.length
  row : Kd.R Kd.string 9 w N (fun _ => True) v l
  lo : N ≤ p ∧ N ≤ ch
  few : l.length ≤ 32
/-- The blocks of a net. -/
def foot (p ch : Nat) (v : Value) (k : Nat) : Prop := k = p ∨ k = ch ∨ v.ownBlock = some k
/-- The row may have moved to a new block. -/
def Moved (w : World) (v v' : Value) : Prop := ∀ k, v'.ownBlock = some k → v.ownBlock = some k ∨ w.heap.size ≤ k
theorem Moved.refl (w : World) (v : Value) : Moved w v v := fun k h => .inl h
theorem NetAt.foot_lo {N p ch w v l} (h : NetAt N w p ch v l) : ∀ k, foot p ch v k → N ≤ k := by
  rintro k (rfl | rfl | hk)
  · exact h.lo.1
  · exact h.lo.2
  · exact Kd.R_base h.row k hk
theorem NetAt.foot_lt {N p ch w v l} (h : NetAt N w p ch v l) : ∀ k, foot p ch v k → k < w.heap.size := by
  rintro k (rfl | rfl | hk)
  · exact cb_lt h.cell
  · obtain ⟨_, _, _, hc, _⟩ := h.chan
    exact cb_lt hc
  · exact Kd.R_lt h.row k hk
theorem NetAt.keep {N p ch w w1 v l} (h : NetAt N w p ch v l) {F : Nat → Prop} (hc : Chg w w1 F) (hF : ∀ k, foot p ch v k → ¬ F k) : NetAt N w1 p ch v l := by
  have hk : ∀ k, foot p ch v k → w1.heap[k]? = w.heap[k]? := fun k hk => hc.block k (h.foot_lt k hk) (hF k hk)
  refine ⟨(hk p (.inl rfl)).trans h.cell, ?_, ?_, h.lo, h.few⟩
  · obtain ⟨buf, s, r, h1, h2⟩ := h.chan
    exact ⟨buf, s, r, (hk ch (.inr (.inl rfl))).trans h1, h2⟩
  · exact Kd.R_of_own (own_move (Kd.own_of_R h.row) (fun k hv => hk k (.inr (.inr hv)))) (fun _ _ => trivial)
theorem NetAt.below {N p ch w w1 v l} (h : NetAt N w p ch v l) (hb : Below w.heap.size w w1) : NetAt N w1 p ch v l :=
  h.keep (Chg.of_below (F := fun _ => False) hb) (fun _ _ hf => hf)
theorem NetAt.lower {N M p ch w v l} (h : NetAt N w p ch v l) (hm : M ≤ N) : NetAt M w p ch v l :=
  ⟨h.cell, h.chan, Kd.R_lower h.row hm, ⟨Nat.le_trans hm h.lo.1, Nat.le_trans hm h.lo.2⟩, h.few⟩
theorem NetAt.slice {N p ch w v l} (h : NetAt N w p ch v l) : ∃ A c, v = .slice A l.length c ∧ l.length ≤ c ∧ Kd.C Kd.string w A l.length l := Kd.R_reads h.row
theorem str_mk (x : ByteArray) (w : World) : Kd.string.M w 0 (fun _ => False) x [.string x] := rfl
/-! ### slices.Clone -/
set_option maxHeartbeats 8000000 in
set_option maxRecDepth 100000 in
theorem clone_calls (A0 : Option Addr) (c0 : Nat) (l0 : List ByteArray) (w : World) (hr0 : Kd.C Kd.string w A0 l0.length l0) (hc0 : l0.length ≤ c0) (hlt : l0.length < 8796093022208) :
    Calls Try.prog 22 #[.slice A0 l0.length c0] w fun e w' => ∃ v0_ : Value, e = .returned (v0_) ∧ Kd.R Kd.string 9 w' w.heap.size (fun _ => True) v0_ l0 ∧ Below w.heap.size w w' := by
  have HR0 := Aside0.mk hr0
  have HL := Aside0.mk hlt
  have HB := Aside0.mk (Below.refl w.heap.size w)
  clear hlt
  cases A0 with
  | none =>
    have h0 : l0 = [] := by
      rcases Nat.eq_zero_or_pos l0.length with h0 | h0
      · exact List.eq_nil_of_length_eq_zero h0
      · obtain ⟨ad, e, _⟩ := hr0.2.2 h0
        cases e
    clear hr0 hc0
    subst h0
    have he : ∀ W : World, (binOp .eql 22 (.slice none 0 c0) (.slice none 0 0)).run Try.prog W = .ok (.bool true) W := fun _ => rfl
    go_enter Try.func22, Try.ntmps22
    go_wp2_with fail
    go_ret
    exact ⟨_, rfl, Kd.R_nil _ _ _ _ _, HB.out⟩
  | some ad =>
    clear hr0 hc0
    have he : ∀ W : World, (binOp .eql 22 (.slice (some ad) l0.length c0) (.slice none 0 0)).run Try.prog W = .ok (.bool false) W := fun _ => rfl
    go_enter Try.func22, Try.ntmps22
    go_wp2_with (first | ((with_reducible refine gate_dst (N := 5) rfl ?_); refine Kd.R_lit Kd.string _ 9 ?hg (N := 5) ?hd (xs := ([] : List ByteArray)) (inner := []) (ok := fun _ => True) (okp := fun _ => True) ?hr ?hp (fun _ hk => hk) trivial (Below.refl _ _) (Nat.le_refl _) (by simp) ?_; (case hd => rfl); (case hg => rfl); (case hr => first | (go_simp; done) | (go_simp; rfl)); (case hp => exact (Reps.none _ _)); intro v133 w3 ho4 hb hg_ hnew_; clear hg_ hnew_; have HO := Aside0.mk ho4; replace HB := Aside0.mk hb; clear ho4 hb) | ((with_reducible refine gate_builtin (b := .append) (xs := #[.tmp 5, .tmp 6]) rfl ?_); at_builtin; refine Kd.R_append_rows Kd.string (w0 := w) w.heap.size rfl (.tmp 5) (.tmp 6) 22 9 (.string ⟨#[]⟩) 16 rfl Try.underlying22 info9 rfl (by decide) (by omega) v133 [] l0 _ _ _ (fun _ => True) (fun _ => False) rfl rfl ?aO ?aR (fun _ _ h => h) (fun _ h => h.elim) ?aF ?aB ?aS ?aL ?_; (case aR => exact Kd.C_below HR0.out HB.out); (case aB => exact HB.out); (case aF => exact (fun _ _ => trivial)); (case aO => exact HO.out); (case aS => exact below_size HB.out); (case aL => have := HL.out; simp; omega); intro v136 w5 ho hb hg hat; rw [List.nil_append] at ho; have HO2 := Aside0.mk ho; replace HB := Aside0.mk hb; clear ho hb hg hat))
    go_ret
    exact ⟨_, rfl, HO2.out, HB.out⟩
/-! ### New -/
theorem mk_chan (w : World) : (Instr.makeChan 49 (.int .i64 32)).run Try.prog w = .ok (.chan (some w.heap.size)) (w.alloc (.chan 32 #[] false 0 0 false)) := by
  have hi : ∃ i, Try.prog.info? 53 = some i ∧ i.bytes = 0 := by
    have h : (Try.prog.info? 53).map (·.bytes) = some 0 := by kernel_rfl
    obtain ⟨i, hi, hb⟩ := Option.map_eq_some_iff.1 h
    exact ⟨i, hi, hb⟩
  obtain ⟨i, hi, hb⟩ := hi
  simpa using run_makeChan (P := Try.prog) (w := w) Try.underlying49 hi .i64 32 (by omega) (by rw [hb]; omega)
set_option maxRecDepth 100000 in
theorem new_calls (w : World) : Calls Try.prog 7 #[] w fun e w' => ∃ p ch, e = .returned (.pointer (some ⟨p, 0, none⟩)) ∧ NetAt w.heap.size w' p ch (.slice none 0 0) [] ∧ Below w.heap.size w w' := by
  have hmc := mk_chan
  go_enter Try.func7, Try.ntmps7
  go_wp2
  go_ret
  refine ⟨w.heap.size + 1, w.heap.size, rfl, ⟨?_, ⟨#[], 0, 0, ?_, rfl⟩, Kd.R_nil _ _ _ _ _, by omega, by simp⟩, ((Below.refl _ w).alloc (Nat.le_refl _) _).alloc (by simp) _⟩
  · have := heap_alloc_new (w.alloc (.chan 32 #[] false 0 0 false)) (.cells #[.slice none 0 0, .chan (some w.heap.size)] 51 (0, 0))
    simpa only [World.size_alloc] using this
  · rw [Below.heap_alloc _ _ _ (by simp)]
    exact heap_alloc_new w _
/-! ### has -/
set_option maxRecDepth 100000 in
theorem has_calls {N p ch v l} (w : World) (h : NetAt N w p ch v l) (at_ : Int) : Calls Try.prog 20 #[.pointer (some ⟨p, 0, none⟩), .int .i64 at_] w fun e w' => e = .returned (.bool (decide (0 ≤ at_ ∧ at_ < (l.length : Int)))) ∧ w' = w := by
  obtain ⟨A, c, rfl, hc, hC⟩ := h.slice
  have x0 : w.cell? ⟨p, 0, none⟩ = some (.slice A l.length c) := (cb_cell h.cell).trans rfl
  by_cases h0 : 0 ≤ at_
  · have e : decide (0 ≤ at_ ∧ at_ < (l.length : Int)) = decide (at_ < (l.length : Int)) := decide_eq_decide.2 (by omega)
    rw [e]
    clear e h hc hC
    go_enter Try.func20, Try.ntmps20
    go_wp2
    all_goals (go_ret; exact ⟨rfl, rfl⟩)
  · have e : decide (0 ≤ at_ ∧ at_ < (l.length : Int)) = false := decide_eq_false (by omega)
    rw [e]
    have hd : decide (0 ≤ at_) = false := decide_eq_false h0
    clear e h hc hC
    go_enter Try.func20, Try.ntmps20
    go_wp2
    all_goals (go_ret; exact ⟨rfl, rfl⟩)
/-! ### All -/
set_option maxRecDepth 100000 in
theorem all_calls {N p ch v l} (w : World) (h : NetAt N w p ch v l) : Calls Try.prog 15 #[.pointer (some ⟨p, 0, none⟩)] w fun e w' => ∃ v', e = .returned v' ∧ Kd.R Kd.string 9 w' w.heap.size (fun _ => True) v' l ∧ Below w.heap.size w w' := by
  obtain ⟨A, c, rfl, hc, hC⟩ := h.slice
  have x0 : w.cell? ⟨p, 0, none⟩ = some (.slice A l.length c) := (cb_cell h.cell).trans rfl
  have HX := Aside0.mk (And.intro hc (And.intro hC (show l.length < 8796093022208 by have := h.few; omega)))
  clear h hc hC
  go_enter Try.func15, Try.ntmps15
  go_wp2_with (go_at_call 22; refine (clone_calls A c l _ HX.out.2.1 HX.out.1 HX.out.2.2).mono ?_; rintro e w1 ⟨v1, rfl, ho, hb⟩; have HO := Aside0.mk ho; have HB := Aside0.mk hb; clear ho hb)
  go_ret
  exact ⟨_, rfl, HO.out, HB.out⟩
set_option maxRecDepth 100000 in
theorem all_none (w : World) : Calls Try.prog 15 #[.pointer none] w fun e w' => e = .returned (.slice none 0 0) ∧ w' = w := by
  go_enter Try.func15, Try.ntmps15
  go_wp2
  go_ret
  exact ⟨rfl, rfl⟩
set_option maxRecDepth 100000 in
theorem send_none (s : ByteArray) (w : World) : Calls Try.prog 9 #[.pointer none, .string s] w fun e w' => e = .returned (.int .i64 1) ∧ w' = w := by
  go_enter Try.func9, Try.ntmps9
  go_wp2
  go_ret
  exact ⟨rfl, rfl⟩
end Go.Proofs.Ytkgjnckkfiepaaa.Net
