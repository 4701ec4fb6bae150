/- A packet put last: the select of one send with a default, and what stands behind it. -/
import Derived.Test.YtkgjnckkfiepaaaNet
namespace Go.Proofs.Ytkgjnckkfiepaaa.Net
open Go.RowKit Go.Conc Go.Proofs.YtkgjnckkfiepaaaW.PrintWords Go.Proofs.YtkgjnckkfiepaaaW.PrintLast Go.Proofs.YtkgjnckkfiepaaaW.PrintMore Go.Proofs.Ytkgjnckkfiepaaa.Chan
set_option linter.unusedVariables false
set_option linter.unusedSimpArgs false
set_option maxHeartbeats 4000000 in
set_option maxRecDepth 100000 in
theorem add_full {N p ch v l} (s : ByteArray) (w : World) (h : NetAt N w p ch v l) (hl : l.length = 32) :
    Calls Try.prog 19 #[.pointer (some ⟨p, 0, none⟩), .string s] w fun e w' => e = .returned (.int .i64 2201) ∧ w' = w := by
  have x1 : w.cell? ⟨p, 1, none⟩ = some (.chan (some ch)) := (cb_cell h.cell).trans rfl
  obtain ⟨buf, sn, rn, hch, hbuf⟩ := h.chan
  have HB := Aside0.mk hbuf
  have HH := Aside0.mk hch
  clear h hbuf hch
  refine calls_of_loneTo fun cs => ?_
  show LoneTo _ (Post _ _ _ cs) _ _
  have e : Frame.enter Try.prog 19 #[.pointer (some ⟨p, 0, none⟩), .string s] .normal = (base 19).at ⟨#[.pointer (some ⟨p, 0, none⟩), .string s, undef, undef, undef, undef, undef, undef, undef, undef, undef, undef, undef, undef, undef, undef, undef, undef, undef, undef, undef, undef, undef], []⟩ [.code (Try.f19.body.getD .skip)] := by
    simp [Frame.enter, Frame.at, Try.func19, base, Try.f19]
  rw [e]
  clear e
  refine LoneTo.goes (n := 60) ?_
  simp only [Try.f19, Option.getD_some]
  s_c stepG_seq
  s_reg
  s_op
  s_c stepG_region_end
  s_c stepG_seq
  s_c stepG_seq
  s_reg
  s_op
  s_op
  s_op
  s_op
  s_c stepG_region_end
  s_reg
  s_op
  s_c stepG_region_end
  s_c stepG_seq
  s_reg
  s_stop
  refine LoneTo.step (step_lone_select_send_full (c := ch) (v := .agg #[]) (z' := .agg #[]) (cap := 32) (buf := buf) (s := sn) (r := rn) (tm := false)
    (stepG_comm (cases := #[scase ch (.agg #[]) (.agg #[])]) (blocking := false) (shape := .select) (w' := w) rfl rfl (by decide) (by simp [go_sem, execOp, scase, Act.eval]))
    HH.out (by have := HB.out; omega)) ?_
  rw [Frame.finish_at]
  walk_nrm
  refine LoneTo.goes (n := 60) ?_
  s_op
  s_op
  s_c stepG_region_end
  s_c stepG_block
  s_cond false
  s_stop
  refine loneTo_code rfl rfl Try.func19 ?_
  go_wp2
  refine After_ret ?_
  go_ret
  exact ⟨rfl, rfl⟩
/-- The struct's row written anew behind an append: a net again. -/
theorem net_put {N p ch : Nat} {w w1 w2 : World} {v v2 : Value} {l2 : List ByteArray} {buf : Array Value} {sn rn : Nat} (hp : p ≠ ch) (hpo : v.ownBlock ≠ some p) (hco : v.ownBlock ≠ some ch) (hlo : N ≤ p ∧ N ≤ ch) (hpl : p < w.heap.size) (hcl : ch < w.heap.size)
    (hc1 : Chg w w1 (fun k => k = ch)) (hcc : w1.heap[ch]? = some (.chan 32 buf false sn rn false)) (hg : Chg w1 w2 (fun k => some k = v.ownBlock)) (hp2 : w2.heap[p]? = some (.cells #[v, .chan (some ch)] 51 (0, 0)))
    (hr : Kd.R Kd.string 9 w2 N (fun _ => True) v2 l2) (hat : v2.ownBlock = v.ownBlock ∨ ∃ b, v2.ownBlock = some b ∧ w1.heap.size ≤ b) (hb : buf.size = l2.length) (hf : l2.length ≤ 32) :
    NetAt N (w2.setCell ⟨p, 0, none⟩ v2) p ch v2 l2 ∧ Chg w (w2.setCell ⟨p, 0, none⟩ v2) (foot p ch v) ∧ Moved w v v2 := by
  have hs := Chg.set w2 ⟨p, 0, none⟩ v2
  have hch2 : w2.heap[ch]? = some (.chan 32 buf false sn rn false) := (hg.block ch (cb_lt hcc) (fun e => hco e.symm)).trans hcc
  refine ⟨⟨cb_put hp2 v2, ⟨buf, sn, rn, (hs.block ch (cb_lt hch2) (fun e => hp e.symm)).trans hch2, hb⟩, ?_, hlo, hf⟩, ?_, ?_⟩
  · exact Kd.R_of_own (own_move (Kd.own_of_R hr) (fun k hk => hs.block k (Kd.R_lt hr k hk) (fun e => Kd.R_ne hr hp2 (by decide) (by rw [hk]; exact congrArg some e.symm)))) (fun _ _ => trivial)
  · have h1 : Chg w w1 (foot p ch v) := hc1.weaken (fun k hk => .inr (.inl hk))
    exact (h1.trans hg (fun k _ hk => .inr (.inr hk.symm))).trans hs (fun k _ hk => .inl hk)
  · intro k hk
    rcases hat with h | ⟨b, h, h2⟩
    · exact .inl (h ▸ hk)
    · rw [h] at hk
      injection hk with hk
      subst hk
      exact .inr (Nat.le_trans hc1.size h2)
set_option maxHeartbeats 4000000 in
set_option maxRecDepth 100000 in
theorem add_room {N p ch v l} (s : ByteArray) (w : World) (hN : N ≤ w.heap.size) (h : NetAt N w p ch v l) (hl : l.length < 32) :
    Calls Try.prog 19 #[.pointer (some ⟨p, 0, none⟩), .string s] w fun e w' => e = .returned (.int .i64 0) ∧ ∃ v', NetAt N w' p ch v' (l ++ [s]) ∧ Chg w w' (foot p ch v) ∧ Moved w v v' := by
  have hpc : p ≠ ch := fun e => by
    obtain ⟨_, _, _, hc, _⟩ := h.chan
    have h1 := h.cell
    rw [e, hc] at h1
    cases h1
  have hpo : v.ownBlock ≠ some p := fun e => Kd.R_ne h.row h.cell (by decide) e.symm
  have hco : v.ownBlock ≠ some ch := fun e => by
    obtain ⟨_, _, _, hc, _⟩ := h.chan
    obtain ⟨cells, hk⟩ := own_typed (Kd.own_of_R h.row) ch e
    rw [hc] at hk
    cases hk
  have x1 : w.cell? ⟨p, 1, none⟩ = some (.chan (some ch)) := (cb_cell h.cell).trans rfl
  obtain ⟨buf, sn, rn, hch, hbuf⟩ := h.chan
  obtain ⟨w1, hw1⟩ : ∃ w1, w1 = w.setChan ch 32 (buf.push (.agg #[])) false (sn + 1) rn false := ⟨_, rfl⟩
  have hc1 : Chg w w1 (fun k => k = ch) := hw1 ▸ Chg.chan w ch 32 _ _ _ _ _
  have hcc : w1.heap[ch]? = some (.chan 32 (buf.push (.agg #[])) false (sn + 1) rn false) := hw1 ▸ heap_setChan w ch 32 _ _ _ _ _ (cb_lt hch)
  have hp1 : w1.heap[p]? = some (.cells #[v, .chan (some ch)] 51 (0, 0)) := (hc1.block p (cb_lt h.cell) hpc).trans h.cell
  have hr1 : Kd.R Kd.string 9 w1 N (fun _ => True) v l := Kd.R_of_own (own_move (Kd.own_of_R h.row) (fun k hk => hc1.block k (Kd.R_lt h.row k hk) (fun e => hco (e ▸ hk)))) (fun _ _ => trivial)
  obtain ⟨A, c, hv, hlc, _⟩ := Kd.R_reads hr1
  subst hv
  have HB := Aside0.mk hbuf
  have HH := Aside0.mk hch
  have HC1 := Aside0.mk hc1
  have HCC := Aside0.mk hcc
  have HP1 := Aside0.mk hp1
  have HR1 := Aside0.mk hr1
  have HW1 := Aside0.mk hw1
  have HN := Aside0.mk hN
  have HL := Aside0.mk hl
  have HPC := Aside0.mk hpc
  have HPO := Aside0.mk hpo
  have HCO := Aside0.mk hco
  have HLO := Aside0.mk h.lo
  have HLT := Aside0.mk (And.intro (cb_lt h.cell) (cb_lt hch))
  have HS1 := Aside0.mk (show w.heap.size ≤ w1.heap.size from hc1.size)
  clear h hbuf hch hc1 hcc hp1 hr1 hw1 hN hl hpc hpo hco hlc
  refine calls_of_loneTo fun cs => ?_
  show LoneTo _ (Post _ _ _ cs) _ _
  have e : Frame.enter Try.prog 19 #[.pointer (some ⟨p, 0, none⟩), .string s] .normal = (base 19).at ⟨#[.pointer (some ⟨p, 0, none⟩), .string s, undef, undef, undef, undef, undef, undef, undef, undef, undef, undef, undef, undef, undef, undef, undef, undef, undef, undef, undef, undef, undef], []⟩ [.code (Try.f19.body.getD .skip)] := by
    simp [Frame.enter, Frame.at, Try.func19, base, Try.f19]
  rw [e]
  clear e
  refine LoneTo.goes (n := 60) ?_
  simp only [Try.f19, Option.getD_some]
  s_c stepG_seq
  s_reg
  s_op
  s_c stepG_region_end
  s_c stepG_seq
  s_c stepG_seq
  s_reg
  s_op
  s_op
  s_op
  s_op
  s_c stepG_region_end
  s_reg
  s_op
  s_c stepG_region_end
  s_c stepG_seq
  s_reg
  s_stop
  refine LoneTo.step (step_lone_select_send_room (c := ch) (v := .agg #[]) (z' := .agg #[]) (cap := 32) (buf := buf) (s := sn) (r := rn) (tm := false)
    (stepG_comm (cases := #[scase ch (.agg #[]) (.agg #[])]) (blocking := false) (shape := .select) (w' := w) rfl rfl (by decide) (by simp [go_sem, execOp, scase, Act.eval]))
    HH.out (by have := HB.out; have := HL.out; omega)) ?_
  rw [Frame.finish_at, ← HW1.out]
  walk_nrm
  refine LoneTo.goes (n := 60) ?_
  s_op
  s_op
  s_c stepG_region_end
  s_c stepG_block
  s_cond true
  s_stop
  refine loneTo_code rfl rfl Try.func19 ?_
  have y0 : (w1.alloc (.cells #[.string s] 9)).cell? ⟨p, 0, none⟩ = some (.slice A l.length c) := pw_cell_below (below_alloc (Below.refl _ _) _) ((cb_cell HP1.out).trans rfl)
  have y1 : w1.cell? ⟨p, 0, none⟩ = some (.slice A l.length c) := (cb_cell HP1.out).trans rfl
  go_wp2_with (first | ((with_reducible refine gate_builtin (b := .append) (xs := #[.tmp 17, .tmp 19]) rfl ?_); at_builtin; refine Kd.R_append Kd.string (w0 := w1) N rfl (.tmp 17) (.tmp 19) 22 9 (.string ⟨#[]⟩) 16 rfl Try.underlying22 info9 rfl (by decide) (by omega) (.slice A l.length c) l s [.string s] (fun _ => True) (fun _ => False) rfl rfl ?aP (fun _ hk => hk.elim) ?aF ?aO ?aB ?aS ?aL ?_; (case aP => exact rfl); (case aF => exact (fun _ _ => trivial)); (case aO => exact HR1.out); (case aB => exact Below.refl _ _); (case aS => have := HN.out; have := HS1.out; omega); (case aL => have := HL.out; omega); intro v2 w2 ho hb hg hat; have n1_ := Aside0.mk (ho); have n2_ := Aside0.mk hg; have n3_ := Aside0.mk hat; have HP2 := Aside0.mk ((hg.block p (cb_lt HP1.out) (fun e => HPO.out e.symm)).trans HP1.out); have z0 : w2.cell? ⟨p, 0, none⟩ = some (.slice A l.length c) := (cb_cell HP2.out).trans rfl; have z1 : w2.frozen? ⟨p, 0, none⟩ = false := cb_free HP2.out; obtain ⟨A2, c2, hv2⟩ := Kd.R_slice ho; subst hv2; clear ho hb hg hat))
  refine After_ret ?_
  go_ret
  have hl2 : (l ++ [s]).length = l.length + 1 := by simp
  rw [hl2] at n1_ n3_
  exact ⟨rfl, _, net_put HPC.out HPO.out HCO.out HLO.out HLT.out.1 HLT.out.2 HC1.out HCC.out (Chg.of_grown n2_.out) HP2.out n1_.out n3_.out (by have := HB.out; simp; omega) (by have := HL.out; omega)⟩
end Go.Proofs.Ytkgjnckkfiepaaa.Net
