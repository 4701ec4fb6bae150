/- A packet taken out of a net: the row closes up, and a token is taken out of the channel. -/
import Derived.Test.YtkgjnckkfiepaaaOps
namespace Go.Proofs.Ytkgjnckkfiepaaa.Net
open Go.RowKit Go.Conc Go.Proofs.YtkgjnckkfiepaaaW.PrintWords Go.Proofs.YtkgjnckkfiepaaaW.PrintLast Go.Proofs.YtkgjnckkfiepaaaW.PrintMore Go.Proofs.Ytkgjnckkfiepaaa.Chan
set_option linter.unusedVariables false
set_option linter.unusedSimpArgs false
theorem eraseIdx_length (l : List ByteArray) (i : Nat) (hi : i < l.length) : (l.eraseIdx i).length = l.length - 1 := by rw [List.length_eraseIdx, if_pos hi]
set_option maxHeartbeats 4000000 in
set_option maxRecDepth 100000 in
theorem take_some {N p ch v l} (i : Nat) (w : World) (hN : N ≤ w.heap.size) (h : NetAt N w p ch v l) (hi : i < l.length) :
    Calls Try.prog 11 #[.pointer (some ⟨p, 0, none⟩), .int .i64 i] w fun e w' => e = .returned (.tuple #[.string (atL l i), .int .i64 0]) ∧ Net2 N w p ch v (l.eraseIdx i) w' := by
  have hpc : p ≠ ch := fun e => by
    obtain ⟨_, _, _, hc, _⟩ := h.chan
    have h1 := h.cell
    rw [e, hc] at h1
    cases h1
  have HH := Aside0.mk (has_calls w h i)
  have HT := Aside0.mk (show decide (0 ≤ (i : Int) ∧ (i : Int) < (l.length : Int)) = true from decide_eq_true ⟨by omega, by omega⟩)
  obtain ⟨A, c, rfl, hc, hC⟩ := h.slice
  obtain ⟨g, rfl, hg⟩ := net_at h i hi
  have x0 : w.cell? ⟨p, 0, none⟩ = some (.slice (some ⟨g, 0, none⟩) l.length c) := (cb_cell h.cell).trans rfl
  have hm : l.length ≤ 32 := h.few
  have hgp : g ≠ p := fun e => Kd.R_ne h.row h.cell (by decide) (by rw [e]; rfl)
  obtain ⟨buf, sn, rn, hch, hbuf⟩ := h.chan
  have hgc : g ≠ ch := fun e => by
    obtain ⟨cells, hk⟩ := own_typed (Kd.own_of_R h.row) g rfl
    rw [e, hch] at hk
    cases hk
  have HD := Aside0.mk (delete_one N g c i (i + 1) l w h.row hi rfl)
  have H := Aside0.mk h
  have HN := Aside0.mk hN
  have HPC := Aside0.mk hpc
  have HGP := Aside0.mk hgp
  have HGC := Aside0.mk hgc
  have HB := Aside0.mk hbuf
  have HCH := Aside0.mk hch
  have ew : IntKind.i64.wrap ((i : Int) + 1) = (i : Int) + 1 := by unfold IntKind.wrap; simp [IntKind.bits]; omega
  have ec : ((i + 1 : Nat) : Int) = (i : Int) + 1 := by omega
  rw [ec] at HD
  have EW := Aside0.mk ew
  clear h hN hc hC hpc hgp hgc hbuf hch ew ec
  refine calls_of_loneTo fun cs => ?_
  show LoneTo _ (Post _ _ _ cs) _ _
  have e : Frame.enter Try.prog 11 #[.pointer (some ⟨p, 0, none⟩), .int .i64 i] .normal = (base 11).at ⟨#[.pointer (some ⟨p, 0, none⟩), .int .i64 i, undef, undef, undef, undef, undef, undef, undef, undef, undef, undef, undef, undef, undef, undef, undef, undef, undef, undef, undef, undef, undef, undef, undef, undef, undef, undef, undef, undef, undef, undef, undef, undef, undef, undef, undef, undef, undef], []⟩ [.code (Try.f11.body.getD .skip)] := by
    simp [Frame.enter, Frame.at, Try.func11, base, Try.f11]
  rw [e]
  clear e
  refine LoneTo.goes (n := 60) ?_
  simp only [Try.f11, Option.getD_some]
  s_c stepG_seq
  s_reg
  s_op
  s_op
  s_c stepG_region_end
  s_c stepG_seq
  s_stop
  refine loneTo_code rfl rfl Try.func11 ?_
  go_wp2_with (go_at_call 20; refine (HH.out).mono ?_; rintro e w1 ⟨rfl, hw⟩; rw [HT.out]; obtain rfl := hw)
  refine After_normal ?_
  refine LoneTo.goes (n := 60) ?_
  s_c stepG_seq
  s_stop
  refine loneTo_code rfl rfl Try.func11 ?_
  go_wp2_with fail
  refine After_normal ?_
  refine LoneTo.goes (n := 60) ?_
  s_c stepG_seq
  s_stop
  refine loneTo_code rfl rfl Try.func11 ?_
  go_wp2_with (go_at_call 21; refine (HD.out).mono ?_; rintro e w2 ⟨rfl, ho, hch2⟩; have HR2 := Aside0.mk ho; have HC2 := Aside0.mk hch2; have HP2 := Aside0.mk ((hch2.block p (cb_lt H.out.cell) (fun e => HGP.out e.symm)).trans H.out.cell); have HH2 := Aside0.mk ((hch2.block ch (cb_lt HCH.out) (fun e => HGC.out e.symm)).trans HCH.out); have z0 : w2.cell? ⟨p, 0, none⟩ = some (.slice (some ⟨g, 0, none⟩) l.length c) := (cb_cell HP2.out).trans rfl; have z1 : w2.frozen? ⟨p, 0, none⟩ = false := cb_free HP2.out; clear ho hch2)
  refine After_normal ?_
  obtain ⟨w3, hw3⟩ : ∃ w3, w3 = w2.setCell ⟨p, 0, none⟩ (.slice (some ⟨g, 0, none⟩) (l.length - 1) c) := ⟨_, rfl⟩
  rw [← hw3]
  have hp3 : w3.heap[p]? = some (.cells #[.slice (some ⟨g, 0, none⟩) (l.length - 1) c, .chan (some ch)] 51 (0, 0)) := hw3 ▸ cb_put HP2.out _
  have HC3 := Aside0.mk (show Chg w2 w3 (fun k => k = p) from hw3 ▸ Chg.set _ _ _)
  have HCH3 := Aside0.mk ((HC3.out.block ch (cb_lt HH2.out) (fun e => HPC.out e.symm)).trans HH2.out)
  have y1 : w3.cell? ⟨p, 1, none⟩ = some (.chan (some ch)) := (cb_cell hp3).trans rfl
  have HP3 := Aside0.mk hp3
  clear hw3 hp3 z0 z1
  refine LoneTo.goes (n := 60) ?_
  s_c stepG_seq
  s_reg
  s_op
  s_op
  s_op
  s_op
  s_stop
  refine LoneTo.step (step_lone_recv_buf (c := ch) (z := .agg #[]) (cap := 32) (buf := buf) (closed := false) (s := sn) (r := rn) (tm := false) false
    (stepG_comm (cases := #[rcase ch (.agg #[])]) (blocking := true) (shape := .recv false) (w' := w3) rfl rfl (by decide) (by simp [go_sem, execOp, rcase, Act.eval]))
    HCH3.out (by have := HB.out; omega)) ?_
  rw [Frame.finish_at]
  walk_nrm
  obtain ⟨w4, hw4⟩ : ∃ w4, w4 = w3.setChan ch 32 (buf.extract 1 buf.size) false sn (rn + 1) false := ⟨_, rfl⟩
  rw [← hw4]
  have HC4 := Aside0.mk (show Chg w3 w4 (fun k => k = ch) from hw4 ▸ Chg.chan _ _ _ _ _ _ _ _)
  have HCH4 := Aside0.mk (show w4.heap[ch]? = some (.chan 32 (buf.extract 1 buf.size) false sn (rn + 1) false) from hw4 ▸ heap_setChan _ _ _ _ _ _ _ _ (cb_lt HCH3.out))
  clear hw4
  refine LoneTo.goes (n := 60) ?_
  s_c stepG_region_end
  s_stop
  refine loneTo_code rfl rfl Try.func11 ?_
  go_wp2
  refine After_ret ?_
  go_ret2
  have hle := eraseIdx_length l i hi
  have hpo2 : ∀ k, (Value.slice (some ⟨g, 0, none⟩) (l.length - 1) c).ownBlock = some k → k = g := fun k hk => by simpa [Value.ownBlock] using hk.symm
  refine ⟨rfl, .slice (some ⟨g, 0, none⟩) (l.length - 1) c, ⟨(HC4.out.block p (cb_lt HP3.out) HPC.out).trans HP3.out, ⟨_, _, _, HCH4.out, by have := HB.out; simp; omega⟩, ?_, H.out.lo, by omega⟩, ?_, ?_⟩
  · have hlt := Kd.R_lt HR2.out g rfl
    exact Kd.R_of_own (own_move (Kd.own_of_R HR2.out) (fun k hk => by
      obtain rfl := hpo2 k hk
      exact (HC4.out.block _ (Nat.lt_of_lt_of_le hlt HC3.out.size) HGC.out).trans (HC3.out.block _ hlt HGP.out))) (fun _ _ => trivial)
  · exact ((HC2.out.weaken (fun k hk => .inr (.inr (by rw [hk]; rfl)))).trans HC3.out (fun k _ hk => .inl hk)).trans HC4.out (fun k _ hk => .inr (.inl hk))
  · intro k hk
    exact .inl (by rw [hpo2 k hk]; rfl)
theorem take_calls {N p ch v l} (k : Int) (w : World) (hN : N ≤ w.heap.size) (h : NetAt N w p ch v l) :
    Calls Try.prog 11 #[.pointer (some ⟨p, 0, none⟩), .int .i64 k] w fun e w' => e = .returned (.tuple #[.string (takeL l k).2.1, .int .i64 (takeL l k).2.2]) ∧ Net2 N w p ch v (takeL l k).1 w' := by
  unfold takeL
  by_cases h0 : inL l k
  · rw [if_pos h0]
    obtain ⟨i, rfl⟩ := Int.eq_ofNat_of_zero_le h0.1
    exact take_some i w hN h (by have := h0.2; omega)
  · rw [if_neg h0]
    have H := Aside0.mk h
    have HH := Aside0.mk (has_calls w h k)
    have HT := Aside0.mk (show decide (0 ≤ k ∧ k < (l.length : Int)) = false from decide_eq_false h0)
    clear h hN h0
    go_enter Try.func11, Try.ntmps11
    go_wp2_with first
      | (go_at_call 20; refine (HH.out).mono ?_; rintro e w1 ⟨rfl, hw⟩; rw [HT.out]; obtain rfl := hw)
    go_ret2
    exact ⟨rfl, Net2.refl H.out⟩
end Go.Proofs.Ytkgjnckkfiepaaa.Net
