/- The document's own net: a packet taken out. -/
import Derived.Test.YtkgjnckkfiepaaaRef
namespace Go.Proofs.Ytkgjnckkfiepaaa.Net
open Go.RowKit Go.Proofs.YtkgjnckkfiepaaaW.PrintWords Go.Proofs.YtkgjnckkfiepaaaW.PrintLast Go.Proofs.YtkgjnckkfiepaaaW.PrintMore Go.Proofs.Ytkgjnckkfiepaaa.Chan
set_option linter.unusedVariables false
set_option linter.unusedSimpArgs false
set_option maxHeartbeats 4000000 in
set_option maxRecDepth 100000 in
theorem rtake_some {N p v l} (i : Nat) (w : World) (hN : N ≤ w.heap.size) (h : RefAt N w p v l) (hi : i < l.length) :
    Calls Try.prog 12 #[.pointer (some ⟨p, 0, none⟩), .int .i64 i] w fun e w' => e = .returned (.tuple #[.string (atL l i), .int .i64 0]) ∧ Ref2 N w p v (l.eraseIdx i) w' := by
  have H := Aside0.mk h
  have HN := Aside0.mk hN
  obtain ⟨A, c, rfl, hc, hC⟩ := Kd.R_reads h.row
  have x0 : w.cell? ⟨p, 0, none⟩ = some (.slice A l.length c) := (cb_cell h.cell).trans rfl
  obtain ⟨g, rfl, hgc⟩ := ref_at h i hi
  have hm : l.length ≤ 32 := h.few
  have ht : Kd.C Kd.string w (some ⟨g, 0, none⟩) i (l.take i) := by
    have := Kd.C_take hC (Nat.le_of_lt hi)
    rwa [List.length_take, Nat.min_eq_left (Nat.le_of_lt hi)] at this
  obtain ⟨A2, hA2, hd⟩ : ∃ A2 : Addr, (if c = i + 1 then (some ⟨g, 0, none⟩ : Option Addr) else some ⟨g, i + 1, none⟩) = some A2 ∧ Kd.C Kd.string w (some A2) (l.length - (i + 1)) (l.drop (i + 1)) := by
    have h1 := Kd.C_drop (m := i + 1) (c := c) hC (by omega) hc
    rw [List.length_drop] at h1
    by_cases hci : c = i + 1
    · rw [if_pos hci] at h1 ⊢
      exact ⟨_, rfl, h1⟩
    · rw [if_neg hci] at h1 ⊢
      refine ⟨_, rfl, ?_⟩
      have e : (some (⟨g, 0, none⟩ : Addr)).map (·.add ((i + 1) * Kd.string.sz)) = some ⟨g, i + 1, none⟩ := by
        simp [Kd.string, Kd.scalar, Addr.add]
      rwa [e] at h1
  have HT := Aside0.mk ht
  have HD := Aside0.mk hd
  have hic : i ≤ c := by omega
  have hic1 : i + 1 ≤ c := by omega
  have hdl : decide ((i : Int) < 0) = false := decide_eq_false (by omega)
  have ew : IntKind.i64.wrap ((i : Int) + 1) = (i : Int) + 1 := by unfold IntKind.wrap; simp [IntKind.bits]; omega
  have HLE := Aside0.mk (show (l.take i ++ l.drop (i + 1)).length = l.length - 1 by rw [← List.eraseIdx_eq_take_drop_succ, eraseIdx_length l i hi])
  have HB := Aside0.mk (Below.refl w.heap.size w)
  have HX := Aside0.mk x0
  clear h hN hC ht hd ew
  go_enter Try.func12, Try.ntmps12
  go_wp2_with (first | ((with_reducible refine gate_dst (N := 26) rfl ?_); refine Kd.R_lit Kd.string _ 9 ?hg (N := 26) ?hd (xs := ([] : List ByteArray)) (inner := []) (ok := fun _ => True) (okp := fun _ => True) ?hr ?hp (fun _ hk => hk) trivial (Below.refl _ _) (Nat.le_refl _) (by simp) ?_; (case hd => rfl); (case hg => rfl); (case hr => first | (go_simp; done) | (go_simp; rfl)); (case hp => exact (Reps.none _ _)); intro v133 w3 ho4 hb hg_ hnew_; clear hg_ hnew_; have y0 := pw_cell_below hb HX.out; have HO := Aside0.mk ho4; replace HB := Aside0.mk hb; clear ho4 hb) | ((with_reducible refine gate_builtin (b := .append) (xs := #[.tmp 26, .tmp 32]) rfl ?_); at_builtin; refine Kd.R_append_rows Kd.string (w0 := w) w.heap.size rfl (.tmp 26) (.tmp 32) 22 9 (.string ⟨#[]⟩) 16 rfl Try.underlying22 info9 rfl (by decide) (by omega) v133 [] (l.take i) _ _ _ (fun _ => True) (fun _ => False) rfl rfl ?aO ?aR (fun _ _ h => h) (fun _ h => h.elim) ?aF ?aB ?aS ?aL ?_; (case aR => exact Kd.C_below HT.out HB.out); (case aB => exact HB.out); (case aF => exact (fun _ _ => trivial)); (case aO => exact HO.out); (case aS => exact below_size HB.out); (case aL => simp; omega); intro v136 w5 ho hb hg hat; rw [List.nil_append] at ho; have HO2 := Aside0.mk ho; clear y0; have y0 := pw_cell_below hb HX.out; replace HB := Aside0.mk hb; clear ho hb hg hat) | ((with_reducible refine gate_builtin (b := .append) (xs := #[.tmp 34, .tmp 41]) rfl ?_); at_builtin; refine Kd.R_append_rows Kd.string (w0 := w) w.heap.size rfl (.tmp 34) (.tmp 41) 22 9 (.string ⟨#[]⟩) 16 rfl Try.underlying22 info9 rfl (by decide) (by omega) v136 (l.take i) (l.drop (i + 1)) _ _ _ (fun _ => True) (fun _ => False) rfl rfl ?bO ?bR (fun _ _ h => h) (fun _ h => h.elim) ?bF ?bB ?bS ?bL ?_; (case bR => exact Kd.C_below HD.out HB.out); (case bB => exact HB.out); (case bF => exact (fun _ _ => trivial)); (case bO => exact HO2.out); (case bS => exact below_size HB.out); (case bL => simp; omega); intro v137 w6 ho hb hg hat; have HO3 := Aside0.mk ho; clear y0; have HP6 := Aside0.mk ((hb.block p (cb_lt H.out.cell)).trans H.out.cell); have y0 := pw_cell_below hb HX.out; have y1 : w6.frozen? ⟨p, 0, none⟩ = false := cb_free HP6.out; replace HB := Aside0.mk hb; obtain ⟨A3, c3, hv3⟩ := Kd.R_slice ho; rw [HLE.out] at hv3; subst hv3; clear ho hb hg hat))
  go_ret2
  have e : l.eraseIdx i = l.take i ++ l.drop (i + 1) := List.eraseIdx_eq_take_drop_succ l i
  have hle : (l.take i ++ l.drop (i + 1)).length ≤ 32 := by rw [← e, eraseIdx_length l i hi]; omega
  rw [e]
  refine ⟨rfl, ref_put H.out.lo (Chg.of_below (F := fun _ => False) HB.out) (fun _ _ hf => hf.elim) HP6.out (Kd.R_lower HO3.out HN.out) ?_ hle⟩
  intro k hk
  exact .inr (Kd.R_base HO3.out k hk)
theorem rtake_calls {N p v l} (k : Int) (w : World) (hN : N ≤ w.heap.size) (h : RefAt N w p v l) :
    Calls Try.prog 12 #[.pointer (some ⟨p, 0, none⟩), .int .i64 k] w fun e w' => e = .returned (.tuple #[.string (takeL l k).2.1, .int .i64 (takeL l k).2.2]) ∧ Ref2 N w p v (takeL l k).1 w' := by
  unfold takeL
  by_cases h0 : inL l k
  · rw [if_pos h0]
    obtain ⟨i, rfl⟩ := Int.eq_ofNat_of_zero_le h0.1
    exact rtake_some i w hN h (by have := h0.2; omega)
  · rw [if_neg h0]
    have H := Aside0.mk h
    obtain ⟨A, c, rfl, hc, hC⟩ := Kd.R_reads h.row
    have x0 : w.cell? ⟨p, 0, none⟩ = some (.slice A l.length c) := (cb_cell h.cell).trans rfl
    have hd : k < 0 ∨ 0 ≤ k ∧ (l.length : Int) ≤ k := by unfold inL at h0; omega
    clear h hN h0 hc hC
    rcases hd with hd | ⟨hd1, hd2⟩
    · go_enter Try.func12, Try.ntmps12
      go_wp2_with fail
      go_ret2
      exact ⟨rfl, Ref2.refl H.out⟩
    · go_enter Try.func12, Try.ntmps12
      go_wp2_with fail
      go_ret2
      exact ⟨rfl, Ref2.refl H.out⟩
end Go.Proofs.Ytkgjnckkfiepaaa.Net
