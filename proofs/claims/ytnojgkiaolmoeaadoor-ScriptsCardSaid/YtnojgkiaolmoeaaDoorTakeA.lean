/- The taker takes an act. -/
import Derived.Test.YtnojgkiaolmoeaaDoorTakeC
namespace Go.Proofs.YtnojgkiaolmoeaaDoor.Take
open Go.RowKit Go.Proofs.YtnojgkiaolmoeaaDoorW.PrintWords Go.Proofs.YtnojgkiaolmoeaaDoorW.PrintLast Go.Proofs.YtnojgkiaolmoeaaDoorW.PrintMore Go.Proofs.YtnojgkiaolmoeaaDoor.PSc
set_option linter.unusedVariables false
set_option linter.unusedSimpArgs false
def actM (s : Ms) : S40 × Ms :=
  let a0 := numM 32 s
  let a1 := numM 32 a0.2
  let a2 := numM 32 a1.2
  let a3 := numM 32 a2.2
  let a4 := numM 32 a3.2
  let a5 := numM 32 a4.2
  let b := letR 103 a5.2
  let t := textM b.2
  if a0.1 = 9 ∧ t.2.2 = false then (⟨a0.1, a1.1, a2.1, a3.1, a4.1, a5.1, b.1, ⟨t.1.toArray⟩, (configM t.2).1⟩, (configM t.2).2)
  else (⟨a0.1, a1.1, a2.1, a3.1, a4.1, a5.1, b.1, ⟨t.1.toArray⟩, ⟨0, []⟩⟩, t.2)
theorem textC (w0 : World) (g : Nat) (s : Ms) (w : World) (h : Tk w0 g s.1 s.2 w) (hE : Aside0 (Errs w0)) (x : List UInt8) (s1 : Ms) (hx : textM s = (x, s1)) :
    Calls Tryd.prog 45 #[.pointer (some ⟨g, 0, none⟩)] w fun e w' => e = .returned (.string ⟨x.toArray⟩) ∧ Tk w0 g s1.1 s1.2 w' ∧ Fr g w w' := by
  have h1 := text w0 g s.1 s.2 w h hE
  have e0 : textM (s.1, s.2) = (x, s1) := hx
  rw [e0] at h1
  exact h1
theorem configC (w0 : World) (g : Nat) (s : Ms) (w : World) (h : Tk w0 g s.1 s.2 w) (hE : Aside0 (Errs w0)) (x : S38) (s1 : Ms) (hx : configM s = (x, s1)) :
    Calls Tryd.prog 46 #[.pointer (some ⟨g, 0, none⟩)] w fun e w' => ∃ v, e = .returned (.agg #[.int .i64 x.f0, v]) ∧ Kd.R k63 63 w' w.heap.size (fun _ => True) v x.f1 ∧ Tk w0 g s1.1 s1.2 w' ∧ Fr g w w' := by
  have h1 := config w0 g s.1 s.2 w h hE
  have e0 : configM (s.1, s.2) = (x, s1) := hx
  rw [e0] at h1
  exact h1
/-- The taker's act so far: the result's block gr, the act's gx. -/
structure Ax (wE w0 : World) (g gr gx : Nat) (s : Ms) (cs : Array Value) (W : World) : Prop where
  tk : Tk w0 g s.1 s.2 W
  fr : Fr g wE W
  r : W.heap[gr]? = some (.cells #[.int .i64 0, .int .i64 0, .int .i64 0, .int .i64 0, .int .i64 0, .int .i64 0, .bool false, .string ⟨#[]⟩, .int .i64 0, .slice none 0 0] 40 (0, 0))
  c : W.heap[gx]? = some (.cells cs 40 (0, 0))
  pl : g < wE.heap.size ∧ wE.heap.size ≤ gr ∧ wE.heap.size ≤ gx ∧ gr ≠ gx ∧ w0.heap.size ≤ wE.heap.size
theorem Ax.call {wE w0 g gr gx s cs W} (h : Ax wE w0 g gr gx s cs W) {s1 : Ms} {W1 : World} (hT : Tk w0 g s1.1 s1.2 W1) (hF : Fr g W W1) : Ax wE w0 g gr gx s1 cs W1 := by
  have hp := h.pl
  exact ⟨hT, h.fr.trans hF, blk_fr h.r hF (by omega), blk_fr h.c hF (by omega), hp⟩
theorem Ax.put {wE w0 g gr gx s cs W} (h : Ax wE w0 g gr gx s cs W) (j : Nat) (v : Value) {cs1 : Array Value} (he : cs.setIfInBounds j v = cs1) : Ax wE w0 g gr gx s cs1 (W.setCell ⟨gx, j, none⟩ v) := by
  have hp := h.pl
  have hb : Below wE.heap.size W (W.setCell ⟨gx, j, none⟩ v) := below_put W hp.2.2.1 j v
  exact ⟨h.tk.lowN hb hp.1 hp.2.2.2.2, h.fr.low hb (Nat.le_refl _) h.fr.size, blk_far h.r hp.2.2.2.1 _, blk_put h.c j v he, hp⟩
set_option maxHeartbeats 4000000 in
set_option maxRecDepth 100000 in
theorem act (w0 : World) (g : Nat) (s0 : Ms) (w : World) (h : Tk w0 g s0.1 s0.2 w) (hE : Aside0 (Errs w0)) (x : S40) (sF : Ms) (hM : actM s0 = (x, sF)) :
    Calls Tryd.prog 25 #[.pointer (some ⟨g, 0, none⟩)] w fun e w' => ∃ v, e = .returned (.agg #[.int .i64 x.f0, .int .i64 x.f1, .int .i64 x.f2, .int .i64 x.f3, .int .i64 x.f4, .int .i64 x.f5, .bool x.f6, .string x.f7, .int .i64 x.f8.f0, v]) ∧ Kd.R k63 63 w' w.heap.size (fun _ => True) v x.f8.f1 ∧ Tk w0 g sF.1 sF.2 w' ∧ Fr g w w' := by
  have hu := Tryd.underlying40
  have hu3 := Tryd.underlying38
  have hu4 := Tryd.underlying68
  have HE := hE
  unfold actM at hM
  obtain ⟨⟨x0, s1⟩, h0⟩ : ∃ k, numM 32 s0 = k := ⟨_, rfl⟩
  obtain ⟨⟨x1, s2⟩, h1⟩ : ∃ k, numM 32 s1 = k := ⟨_, rfl⟩
  obtain ⟨⟨x2, s3⟩, h2⟩ : ∃ k, numM 32 s2 = k := ⟨_, rfl⟩
  obtain ⟨⟨x3, s4⟩, h3⟩ : ∃ k, numM 32 s3 = k := ⟨_, rfl⟩
  obtain ⟨⟨x4, s5⟩, h4⟩ : ∃ k, numM 32 s4 = k := ⟨_, rfl⟩
  obtain ⟨⟨x5, s6⟩, h5⟩ : ∃ k, numM 32 s5 = k := ⟨_, rfl⟩
  obtain ⟨⟨b1, s7⟩, h7⟩ : ∃ k, letR 103 s6 = k := ⟨_, rfl⟩
  obtain ⟨⟨t1, s8⟩, h8⟩ : ∃ k, textM s7 = k := ⟨_, rfl⟩
  simp only [h0, h1, h2, h3, h4, h5, h7, h8] at hM
  have H0 := Aside0.mk h0
  have H1 := Aside0.mk h1
  have H2 := Aside0.mk h2
  have H3 := Aside0.mk h3
  have H4 := Aside0.mk h4
  have H5 := Aside0.mk h5
  have H7 := Aside0.mk h7
  have H8 := Aside0.mk h8
  have HMM := Aside0.mk hM
  have HT := Aside0.mk h
  clear h hE hM h0 h1 h2 h3 h4 h5 h7 h8
  go_enter Tryd.func25, Tryd.ntmps25
  go_upto_region 2 with fail
  obtain ⟨gx, hgx⟩ : ∃ n, n = w.heap.size + 1 := ⟨_, rfl⟩
  obtain ⟨gr, hgr⟩ : ∃ n, n = w.heap.size := ⟨_, rfl⟩
  obtain ⟨wa, hwa⟩ : ∃ x_, x_ = (w.alloc (.cells #[.int .i64 0, .int .i64 0, .int .i64 0, .int .i64 0, .int .i64 0, .int .i64 0, .bool false, .string ⟨#[]⟩, .int .i64 0, .slice none 0 0] 40)).alloc (.cells #[.int .i64 0, .int .i64 0, .int .i64 0, .int .i64 0, .int .i64 0, .int .i64 0, .bool false, .string ⟨#[]⟩, .int .i64 0, .slice none 0 0] 40) := ⟨_, rfl⟩
  have BA := Aside0.mk (show Below w.heap.size w wa by rw [hwa]; exact below_alloc (below_alloc (Below.refl _ _) _) _)
  have BR := (show wa.heap[gr]? = some (.cells #[.int .i64 0, .int .i64 0, .int .i64 0, .int .i64 0, .int .i64 0, .int .i64 0, .bool false, .string ⟨#[]⟩, .int .i64 0, .slice none 0 0] 40 (0, 0)) by rw [hwa, hgr]; exact (Lib.alloc_old _ _ _ (by simp)).trans (heap_alloc_new w _))
  have BX := (show wa.heap[gx]? = some (.cells #[.int .i64 0, .int .i64 0, .int .i64 0, .int .i64 0, .int .i64 0, .int .i64 0, .bool false, .string ⟨#[]⟩, .int .i64 0, .slice none 0 0] 40 (0, 0)) by rw [hwa, hgx]; simpa only [World.size_alloc] using heap_alloc_new (w.alloc (.cells #[.int .i64 0, .int .i64 0, .int .i64 0, .int .i64 0, .int .i64 0, .int .i64 0, .bool false, .string ⟨#[]⟩, .int .i64 0, .slice none 0 0] 40)) (.cells #[.int .i64 0, .int .i64 0, .int .i64 0, .int .i64 0, .int .i64 0, .int .i64 0, .bool false, .string ⟨#[]⟩, .int .i64 0, .slice none 0 0] 40 (0, 0)))
  have HA0 := Aside0.mk (show Ax w w0 g gr gx s0 #[.int .i64 0, .int .i64 0, .int .i64 0, .int .i64 0, .int .i64 0, .int .i64 0, .bool false, .string ⟨#[]⟩, .int .i64 0, .slice none 0 0] wa from ⟨HT.out.next BA.out, Fr.of_below BA.out, BR, BX, ⟨HT.out.lt, by omega, by omega, by omega, HT.out.sz⟩⟩)
  rw [← hwa, ← hgx, ← hgr]
  clear hwa hgx hgr BA BR BX HT
  go_wp2_with fail
  obtain ⟨gp, hgp⟩ : ∃ n, n = wa.heap.size := ⟨_, rfl⟩
  obtain ⟨wb, hwb⟩ : ∃ x_, x_ = wa.alloc (.cells #[.pointer (some ⟨gx, 0, none⟩), .pointer (some ⟨gx, 1, none⟩), .pointer (some ⟨gx, 2, none⟩), .pointer (some ⟨gx, 3, none⟩), .pointer (some ⟨gx, 4, none⟩), .pointer (some ⟨gx, 5, none⟩)] 94) := ⟨_, rfl⟩
  have HPB0 := Aside0.mk (show wb.heap[gp]? = some (.cells #[.pointer (some ⟨gx, 0, none⟩), .pointer (some ⟨gx, 1, none⟩), .pointer (some ⟨gx, 2, none⟩), .pointer (some ⟨gx, 3, none⟩), .pointer (some ⟨gx, 4, none⟩), .pointer (some ⟨gx, 5, none⟩)] 94 (0, 0)) by rw [hwb, hgp]; exact heap_alloc_new wa _)
  have HPN := Aside0.mk (show gp ≠ gx ∧ gp ≠ g by have h1 := blk_lt HA0.out.c; have h2 := HA0.out.tk.lt; omega)
  have HA1 := Aside0.mk (show Ax w w0 g gr gx s0 #[.int .i64 0, .int .i64 0, .int .i64 0, .int .i64 0, .int .i64 0, .int .i64 0, .bool false, .string ⟨#[]⟩, .int .i64 0, .slice none 0 0] wb by rw [hwb]; exact HA0.out.call (HA0.out.tk.next (below_alloc (Below.refl _ _) _)) (Fr.of_below (below_alloc (Below.refl _ _) _)))
  rw [← hwb, ← hgp]
  clear hwb hgp HA0
  go_loopg [14] 7 (fun kq v14 w' => ∃ i : Nat, v14 = .int .i64 (i : Int) ∧ Aside0 (i ≤ 6 ∧ kq + i = 7) ∧ Aside0 (match i with | 0 => Ax w w0 g gr gx s0 #[.int .i64 0, .int .i64 0, .int .i64 0, .int .i64 0, .int .i64 0, .int .i64 0, .bool false, .string ⟨#[]⟩, .int .i64 0, .slice none 0 0] w' | 1 => Ax w w0 g gr gx s1 #[.int .i64 x0, .int .i64 0, .int .i64 0, .int .i64 0, .int .i64 0, .int .i64 0, .bool false, .string ⟨#[]⟩, .int .i64 0, .slice none 0 0] w' | 2 => Ax w w0 g gr gx s2 #[.int .i64 x0, .int .i64 x1, .int .i64 0, .int .i64 0, .int .i64 0, .int .i64 0, .bool false, .string ⟨#[]⟩, .int .i64 0, .slice none 0 0] w' | 3 => Ax w w0 g gr gx s3 #[.int .i64 x0, .int .i64 x1, .int .i64 x2, .int .i64 0, .int .i64 0, .int .i64 0, .bool false, .string ⟨#[]⟩, .int .i64 0, .slice none 0 0] w' | 4 => Ax w w0 g gr gx s4 #[.int .i64 x0, .int .i64 x1, .int .i64 x2, .int .i64 x3, .int .i64 0, .int .i64 0, .bool false, .string ⟨#[]⟩, .int .i64 0, .slice none 0 0] w' | 5 => Ax w w0 g gr gx s5 #[.int .i64 x0, .int .i64 x1, .int .i64 x2, .int .i64 x3, .int .i64 x4, .int .i64 0, .bool false, .string ⟨#[]⟩, .int .i64 0, .slice none 0 0] w' | _ => Ax w w0 g gr gx s6 #[.int .i64 x0, .int .i64 x1, .int .i64 x2, .int .i64 x3, .int .i64 x4, .int .i64 x5, .bool false, .string ⟨#[]⟩, .int .i64 0, .slice none 0 0] w') ∧ Aside0 (w'.heap[gp]? = some (.cells #[.pointer (some ⟨gx, 0, none⟩), .pointer (some ⟨gx, 1, none⟩), .pointer (some ⟨gx, 2, none⟩), .pointer (some ⟨gx, 3, none⟩), .pointer (some ⟨gx, 4, none⟩), .pointer (some ⟨gx, 5, none⟩)] 94 (0, 0))))
  case atStart => exact ⟨0, rfl, ⟨by omega⟩, HA1, HPB0⟩
  case round =>
    clear HA1 HPB0
    obtain ⟨i, rfl, HX, HA, HPB⟩ := hrel
    cases gk with
    | zero => have := HX.out; omega
    | succ k1 =>
      rcases (show i = 0 ∨ i = 1 ∨ i = 2 ∨ i = 3 ∨ i = 4 ∨ i = 5 ∨ i = 6 by have := HX.out; omega) with hi | hi | hi | hi | hi | hi | hi
      · have HCON := Aside0.mk (show (i : Nat) = 0 from hi)
        obtain rfl : i = 0 := hi
        have AX := Aside0.mk (show Ax w w0 g gr gx s0 #[.int .i64 0, .int .i64 0, .int .i64 0, .int .i64 0, .int .i64 0, .int .i64 0, .bool false, .string ⟨#[]⟩, .int .i64 0, .slice none 0 0] wr from HA.out)
        have hpp : wr.cell? ⟨gp, 0, none⟩ = some (.pointer (some ⟨gx, 0, none⟩)) := (blk_cell HPB.out 0).trans rfl
        clear HA HCON
        go_wp2_with (go_at_call 43; refine (numC w0 g 32 s0 _ AX.out.tk HE x0 s1 H0.out).mono ?_; rintro e w2 ⟨rfl, hT, hF⟩; replace AX := Aside0.mk (AX.out.call hT hF); replace HPB := Aside0.mk (blk_fr HPB.out hF HPN.out.2); clear hpp; have k_ : w2.cell? ⟨gx, 0, none⟩ = some (.int .i64 0) := (blk_cell AX.out.c 0).trans rfl; have f_ := blk_frozen AX.out.c 0; clear hT hF)
        have HP2 := Aside0.mk (blk_far HPB.out HPN.out.1 (.int .i64 x0) : (w2.setCell ⟨gx, 0, none⟩ (.int .i64 x0)).heap[gp]? = _)
        have AX2 := Aside0.mk (AX.out.put 0 (.int .i64 x0) (cs1 := #[.int .i64 x0, .int .i64 0, .int .i64 0, .int .i64 0, .int .i64 0, .int .i64 0, .bool false, .string ⟨#[]⟩, .int .i64 0, .slice none 0 0]) rfl)
        go_roundg k1
        case measure => have := HX.out; omega
        case rel =>
          have h1 := HX.out
          exact ⟨1, rfl, ⟨by omega⟩, AX2, HP2⟩
      · have HCON := Aside0.mk (show (i : Nat) = 1 from hi)
        obtain rfl : i = 1 := hi
        have AX := Aside0.mk (show Ax w w0 g gr gx s1 #[.int .i64 x0, .int .i64 0, .int .i64 0, .int .i64 0, .int .i64 0, .int .i64 0, .bool false, .string ⟨#[]⟩, .int .i64 0, .slice none 0 0] wr from HA.out)
        have hpp : wr.cell? ⟨gp, 1, none⟩ = some (.pointer (some ⟨gx, 1, none⟩)) := (blk_cell HPB.out 1).trans rfl
        clear HA HCON
        go_wp2_with (go_at_call 43; refine (numC w0 g 32 s1 _ AX.out.tk HE x1 s2 H1.out).mono ?_; rintro e w2 ⟨rfl, hT, hF⟩; replace AX := Aside0.mk (AX.out.call hT hF); replace HPB := Aside0.mk (blk_fr HPB.out hF HPN.out.2); clear hpp; have k_ : w2.cell? ⟨gx, 1, none⟩ = some (.int .i64 0) := (blk_cell AX.out.c 1).trans rfl; have f_ := blk_frozen AX.out.c 1; clear hT hF)
        have HP2 := Aside0.mk (blk_far HPB.out HPN.out.1 (.int .i64 x1) : (w2.setCell ⟨gx, 1, none⟩ (.int .i64 x1)).heap[gp]? = _)
        have AX2 := Aside0.mk (AX.out.put 1 (.int .i64 x1) (cs1 := #[.int .i64 x0, .int .i64 x1, .int .i64 0, .int .i64 0, .int .i64 0, .int .i64 0, .bool false, .string ⟨#[]⟩, .int .i64 0, .slice none 0 0]) rfl)
        go_roundg k1
        case measure => have := HX.out; omega
        case rel =>
          have h1 := HX.out
          exact ⟨2, rfl, ⟨by omega⟩, AX2, HP2⟩
      · have HCON := Aside0.mk (show (i : Nat) = 2 from hi)
        obtain rfl : i = 2 := hi
        have AX := Aside0.mk (show Ax w w0 g gr gx s2 #[.int .i64 x0, .int .i64 x1, .int .i64 0, .int .i64 0, .int .i64 0, .int .i64 0, .bool false, .string ⟨#[]⟩, .int .i64 0, .slice none 0 0] wr from HA.out)
        have hpp : wr.cell? ⟨gp, 2, none⟩ = some (.pointer (some ⟨gx, 2, none⟩)) := (blk_cell HPB.out 2).trans rfl
        clear HA HCON
        go_wp2_with (go_at_call 43; refine (numC w0 g 32 s2 _ AX.out.tk HE x2 s3 H2.out).mono ?_; rintro e w2 ⟨rfl, hT, hF⟩; replace AX := Aside0.mk (AX.out.call hT hF); replace HPB := Aside0.mk (blk_fr HPB.out hF HPN.out.2); clear hpp; have k_ : w2.cell? ⟨gx, 2, none⟩ = some (.int .i64 0) := (blk_cell AX.out.c 2).trans rfl; have f_ := blk_frozen AX.out.c 2; clear hT hF)
        have HP2 := Aside0.mk (blk_far HPB.out HPN.out.1 (.int .i64 x2) : (w2.setCell ⟨gx, 2, none⟩ (.int .i64 x2)).heap[gp]? = _)
        have AX2 := Aside0.mk (AX.out.put 2 (.int .i64 x2) (cs1 := #[.int .i64 x0, .int .i64 x1, .int .i64 x2, .int .i64 0, .int .i64 0, .int .i64 0, .bool false, .string ⟨#[]⟩, .int .i64 0, .slice none 0 0]) rfl)
        go_roundg k1
        case measure => have := HX.out; omega
        case rel =>
          have h1 := HX.out
          exact ⟨3, rfl, ⟨by omega⟩, AX2, HP2⟩
      · have HCON := Aside0.mk (show (i : Nat) = 3 from hi)
        obtain rfl : i = 3 := hi
        have AX := Aside0.mk (show Ax w w0 g gr gx s3 #[.int .i64 x0, .int .i64 x1, .int .i64 x2, .int .i64 0, .int .i64 0, .int .i64 0, .bool false, .string ⟨#[]⟩, .int .i64 0, .slice none 0 0] wr from HA.out)
        have hpp : wr.cell? ⟨gp, 3, none⟩ = some (.pointer (some ⟨gx, 3, none⟩)) := (blk_cell HPB.out 3).trans rfl
        clear HA HCON
        go_wp2_with (go_at_call 43; refine (numC w0 g 32 s3 _ AX.out.tk HE x3 s4 H3.out).mono ?_; rintro e w2 ⟨rfl, hT, hF⟩; replace AX := Aside0.mk (AX.out.call hT hF); replace HPB := Aside0.mk (blk_fr HPB.out hF HPN.out.2); clear hpp; have k_ : w2.cell? ⟨gx, 3, none⟩ = some (.int .i64 0) := (blk_cell AX.out.c 3).trans rfl; have f_ := blk_frozen AX.out.c 3; clear hT hF)
        have HP2 := Aside0.mk (blk_far HPB.out HPN.out.1 (.int .i64 x3) : (w2.setCell ⟨gx, 3, none⟩ (.int .i64 x3)).heap[gp]? = _)
        have AX2 := Aside0.mk (AX.out.put 3 (.int .i64 x3) (cs1 := #[.int .i64 x0, .int .i64 x1, .int .i64 x2, .int .i64 x3, .int .i64 0, .int .i64 0, .bool false, .string ⟨#[]⟩, .int .i64 0, .slice none 0 0]) rfl)
        go_roundg k1
        case measure => have := HX.out; omega
        case rel =>
          have h1 := HX.out
          exact ⟨4, rfl, ⟨by omega⟩, AX2, HP2⟩
      · have HCON := Aside0.mk (show (i : Nat) = 4 from hi)
        obtain rfl : i = 4 := hi
        have AX := Aside0.mk (show Ax w w0 g gr gx s4 #[.int .i64 x0, .int .i64 x1, .int .i64 x2, .int .i64 x3, .int .i64 0, .int .i64 0, .bool false, .string ⟨#[]⟩, .int .i64 0, .slice none 0 0] wr from HA.out)
        have hpp : wr.cell? ⟨gp, 4, none⟩ = some (.pointer (some ⟨gx, 4, none⟩)) := (blk_cell HPB.out 4).trans rfl
        clear HA HCON
        go_wp2_with (go_at_call 43; refine (numC w0 g 32 s4 _ AX.out.tk HE x4 s5 H4.out).mono ?_; rintro e w2 ⟨rfl, hT, hF⟩; replace AX := Aside0.mk (AX.out.call hT hF); replace HPB := Aside0.mk (blk_fr HPB.out hF HPN.out.2); clear hpp; have k_ : w2.cell? ⟨gx, 4, none⟩ = some (.int .i64 0) := (blk_cell AX.out.c 4).trans rfl; have f_ := blk_frozen AX.out.c 4; clear hT hF)
        have HP2 := Aside0.mk (blk_far HPB.out HPN.out.1 (.int .i64 x4) : (w2.setCell ⟨gx, 4, none⟩ (.int .i64 x4)).heap[gp]? = _)
        have AX2 := Aside0.mk (AX.out.put 4 (.int .i64 x4) (cs1 := #[.int .i64 x0, .int .i64 x1, .int .i64 x2, .int .i64 x3, .int .i64 x4, .int .i64 0, .bool false, .string ⟨#[]⟩, .int .i64 0, .slice none 0 0]) rfl)
        go_roundg k1
        case measure => have := HX.out; omega
        case rel =>
          have h1 := HX.out
          exact ⟨5, rfl, ⟨by omega⟩, AX2, HP2⟩
      · have HCON := Aside0.mk (show (i : Nat) = 5 from hi)
        obtain rfl : i = 5 := hi
        have AX := Aside0.mk (show Ax w w0 g gr gx s5 #[.int .i64 x0, .int .i64 x1, .int .i64 x2, .int .i64 x3, .int .i64 x4, .int .i64 0, .bool false, .string ⟨#[]⟩, .int .i64 0, .slice none 0 0] wr from HA.out)
        have hpp : wr.cell? ⟨gp, 5, none⟩ = some (.pointer (some ⟨gx, 5, none⟩)) := (blk_cell HPB.out 5).trans rfl
        clear HA HCON
        go_wp2_with (go_at_call 43; refine (numC w0 g 32 s5 _ AX.out.tk HE x5 s6 H5.out).mono ?_; rintro e w2 ⟨rfl, hT, hF⟩; replace AX := Aside0.mk (AX.out.call hT hF); replace HPB := Aside0.mk (blk_fr HPB.out hF HPN.out.2); clear hpp; have k_ : w2.cell? ⟨gx, 5, none⟩ = some (.int .i64 0) := (blk_cell AX.out.c 5).trans rfl; have f_ := blk_frozen AX.out.c 5; clear hT hF)
        have HP2 := Aside0.mk (blk_far HPB.out HPN.out.1 (.int .i64 x5) : (w2.setCell ⟨gx, 5, none⟩ (.int .i64 x5)).heap[gp]? = _)
        have AX2 := Aside0.mk (AX.out.put 5 (.int .i64 x5) (cs1 := #[.int .i64 x0, .int .i64 x1, .int .i64 x2, .int .i64 x3, .int .i64 x4, .int .i64 x5, .bool false, .string ⟨#[]⟩, .int .i64 0, .slice none 0 0]) rfl)
        go_roundg k1
        case measure => have := HX.out; omega
        case rel =>
          have h1 := HX.out
          exact ⟨6, rfl, ⟨by omega⟩, AX2, HP2⟩
      · obtain rfl : i = 6 := hi
        have AX := Aside0.mk (show Ax w w0 g gr gx s6 #[.int .i64 x0, .int .i64 x1, .int .i64 x2, .int .i64 x3, .int .i64 x4, .int .i64 x5, .bool false, .string ⟨#[]⟩, .int .i64 0, .slice none 0 0] wr from HA.out)
        clear HA HX HPB HPN
        go_upto_region 8 with (go_at_call 44; refine (letC w0 g 103 s6 _ AX.out.tk b1 s7 H7.out).mono ?_; rintro e w2 ⟨rfl, hT, hF⟩; replace AX := Aside0.mk (AX.out.call hT hF); clear hT hF; have k_ : w2.cell? ⟨gx, 6, none⟩ = some (.bool false) := (blk_cell AX.out.c 6).trans rfl; have f_ := blk_frozen AX.out.c 6)
        replace AX := Aside0.mk (AX.out.put 6 (.bool b1) (cs1 := #[.int .i64 x0, .int .i64 x1, .int .i64 x2, .int .i64 x3, .int .i64 x4, .int .i64 x5, .bool b1, .string ⟨#[]⟩, .int .i64 0, .slice none 0 0]) rfl)
        refine hide_ (fun W => Ax w w0 g gr gx s7 #[.int .i64 x0, .int .i64 x1, .int .i64 x2, .int .i64 x3, .int .i64 x4, .int .i64 x5, .bool b1, .string ⟨#[]⟩, .int .i64 0, .slice none 0 0] W) AX.out ?_
        intro w3 ax3
        replace AX := Aside0.mk ax3
        clear k_ f_ ax3
        go_upto_region 9 with (go_at_call 45; refine (textC w0 g s7 _ AX.out.tk HE t1 s8 H8.out).mono ?_; rintro e w4 ⟨rfl, hT, hF⟩; replace AX := Aside0.mk (AX.out.call hT hF); clear hT hF; have k_ : w4.cell? ⟨gx, 7, none⟩ = some (.string ⟨#[]⟩) := (blk_cell AX.out.c 7).trans rfl; have f_ := blk_frozen AX.out.c 7)
        replace AX := Aside0.mk (AX.out.put 7 (.string ⟨t1.toArray⟩) (cs1 := #[.int .i64 x0, .int .i64 x1, .int .i64 x2, .int .i64 x3, .int .i64 x4, .int .i64 x5, .bool b1, .string ⟨t1.toArray⟩, .int .i64 0, .slice none 0 0]) rfl)
        refine hide_ (fun W => Ax w w0 g gr gx s8 #[.int .i64 x0, .int .i64 x1, .int .i64 x2, .int .i64 x3, .int .i64 x4, .int .i64 x5, .bool b1, .string ⟨t1.toArray⟩, .int .i64 0, .slice none 0 0] W) AX.out ?_
        intro w5 ax5
        replace AX := Aside0.mk ax5
        clear k_ f_ ax5
        have q1 : w5.cell? ⟨g, 1, none⟩ = some (.bool s8.2) := AX.out.tk.c1
        have hM := HMM.out
        by_cases hk : x0 = 9
        · have hkb : (x0 == 9) = true := by rw [hk]; rfl
          have hkc : decide (x0 = 9) = true := decide_eq_true hk
          cases hs : s8.2
          · rw [if_pos ⟨hk, hs⟩] at hM
            obtain ⟨⟨c1, s9⟩, hc⟩ : ∃ k, configM s8 = k := ⟨_, rfl⟩
            rw [hc] at hM
            obtain ⟨rfl, rfl⟩ : (⟨x0, x1, x2, x3, x4, x5, b1, ⟨t1.toArray⟩, c1⟩ : S40) = x ∧ s9 = sF := by simpa using hM
            have HCC := Aside0.mk hc
            rw [hs] at q1
            clear hM HMM hc hs hk
            have cq : w5.cell? ⟨gx, 0, none⟩ = some (.int .i64 x0) := (blk_cell AX.out.c 0).trans rfl
            go_upto_region 11 with (go_at_call 46; refine (configC w0 g s8 _ AX.out.tk HE c1 s9 HCC.out).mono ?_; rintro e w6 ⟨v, rfl, hv, hT, hF⟩; have HW5 := Aside0.mk AX.out.fr.size; replace AX := Aside0.mk (AX.out.call hT hF); have HV := Aside0.mk hv; clear hT hF hv cq q1; obtain ⟨VA, vc, hv2⟩ := Kd.R_slice HV.out; obtain ⟨ln, hln⟩ : ∃ n, c1.f1.length = n := ⟨_, rfl⟩; rw [hln] at hv2; clear hln; subst hv2; have k8 : w6.cell? ⟨gx, 8, none⟩ = some (.int .i64 0) := (blk_cell AX.out.c 8).trans rfl; have f8 := blk_frozen AX.out.c 8; have k9 : w6.cell? ⟨gx, 9, none⟩ = some (.slice none 0 0) := (blk_cell AX.out.c 9).trans rfl; have f9 := blk_frozen AX.out.c 9)
            replace HV := Aside0.mk (Kd.R_set HV.out AX.out.c (by decide) 8 (.int .i64 c1.f0))
            replace AX := Aside0.mk (AX.out.put 8 (.int .i64 c1.f0) (cs1 := #[.int .i64 x0, .int .i64 x1, .int .i64 x2, .int .i64 x3, .int .i64 x4, .int .i64 x5, .bool b1, .string ⟨t1.toArray⟩, .int .i64 c1.f0, .slice none 0 0]) rfl)
            replace HV := Aside0.mk (Kd.R_set HV.out AX.out.c (by decide) 9 (.slice VA ln vc))
            replace AX := Aside0.mk (AX.out.put 9 (.slice VA ln vc) (cs1 := #[.int .i64 x0, .int .i64 x1, .int .i64 x2, .int .i64 x3, .int .i64 x4, .int .i64 x5, .bool b1, .string ⟨t1.toArray⟩, .int .i64 c1.f0, .slice VA ln vc]) rfl)
            refine hide_ (fun W => Ax w w0 g gr gx s9 #[.int .i64 x0, .int .i64 x1, .int .i64 x2, .int .i64 x3, .int .i64 x4, .int .i64 x5, .bool b1, .string ⟨t1.toArray⟩, .int .i64 c1.f0, .slice VA ln vc] W ∧ Kd.R k63 63 W w5.heap.size (fun _ => True) (.slice VA ln vc) c1.f1) ⟨AX.out, HV.out⟩ ?_
            intro w7 ⟨ax7, hv7⟩
            replace AX := Aside0.mk ax7
            replace HV := Aside0.mk hv7
            clear k8 f8 k9 f9 ax7 hv7
            have c0_ : (w7).cell? ⟨gx, 0, none⟩ = some (.int .i64 x0) := (blk_cell AX.out.c 0).trans rfl
            have c1_ : (w7).cell? ⟨gx, 1, none⟩ = some (.int .i64 x1) := (blk_cell AX.out.c 1).trans rfl
            have c2_ : (w7).cell? ⟨gx, 2, none⟩ = some (.int .i64 x2) := (blk_cell AX.out.c 2).trans rfl
            have c3_ : (w7).cell? ⟨gx, 3, none⟩ = some (.int .i64 x3) := (blk_cell AX.out.c 3).trans rfl
            have c4_ : (w7).cell? ⟨gx, 4, none⟩ = some (.int .i64 x4) := (blk_cell AX.out.c 4).trans rfl
            have c5_ : (w7).cell? ⟨gx, 5, none⟩ = some (.int .i64 x5) := (blk_cell AX.out.c 5).trans rfl
            have c6_ : (w7).cell? ⟨gx, 6, none⟩ = some (.bool b1) := (blk_cell AX.out.c 6).trans rfl
            have c7_ : (w7).cell? ⟨gx, 7, none⟩ = some (.string ⟨t1.toArray⟩) := (blk_cell AX.out.c 7).trans rfl
            have c8_ : (w7).cell? ⟨gx, 8, none⟩ = some (.int .i64 c1.f0) := (blk_cell AX.out.c 8).trans rfl
            have c9_ : (w7).cell? ⟨gx, 9, none⟩ = some (.slice VA ln vc) := (blk_cell AX.out.c 9).trans rfl
            have r0_ : (w7).cell? ⟨gr, 0, none⟩ = some (.int .i64 0) := (blk_cell AX.out.r 0).trans rfl
            have fr0_ := blk_frozen AX.out.r 0
            have r1_ : (w7).cell? ⟨gr, 1, none⟩ = some (.int .i64 0) := (blk_cell AX.out.r 1).trans rfl
            have fr1_ := blk_frozen AX.out.r 1
            have r2_ : (w7).cell? ⟨gr, 2, none⟩ = some (.int .i64 0) := (blk_cell AX.out.r 2).trans rfl
            have fr2_ := blk_frozen AX.out.r 2
            have r3_ : (w7).cell? ⟨gr, 3, none⟩ = some (.int .i64 0) := (blk_cell AX.out.r 3).trans rfl
            have fr3_ := blk_frozen AX.out.r 3
            have r4_ : (w7).cell? ⟨gr, 4, none⟩ = some (.int .i64 0) := (blk_cell AX.out.r 4).trans rfl
            have fr4_ := blk_frozen AX.out.r 4
            have r5_ : (w7).cell? ⟨gr, 5, none⟩ = some (.int .i64 0) := (blk_cell AX.out.r 5).trans rfl
            have fr5_ := blk_frozen AX.out.r 5
            have r6_ : (w7).cell? ⟨gr, 6, none⟩ = some (.bool false) := (blk_cell AX.out.r 6).trans rfl
            have fr6_ := blk_frozen AX.out.r 6
            have r7_ : (w7).cell? ⟨gr, 7, none⟩ = some (.string ⟨#[]⟩) := (blk_cell AX.out.r 7).trans rfl
            have fr7_ := blk_frozen AX.out.r 7
            have r8_ : (w7).cell? ⟨gr, 8, none⟩ = some (.int .i64 0) := (blk_cell AX.out.r 8).trans rfl
            have fr8_ := blk_frozen AX.out.r 8
            have r9_ : (w7).cell? ⟨gr, 9, none⟩ = some (.slice none 0 0) := (blk_cell AX.out.r 9).trans rfl
            have fr9_ := blk_frozen AX.out.r 9
            go_wp2_with fail
            have hz : (((((((((((w7).setCell ⟨gr, 0, none⟩ (.int .i64 x0)).setCell ⟨gr, 1, none⟩ (.int .i64 x1)).setCell ⟨gr, 2, none⟩ (.int .i64 x2)).setCell ⟨gr, 3, none⟩ (.int .i64 x3)).setCell ⟨gr, 4, none⟩ (.int .i64 x4)).setCell ⟨gr, 5, none⟩ (.int .i64 x5)).setCell ⟨gr, 6, none⟩ (.bool b1)).setCell ⟨gr, 7, none⟩ (.string ⟨t1.toArray⟩)).setCell ⟨gr, 8, none⟩ (.int .i64 c1.f0)).setCell ⟨gr, 9, none⟩ (.slice VA ln vc)).heap[gr]? = some (.cells #[.int .i64 x0, .int .i64 x1, .int .i64 x2, .int .i64 x3, .int .i64 x4, .int .i64 x5, .bool b1, .string ⟨t1.toArray⟩, .int .i64 c1.f0, .slice VA ln vc] 40 (0, 0)) := by refine blk_put (cs := #[.int .i64 x0, .int .i64 x1, .int .i64 x2, .int .i64 x3, .int .i64 x4, .int .i64 x5, .bool b1, .string ⟨t1.toArray⟩, .int .i64 c1.f0, .slice none 0 0]) ?_ 9 _ rfl; refine blk_put (cs := #[.int .i64 x0, .int .i64 x1, .int .i64 x2, .int .i64 x3, .int .i64 x4, .int .i64 x5, .bool b1, .string ⟨t1.toArray⟩, .int .i64 0, .slice none 0 0]) ?_ 8 _ rfl; refine blk_put (cs := #[.int .i64 x0, .int .i64 x1, .int .i64 x2, .int .i64 x3, .int .i64 x4, .int .i64 x5, .bool b1, .string ⟨#[]⟩, .int .i64 0, .slice none 0 0]) ?_ 7 _ rfl; refine blk_put (cs := #[.int .i64 x0, .int .i64 x1, .int .i64 x2, .int .i64 x3, .int .i64 x4, .int .i64 x5, .bool false, .string ⟨#[]⟩, .int .i64 0, .slice none 0 0]) ?_ 6 _ rfl; refine blk_put (cs := #[.int .i64 x0, .int .i64 x1, .int .i64 x2, .int .i64 x3, .int .i64 x4, .int .i64 0, .bool false, .string ⟨#[]⟩, .int .i64 0, .slice none 0 0]) ?_ 5 _ rfl; refine blk_put (cs := #[.int .i64 x0, .int .i64 x1, .int .i64 x2, .int .i64 x3, .int .i64 0, .int .i64 0, .bool false, .string ⟨#[]⟩, .int .i64 0, .slice none 0 0]) ?_ 4 _ rfl; refine blk_put (cs := #[.int .i64 x0, .int .i64 x1, .int .i64 x2, .int .i64 0, .int .i64 0, .int .i64 0, .bool false, .string ⟨#[]⟩, .int .i64 0, .slice none 0 0]) ?_ 3 _ rfl; refine blk_put (cs := #[.int .i64 x0, .int .i64 x1, .int .i64 0, .int .i64 0, .int .i64 0, .int .i64 0, .bool false, .string ⟨#[]⟩, .int .i64 0, .slice none 0 0]) ?_ 2 _ rfl; refine blk_put (cs := #[.int .i64 x0, .int .i64 0, .int .i64 0, .int .i64 0, .int .i64 0, .int .i64 0, .bool false, .string ⟨#[]⟩, .int .i64 0, .slice none 0 0]) ?_ 1 _ rfl; refine blk_put (cs := #[.int .i64 0, .int .i64 0, .int .i64 0, .int .i64 0, .int .i64 0, .int .i64 0, .bool false, .string ⟨#[]⟩, .int .i64 0, .slice none 0 0]) ?_ 0 _ rfl; exact AX.out.r
            have hbz : Below w.heap.size (w7) (((((((((((w7).setCell ⟨gr, 0, none⟩ (.int .i64 x0)).setCell ⟨gr, 1, none⟩ (.int .i64 x1)).setCell ⟨gr, 2, none⟩ (.int .i64 x2)).setCell ⟨gr, 3, none⟩ (.int .i64 x3)).setCell ⟨gr, 4, none⟩ (.int .i64 x4)).setCell ⟨gr, 5, none⟩ (.int .i64 x5)).setCell ⟨gr, 6, none⟩ (.bool b1)).setCell ⟨gr, 7, none⟩ (.string ⟨t1.toArray⟩)).setCell ⟨gr, 8, none⟩ (.int .i64 c1.f0)).setCell ⟨gr, 9, none⟩ (.slice VA ln vc)) := (((((((((((Below.refl w.heap.size (w7)).trans (below_put _ AX.out.pl.2.1 0 _)).trans (below_put _ AX.out.pl.2.1 1 _)).trans (below_put _ AX.out.pl.2.1 2 _)).trans (below_put _ AX.out.pl.2.1 3 _)).trans (below_put _ AX.out.pl.2.1 4 _)).trans (below_put _ AX.out.pl.2.1 5 _)).trans (below_put _ AX.out.pl.2.1 6 _)).trans (below_put _ AX.out.pl.2.1 7 _)).trans (below_put _ AX.out.pl.2.1 8 _)).trans (below_put _ AX.out.pl.2.1 9 _))
            refine bodyPost_ret (results_cell_row rfl _ _ gr 40 #[.int .i64 x0, .int .i64 x1, .int .i64 x2, .int .i64 x3, .int .i64 x4, .int .i64 x5, .bool b1, .string ⟨t1.toArray⟩, .int .i64 c1.f0, .slice VA ln vc] (0, 0) _ rfl hz Tryd.underlying40 rfl (by kernel_rfl)) rfl ?_
            refine ⟨_, rfl, Kd.R_lower (Kd.R_set (Kd.R_set (Kd.R_set (Kd.R_set (Kd.R_set (Kd.R_set (Kd.R_set (Kd.R_set (Kd.R_set (Kd.R_set HV.out AX.out.r (by decide) 0 (.int .i64 x0)) (blk_put (cs' := #[.int .i64 x0, .int .i64 0, .int .i64 0, .int .i64 0, .int .i64 0, .int .i64 0, .bool false, .string ⟨#[]⟩, .int .i64 0, .slice none 0 0]) AX.out.r 0 (.int .i64 x0) rfl) (by decide) 1 (.int .i64 x1)) (blk_put (cs' := #[.int .i64 x0, .int .i64 x1, .int .i64 0, .int .i64 0, .int .i64 0, .int .i64 0, .bool false, .string ⟨#[]⟩, .int .i64 0, .slice none 0 0]) (blk_put (cs' := #[.int .i64 x0, .int .i64 0, .int .i64 0, .int .i64 0, .int .i64 0, .int .i64 0, .bool false, .string ⟨#[]⟩, .int .i64 0, .slice none 0 0]) AX.out.r 0 (.int .i64 x0) rfl) 1 (.int .i64 x1) rfl) (by decide) 2 (.int .i64 x2)) (blk_put (cs' := #[.int .i64 x0, .int .i64 x1, .int .i64 x2, .int .i64 0, .int .i64 0, .int .i64 0, .bool false, .string ⟨#[]⟩, .int .i64 0, .slice none 0 0]) (blk_put (cs' := #[.int .i64 x0, .int .i64 x1, .int .i64 0, .int .i64 0, .int .i64 0, .int .i64 0, .bool false, .string ⟨#[]⟩, .int .i64 0, .slice none 0 0]) (blk_put (cs' := #[.int .i64 x0, .int .i64 0, .int .i64 0, .int .i64 0, .int .i64 0, .int .i64 0, .bool false, .string ⟨#[]⟩, .int .i64 0, .slice none 0 0]) AX.out.r 0 (.int .i64 x0) rfl) 1 (.int .i64 x1) rfl) 2 (.int .i64 x2) rfl) (by decide) 3 (.int .i64 x3)) (blk_put (cs' := #[.int .i64 x0, .int .i64 x1, .int .i64 x2, .int .i64 x3, .int .i64 0, .int .i64 0, .bool false, .string ⟨#[]⟩, .int .i64 0, .slice none 0 0]) (blk_put (cs' := #[.int .i64 x0, .int .i64 x1, .int .i64 x2, .int .i64 0, .int .i64 0, .int .i64 0, .bool false, .string ⟨#[]⟩, .int .i64 0, .slice none 0 0]) (blk_put (cs' := #[.int .i64 x0, .int .i64 x1, .int .i64 0, .int .i64 0, .int .i64 0, .int .i64 0, .bool false, .string ⟨#[]⟩, .int .i64 0, .slice none 0 0]) (blk_put (cs' := #[.int .i64 x0, .int .i64 0, .int .i64 0, .int .i64 0, .int .i64 0, .int .i64 0, .bool false, .string ⟨#[]⟩, .int .i64 0, .slice none 0 0]) AX.out.r 0 (.int .i64 x0) rfl) 1 (.int .i64 x1) rfl) 2 (.int .i64 x2) rfl) 3 (.int .i64 x3) rfl) (by decide) 4 (.int .i64 x4)) (blk_put (cs' := #[.int .i64 x0, .int .i64 x1, .int .i64 x2, .int .i64 x3, .int .i64 x4, .int .i64 0, .bool false, .string ⟨#[]⟩, .int .i64 0, .slice none 0 0]) (blk_put (cs' := #[.int .i64 x0, .int .i64 x1, .int .i64 x2, .int .i64 x3, .int .i64 0, .int .i64 0, .bool false, .string ⟨#[]⟩, .int .i64 0, .slice none 0 0]) (blk_put (cs' := #[.int .i64 x0, .int .i64 x1, .int .i64 x2, .int .i64 0, .int .i64 0, .int .i64 0, .bool false, .string ⟨#[]⟩, .int .i64 0, .slice none 0 0]) (blk_put (cs' := #[.int .i64 x0, .int .i64 x1, .int .i64 0, .int .i64 0, .int .i64 0, .int .i64 0, .bool false, .string ⟨#[]⟩, .int .i64 0, .slice none 0 0]) (blk_put (cs' := #[.int .i64 x0, .int .i64 0, .int .i64 0, .int .i64 0, .int .i64 0, .int .i64 0, .bool false, .string ⟨#[]⟩, .int .i64 0, .slice none 0 0]) AX.out.r 0 (.int .i64 x0) rfl) 1 (.int .i64 x1) rfl) 2 (.int .i64 x2) rfl) 3 (.int .i64 x3) rfl) 4 (.int .i64 x4) rfl) (by decide) 5 (.int .i64 x5)) (blk_put (cs' := #[.int .i64 x0, .int .i64 x1, .int .i64 x2, .int .i64 x3, .int .i64 x4, .int .i64 x5, .bool false, .string ⟨#[]⟩, .int .i64 0, .slice none 0 0]) (blk_put (cs' := #[.int .i64 x0, .int .i64 x1, .int .i64 x2, .int .i64 x3, .int .i64 x4, .int .i64 0, .bool false, .string ⟨#[]⟩, .int .i64 0, .slice none 0 0]) (blk_put (cs' := #[.int .i64 x0, .int .i64 x1, .int .i64 x2, .int .i64 x3, .int .i64 0, .int .i64 0, .bool false, .string ⟨#[]⟩, .int .i64 0, .slice none 0 0]) (blk_put (cs' := #[.int .i64 x0, .int .i64 x1, .int .i64 x2, .int .i64 0, .int .i64 0, .int .i64 0, .bool false, .string ⟨#[]⟩, .int .i64 0, .slice none 0 0]) (blk_put (cs' := #[.int .i64 x0, .int .i64 x1, .int .i64 0, .int .i64 0, .int .i64 0, .int .i64 0, .bool false, .string ⟨#[]⟩, .int .i64 0, .slice none 0 0]) (blk_put (cs' := #[.int .i64 x0, .int .i64 0, .int .i64 0, .int .i64 0, .int .i64 0, .int .i64 0, .bool false, .string ⟨#[]⟩, .int .i64 0, .slice none 0 0]) AX.out.r 0 (.int .i64 x0) rfl) 1 (.int .i64 x1) rfl) 2 (.int .i64 x2) rfl) 3 (.int .i64 x3) rfl) 4 (.int .i64 x4) rfl) 5 (.int .i64 x5) rfl) (by decide) 6 (.bool b1)) (blk_put (cs' := #[.int .i64 x0, .int .i64 x1, .int .i64 x2, .int .i64 x3, .int .i64 x4, .int .i64 x5, .bool b1, .string ⟨#[]⟩, .int .i64 0, .slice none 0 0]) (blk_put (cs' := #[.int .i64 x0, .int .i64 x1, .int .i64 x2, .int .i64 x3, .int .i64 x4, .int .i64 x5, .bool false, .string ⟨#[]⟩, .int .i64 0, .slice none 0 0]) (blk_put (cs' := #[.int .i64 x0, .int .i64 x1, .int .i64 x2, .int .i64 x3, .int .i64 x4, .int .i64 0, .bool false, .string ⟨#[]⟩, .int .i64 0, .slice none 0 0]) (blk_put (cs' := #[.int .i64 x0, .int .i64 x1, .int .i64 x2, .int .i64 x3, .int .i64 0, .int .i64 0, .bool false, .string ⟨#[]⟩, .int .i64 0, .slice none 0 0]) (blk_put (cs' := #[.int .i64 x0, .int .i64 x1, .int .i64 x2, .int .i64 0, .int .i64 0, .int .i64 0, .bool false, .string ⟨#[]⟩, .int .i64 0, .slice none 0 0]) (blk_put (cs' := #[.int .i64 x0, .int .i64 x1, .int .i64 0, .int .i64 0, .int .i64 0, .int .i64 0, .bool false, .string ⟨#[]⟩, .int .i64 0, .slice none 0 0]) (blk_put (cs' := #[.int .i64 x0, .int .i64 0, .int .i64 0, .int .i64 0, .int .i64 0, .int .i64 0, .bool false, .string ⟨#[]⟩, .int .i64 0, .slice none 0 0]) AX.out.r 0 (.int .i64 x0) rfl) 1 (.int .i64 x1) rfl) 2 (.int .i64 x2) rfl) 3 (.int .i64 x3) rfl) 4 (.int .i64 x4) rfl) 5 (.int .i64 x5) rfl) 6 (.bool b1) rfl) (by decide) 7 (.string ⟨t1.toArray⟩)) (blk_put (cs' := #[.int .i64 x0, .int .i64 x1, .int .i64 x2, .int .i64 x3, .int .i64 x4, .int .i64 x5, .bool b1, .string ⟨t1.toArray⟩, .int .i64 0, .slice none 0 0]) (blk_put (cs' := #[.int .i64 x0, .int .i64 x1, .int .i64 x2, .int .i64 x3, .int .i64 x4, .int .i64 x5, .bool b1, .string ⟨#[]⟩, .int .i64 0, .slice none 0 0]) (blk_put (cs' := #[.int .i64 x0, .int .i64 x1, .int .i64 x2, .int .i64 x3, .int .i64 x4, .int .i64 x5, .bool false, .string ⟨#[]⟩, .int .i64 0, .slice none 0 0]) (blk_put (cs' := #[.int .i64 x0, .int .i64 x1, .int .i64 x2, .int .i64 x3, .int .i64 x4, .int .i64 0, .bool false, .string ⟨#[]⟩, .int .i64 0, .slice none 0 0]) (blk_put (cs' := #[.int .i64 x0, .int .i64 x1, .int .i64 x2, .int .i64 x3, .int .i64 0, .int .i64 0, .bool false, .string ⟨#[]⟩, .int .i64 0, .slice none 0 0]) (blk_put (cs' := #[.int .i64 x0, .int .i64 x1, .int .i64 x2, .int .i64 0, .int .i64 0, .int .i64 0, .bool false, .string ⟨#[]⟩, .int .i64 0, .slice none 0 0]) (blk_put (cs' := #[.int .i64 x0, .int .i64 x1, .int .i64 0, .int .i64 0, .int .i64 0, .int .i64 0, .bool false, .string ⟨#[]⟩, .int .i64 0, .slice none 0 0]) (blk_put (cs' := #[.int .i64 x0, .int .i64 0, .int .i64 0, .int .i64 0, .int .i64 0, .int .i64 0, .bool false, .string ⟨#[]⟩, .int .i64 0, .slice none 0 0]) AX.out.r 0 (.int .i64 x0) rfl) 1 (.int .i64 x1) rfl) 2 (.int .i64 x2) rfl) 3 (.int .i64 x3) rfl) 4 (.int .i64 x4) rfl) 5 (.int .i64 x5) rfl) 6 (.bool b1) rfl) 7 (.string ⟨t1.toArray⟩) rfl) (by decide) 8 (.int .i64 c1.f0)) (blk_put (cs' := #[.int .i64 x0, .int .i64 x1, .int .i64 x2, .int .i64 x3, .int .i64 x4, .int .i64 x5, .bool b1, .string ⟨t1.toArray⟩, .int .i64 c1.f0, .slice none 0 0]) (blk_put (cs' := #[.int .i64 x0, .int .i64 x1, .int .i64 x2, .int .i64 x3, .int .i64 x4, .int .i64 x5, .bool b1, .string ⟨t1.toArray⟩, .int .i64 0, .slice none 0 0]) (blk_put (cs' := #[.int .i64 x0, .int .i64 x1, .int .i64 x2, .int .i64 x3, .int .i64 x4, .int .i64 x5, .bool b1, .string ⟨#[]⟩, .int .i64 0, .slice none 0 0]) (blk_put (cs' := #[.int .i64 x0, .int .i64 x1, .int .i64 x2, .int .i64 x3, .int .i64 x4, .int .i64 x5, .bool false, .string ⟨#[]⟩, .int .i64 0, .slice none 0 0]) (blk_put (cs' := #[.int .i64 x0, .int .i64 x1, .int .i64 x2, .int .i64 x3, .int .i64 x4, .int .i64 0, .bool false, .string ⟨#[]⟩, .int .i64 0, .slice none 0 0]) (blk_put (cs' := #[.int .i64 x0, .int .i64 x1, .int .i64 x2, .int .i64 x3, .int .i64 0, .int .i64 0, .bool false, .string ⟨#[]⟩, .int .i64 0, .slice none 0 0]) (blk_put (cs' := #[.int .i64 x0, .int .i64 x1, .int .i64 x2, .int .i64 0, .int .i64 0, .int .i64 0, .bool false, .string ⟨#[]⟩, .int .i64 0, .slice none 0 0]) (blk_put (cs' := #[.int .i64 x0, .int .i64 x1, .int .i64 0, .int .i64 0, .int .i64 0, .int .i64 0, .bool false, .string ⟨#[]⟩, .int .i64 0, .slice none 0 0]) (blk_put (cs' := #[.int .i64 x0, .int .i64 0, .int .i64 0, .int .i64 0, .int .i64 0, .int .i64 0, .bool false, .string ⟨#[]⟩, .int .i64 0, .slice none 0 0]) AX.out.r 0 (.int .i64 x0) rfl) 1 (.int .i64 x1) rfl) 2 (.int .i64 x2) rfl) 3 (.int .i64 x3) rfl) 4 (.int .i64 x4) rfl) 5 (.int .i64 x5) rfl) 6 (.bool b1) rfl) 7 (.string ⟨t1.toArray⟩) rfl) 8 (.int .i64 c1.f0) rfl) (by decide) 9 (.slice VA ln vc)) HW5.out, AX.out.tk.lowN hbz AX.out.pl.1 AX.out.pl.2.2.2.2, AX.out.fr.low hbz (Nat.le_refl _) AX.out.fr.size⟩
          · rw [if_neg (fun q => by rw [hs] at q; exact absurd q.2 (by decide))] at hM
            obtain ⟨rfl, rfl⟩ : (⟨x0, x1, x2, x3, x4, x5, b1, ⟨t1.toArray⟩, ⟨0, []⟩⟩ : S40) = x ∧ s8 = sF := by simpa using hM
            rw [hs] at q1
            clear hM HMM hs hk
            have c0_ : (w5).cell? ⟨gx, 0, none⟩ = some (.int .i64 x0) := (blk_cell AX.out.c 0).trans rfl
            have c1_ : (w5).cell? ⟨gx, 1, none⟩ = some (.int .i64 x1) := (blk_cell AX.out.c 1).trans rfl
            have c2_ : (w5).cell? ⟨gx, 2, none⟩ = some (.int .i64 x2) := (blk_cell AX.out.c 2).trans rfl
            have c3_ : (w5).cell? ⟨gx, 3, none⟩ = some (.int .i64 x3) := (blk_cell AX.out.c 3).trans rfl
            have c4_ : (w5).cell? ⟨gx, 4, none⟩ = some (.int .i64 x4) := (blk_cell AX.out.c 4).trans rfl
            have c5_ : (w5).cell? ⟨gx, 5, none⟩ = some (.int .i64 x5) := (blk_cell AX.out.c 5).trans rfl
            have c6_ : (w5).cell? ⟨gx, 6, none⟩ = some (.bool b1) := (blk_cell AX.out.c 6).trans rfl
            have c7_ : (w5).cell? ⟨gx, 7, none⟩ = some (.string ⟨t1.toArray⟩) := (blk_cell AX.out.c 7).trans rfl
            have c8_ : (w5).cell? ⟨gx, 8, none⟩ = some (.int .i64 0) := (blk_cell AX.out.c 8).trans rfl
            have c9_ : (w5).cell? ⟨gx, 9, none⟩ = some (.slice none 0 0) := (blk_cell AX.out.c 9).trans rfl
            have r0_ : (w5).cell? ⟨gr, 0, none⟩ = some (.int .i64 0) := (blk_cell AX.out.r 0).trans rfl
            have fr0_ := blk_frozen AX.out.r 0
            have r1_ : (w5).cell? ⟨gr, 1, none⟩ = some (.int .i64 0) := (blk_cell AX.out.r 1).trans rfl
            have fr1_ := blk_frozen AX.out.r 1
            have r2_ : (w5).cell? ⟨gr, 2, none⟩ = some (.int .i64 0) := (blk_cell AX.out.r 2).trans rfl
            have fr2_ := blk_frozen AX.out.r 2
            have r3_ : (w5).cell? ⟨gr, 3, none⟩ = some (.int .i64 0) := (blk_cell AX.out.r 3).trans rfl
            have fr3_ := blk_frozen AX.out.r 3
            have r4_ : (w5).cell? ⟨gr, 4, none⟩ = some (.int .i64 0) := (blk_cell AX.out.r 4).trans rfl
            have fr4_ := blk_frozen AX.out.r 4
            have r5_ : (w5).cell? ⟨gr, 5, none⟩ = some (.int .i64 0) := (blk_cell AX.out.r 5).trans rfl
            have fr5_ := blk_frozen AX.out.r 5
            have r6_ : (w5).cell? ⟨gr, 6, none⟩ = some (.bool false) := (blk_cell AX.out.r 6).trans rfl
            have fr6_ := blk_frozen AX.out.r 6
            have r7_ : (w5).cell? ⟨gr, 7, none⟩ = some (.string ⟨#[]⟩) := (blk_cell AX.out.r 7).trans rfl
            have fr7_ := blk_frozen AX.out.r 7
            have r8_ : (w5).cell? ⟨gr, 8, none⟩ = some (.int .i64 0) := (blk_cell AX.out.r 8).trans rfl
            have fr8_ := blk_frozen AX.out.r 8
            have r9_ : (w5).cell? ⟨gr, 9, none⟩ = some (.slice none 0 0) := (blk_cell AX.out.r 9).trans rfl
            have fr9_ := blk_frozen AX.out.r 9
            go_wp2_with fail
            have hz : (((((((((((w5).setCell ⟨gr, 0, none⟩ (.int .i64 x0)).setCell ⟨gr, 1, none⟩ (.int .i64 x1)).setCell ⟨gr, 2, none⟩ (.int .i64 x2)).setCell ⟨gr, 3, none⟩ (.int .i64 x3)).setCell ⟨gr, 4, none⟩ (.int .i64 x4)).setCell ⟨gr, 5, none⟩ (.int .i64 x5)).setCell ⟨gr, 6, none⟩ (.bool b1)).setCell ⟨gr, 7, none⟩ (.string ⟨t1.toArray⟩)).setCell ⟨gr, 8, none⟩ (.int .i64 0)).setCell ⟨gr, 9, none⟩ (.slice none 0 0)).heap[gr]? = some (.cells #[.int .i64 x0, .int .i64 x1, .int .i64 x2, .int .i64 x3, .int .i64 x4, .int .i64 x5, .bool b1, .string ⟨t1.toArray⟩, .int .i64 0, .slice none 0 0] 40 (0, 0)) := by refine blk_put (cs := #[.int .i64 x0, .int .i64 x1, .int .i64 x2, .int .i64 x3, .int .i64 x4, .int .i64 x5, .bool b1, .string ⟨t1.toArray⟩, .int .i64 0, .slice none 0 0]) ?_ 9 _ rfl; refine blk_put (cs := #[.int .i64 x0, .int .i64 x1, .int .i64 x2, .int .i64 x3, .int .i64 x4, .int .i64 x5, .bool b1, .string ⟨t1.toArray⟩, .int .i64 0, .slice none 0 0]) ?_ 8 _ rfl; refine blk_put (cs := #[.int .i64 x0, .int .i64 x1, .int .i64 x2, .int .i64 x3, .int .i64 x4, .int .i64 x5, .bool b1, .string ⟨#[]⟩, .int .i64 0, .slice none 0 0]) ?_ 7 _ rfl; refine blk_put (cs := #[.int .i64 x0, .int .i64 x1, .int .i64 x2, .int .i64 x3, .int .i64 x4, .int .i64 x5, .bool false, .string ⟨#[]⟩, .int .i64 0, .slice none 0 0]) ?_ 6 _ rfl; refine blk_put (cs := #[.int .i64 x0, .int .i64 x1, .int .i64 x2, .int .i64 x3, .int .i64 x4, .int .i64 0, .bool false, .string ⟨#[]⟩, .int .i64 0, .slice none 0 0]) ?_ 5 _ rfl; refine blk_put (cs := #[.int .i64 x0, .int .i64 x1, .int .i64 x2, .int .i64 x3, .int .i64 0, .int .i64 0, .bool false, .string ⟨#[]⟩, .int .i64 0, .slice none 0 0]) ?_ 4 _ rfl; refine blk_put (cs := #[.int .i64 x0, .int .i64 x1, .int .i64 x2, .int .i64 0, .int .i64 0, .int .i64 0, .bool false, .string ⟨#[]⟩, .int .i64 0, .slice none 0 0]) ?_ 3 _ rfl; refine blk_put (cs := #[.int .i64 x0, .int .i64 x1, .int .i64 0, .int .i64 0, .int .i64 0, .int .i64 0, .bool false, .string ⟨#[]⟩, .int .i64 0, .slice none 0 0]) ?_ 2 _ rfl; refine blk_put (cs := #[.int .i64 x0, .int .i64 0, .int .i64 0, .int .i64 0, .int .i64 0, .int .i64 0, .bool false, .string ⟨#[]⟩, .int .i64 0, .slice none 0 0]) ?_ 1 _ rfl; refine blk_put (cs := #[.int .i64 0, .int .i64 0, .int .i64 0, .int .i64 0, .int .i64 0, .int .i64 0, .bool false, .string ⟨#[]⟩, .int .i64 0, .slice none 0 0]) ?_ 0 _ rfl; exact AX.out.r
            have hbz : Below w.heap.size (w5) (((((((((((w5).setCell ⟨gr, 0, none⟩ (.int .i64 x0)).setCell ⟨gr, 1, none⟩ (.int .i64 x1)).setCell ⟨gr, 2, none⟩ (.int .i64 x2)).setCell ⟨gr, 3, none⟩ (.int .i64 x3)).setCell ⟨gr, 4, none⟩ (.int .i64 x4)).setCell ⟨gr, 5, none⟩ (.int .i64 x5)).setCell ⟨gr, 6, none⟩ (.bool b1)).setCell ⟨gr, 7, none⟩ (.string ⟨t1.toArray⟩)).setCell ⟨gr, 8, none⟩ (.int .i64 0)).setCell ⟨gr, 9, none⟩ (.slice none 0 0)) := (((((((((((Below.refl w.heap.size (w5)).trans (below_put _ AX.out.pl.2.1 0 _)).trans (below_put _ AX.out.pl.2.1 1 _)).trans (below_put _ AX.out.pl.2.1 2 _)).trans (below_put _ AX.out.pl.2.1 3 _)).trans (below_put _ AX.out.pl.2.1 4 _)).trans (below_put _ AX.out.pl.2.1 5 _)).trans (below_put _ AX.out.pl.2.1 6 _)).trans (below_put _ AX.out.pl.2.1 7 _)).trans (below_put _ AX.out.pl.2.1 8 _)).trans (below_put _ AX.out.pl.2.1 9 _))
            refine bodyPost_ret (results_cell_row rfl _ _ gr 40 #[.int .i64 x0, .int .i64 x1, .int .i64 x2, .int .i64 x3, .int .i64 x4, .int .i64 x5, .bool b1, .string ⟨t1.toArray⟩, .int .i64 0, .slice none 0 0] (0, 0) _ rfl hz Tryd.underlying40 rfl (by kernel_rfl)) rfl ?_
            refine ⟨_, rfl, Kd.R_nil _ _ _ _ _, AX.out.tk.lowN hbz AX.out.pl.1 AX.out.pl.2.2.2.2, AX.out.fr.low hbz (Nat.le_refl _) AX.out.fr.size⟩
        · have hkb : (x0 == 9) = false := beq_eq_false_iff_ne.2 hk
          have hkc : decide (x0 = 9) = false := decide_eq_false hk
          rw [if_neg (fun q => hk q.1)] at hM
          obtain ⟨rfl, rfl⟩ : (⟨x0, x1, x2, x3, x4, x5, b1, ⟨t1.toArray⟩, ⟨0, []⟩⟩ : S40) = x ∧ s8 = sF := by simpa using hM
          clear hM HMM hk
          have c0_ : (w5).cell? ⟨gx, 0, none⟩ = some (.int .i64 x0) := (blk_cell AX.out.c 0).trans rfl
          have c1_ : (w5).cell? ⟨gx, 1, none⟩ = some (.int .i64 x1) := (blk_cell AX.out.c 1).trans rfl
          have c2_ : (w5).cell? ⟨gx, 2, none⟩ = some (.int .i64 x2) := (blk_cell AX.out.c 2).trans rfl
          have c3_ : (w5).cell? ⟨gx, 3, none⟩ = some (.int .i64 x3) := (blk_cell AX.out.c 3).trans rfl
          have c4_ : (w5).cell? ⟨gx, 4, none⟩ = some (.int .i64 x4) := (blk_cell AX.out.c 4).trans rfl
          have c5_ : (w5).cell? ⟨gx, 5, none⟩ = some (.int .i64 x5) := (blk_cell AX.out.c 5).trans rfl
          have c6_ : (w5).cell? ⟨gx, 6, none⟩ = some (.bool b1) := (blk_cell AX.out.c 6).trans rfl
          have c7_ : (w5).cell? ⟨gx, 7, none⟩ = some (.string ⟨t1.toArray⟩) := (blk_cell AX.out.c 7).trans rfl
          have c8_ : (w5).cell? ⟨gx, 8, none⟩ = some (.int .i64 0) := (blk_cell AX.out.c 8).trans rfl
          have c9_ : (w5).cell? ⟨gx, 9, none⟩ = some (.slice none 0 0) := (blk_cell AX.out.c 9).trans rfl
          have r0_ : (w5).cell? ⟨gr, 0, none⟩ = some (.int .i64 0) := (blk_cell AX.out.r 0).trans rfl
          have fr0_ := blk_frozen AX.out.r 0
          have r1_ : (w5).cell? ⟨gr, 1, none⟩ = some (.int .i64 0) := (blk_cell AX.out.r 1).trans rfl
          have fr1_ := blk_frozen AX.out.r 1
          have r2_ : (w5).cell? ⟨gr, 2, none⟩ = some (.int .i64 0) := (blk_cell AX.out.r 2).trans rfl
          have fr2_ := blk_frozen AX.out.r 2
          have r3_ : (w5).cell? ⟨gr, 3, none⟩ = some (.int .i64 0) := (blk_cell AX.out.r 3).trans rfl
          have fr3_ := blk_frozen AX.out.r 3
          have r4_ : (w5).cell? ⟨gr, 4, none⟩ = some (.int .i64 0) := (blk_cell AX.out.r 4).trans rfl
          have fr4_ := blk_frozen AX.out.r 4
          have r5_ : (w5).cell? ⟨gr, 5, none⟩ = some (.int .i64 0) := (blk_cell AX.out.r 5).trans rfl
          have fr5_ := blk_frozen AX.out.r 5
          have r6_ : (w5).cell? ⟨gr, 6, none⟩ = some (.bool false) := (blk_cell AX.out.r 6).trans rfl
          have fr6_ := blk_frozen AX.out.r 6
          have r7_ : (w5).cell? ⟨gr, 7, none⟩ = some (.string ⟨#[]⟩) := (blk_cell AX.out.r 7).trans rfl
          have fr7_ := blk_frozen AX.out.r 7
          have r8_ : (w5).cell? ⟨gr, 8, none⟩ = some (.int .i64 0) := (blk_cell AX.out.r 8).trans rfl
          have fr8_ := blk_frozen AX.out.r 8
          have r9_ : (w5).cell? ⟨gr, 9, none⟩ = some (.slice none 0 0) := (blk_cell AX.out.r 9).trans rfl
          have fr9_ := blk_frozen AX.out.r 9
          go_wp2_with fail
          have hz : (((((((((((w5).setCell ⟨gr, 0, none⟩ (.int .i64 x0)).setCell ⟨gr, 1, none⟩ (.int .i64 x1)).setCell ⟨gr, 2, none⟩ (.int .i64 x2)).setCell ⟨gr, 3, none⟩ (.int .i64 x3)).setCell ⟨gr, 4, none⟩ (.int .i64 x4)).setCell ⟨gr, 5, none⟩ (.int .i64 x5)).setCell ⟨gr, 6, none⟩ (.bool b1)).setCell ⟨gr, 7, none⟩ (.string ⟨t1.toArray⟩)).setCell ⟨gr, 8, none⟩ (.int .i64 0)).setCell ⟨gr, 9, none⟩ (.slice none 0 0)).heap[gr]? = some (.cells #[.int .i64 x0, .int .i64 x1, .int .i64 x2, .int .i64 x3, .int .i64 x4, .int .i64 x5, .bool b1, .string ⟨t1.toArray⟩, .int .i64 0, .slice none 0 0] 40 (0, 0)) := by refine blk_put (cs := #[.int .i64 x0, .int .i64 x1, .int .i64 x2, .int .i64 x3, .int .i64 x4, .int .i64 x5, .bool b1, .string ⟨t1.toArray⟩, .int .i64 0, .slice none 0 0]) ?_ 9 _ rfl; refine blk_put (cs := #[.int .i64 x0, .int .i64 x1, .int .i64 x2, .int .i64 x3, .int .i64 x4, .int .i64 x5, .bool b1, .string ⟨t1.toArray⟩, .int .i64 0, .slice none 0 0]) ?_ 8 _ rfl; refine blk_put (cs := #[.int .i64 x0, .int .i64 x1, .int .i64 x2, .int .i64 x3, .int .i64 x4, .int .i64 x5, .bool b1, .string ⟨#[]⟩, .int .i64 0, .slice none 0 0]) ?_ 7 _ rfl; refine blk_put (cs := #[.int .i64 x0, .int .i64 x1, .int .i64 x2, .int .i64 x3, .int .i64 x4, .int .i64 x5, .bool false, .string ⟨#[]⟩, .int .i64 0, .slice none 0 0]) ?_ 6 _ rfl; refine blk_put (cs := #[.int .i64 x0, .int .i64 x1, .int .i64 x2, .int .i64 x3, .int .i64 x4, .int .i64 0, .bool false, .string ⟨#[]⟩, .int .i64 0, .slice none 0 0]) ?_ 5 _ rfl; refine blk_put (cs := #[.int .i64 x0, .int .i64 x1, .int .i64 x2, .int .i64 x3, .int .i64 0, .int .i64 0, .bool false, .string ⟨#[]⟩, .int .i64 0, .slice none 0 0]) ?_ 4 _ rfl; refine blk_put (cs := #[.int .i64 x0, .int .i64 x1, .int .i64 x2, .int .i64 0, .int .i64 0, .int .i64 0, .bool false, .string ⟨#[]⟩, .int .i64 0, .slice none 0 0]) ?_ 3 _ rfl; refine blk_put (cs := #[.int .i64 x0, .int .i64 x1, .int .i64 0, .int .i64 0, .int .i64 0, .int .i64 0, .bool false, .string ⟨#[]⟩, .int .i64 0, .slice none 0 0]) ?_ 2 _ rfl; refine blk_put (cs := #[.int .i64 x0, .int .i64 0, .int .i64 0, .int .i64 0, .int .i64 0, .int .i64 0, .bool false, .string ⟨#[]⟩, .int .i64 0, .slice none 0 0]) ?_ 1 _ rfl; refine blk_put (cs := #[.int .i64 0, .int .i64 0, .int .i64 0, .int .i64 0, .int .i64 0, .int .i64 0, .bool false, .string ⟨#[]⟩, .int .i64 0, .slice none 0 0]) ?_ 0 _ rfl; exact AX.out.r
          have hbz : Below w.heap.size (w5) (((((((((((w5).setCell ⟨gr, 0, none⟩ (.int .i64 x0)).setCell ⟨gr, 1, none⟩ (.int .i64 x1)).setCell ⟨gr, 2, none⟩ (.int .i64 x2)).setCell ⟨gr, 3, none⟩ (.int .i64 x3)).setCell ⟨gr, 4, none⟩ (.int .i64 x4)).setCell ⟨gr, 5, none⟩ (.int .i64 x5)).setCell ⟨gr, 6, none⟩ (.bool b1)).setCell ⟨gr, 7, none⟩ (.string ⟨t1.toArray⟩)).setCell ⟨gr, 8, none⟩ (.int .i64 0)).setCell ⟨gr, 9, none⟩ (.slice none 0 0)) := (((((((((((Below.refl w.heap.size (w5)).trans (below_put _ AX.out.pl.2.1 0 _)).trans (below_put _ AX.out.pl.2.1 1 _)).trans (below_put _ AX.out.pl.2.1 2 _)).trans (below_put _ AX.out.pl.2.1 3 _)).trans (below_put _ AX.out.pl.2.1 4 _)).trans (below_put _ AX.out.pl.2.1 5 _)).trans (below_put _ AX.out.pl.2.1 6 _)).trans (below_put _ AX.out.pl.2.1 7 _)).trans (below_put _ AX.out.pl.2.1 8 _)).trans (below_put _ AX.out.pl.2.1 9 _))
          refine bodyPost_ret (results_cell_row rfl _ _ gr 40 #[.int .i64 x0, .int .i64 x1, .int .i64 x2, .int .i64 x3, .int .i64 x4, .int .i64 x5, .bool b1, .string ⟨t1.toArray⟩, .int .i64 0, .slice none 0 0] (0, 0) _ rfl hz Tryd.underlying40 rfl (by kernel_rfl)) rfl ?_
          refine ⟨_, rfl, Kd.R_nil _ _ _ _ _, AX.out.tk.lowN hbz AX.out.pl.1 AX.out.pl.2.2.2.2, AX.out.fr.low hbz (Nat.le_refl _) AX.out.fr.size⟩
end Go.Proofs.YtnojgkiaolmoeaaDoor.Take
