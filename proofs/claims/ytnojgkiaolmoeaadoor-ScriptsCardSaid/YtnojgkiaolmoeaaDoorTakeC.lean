/- The taker takes a configuration. -/
import Derived.Test.YtnojgkiaolmoeaaDoorTake
import Derived.Test.YtnojgkiaolmoeaaDoorPScx0
import Derived.Deep.DeepCutAuto
namespace Go.Proofs.YtnojgkiaolmoeaaDoor.Take
open Go.RowKit Go.Proofs.YtnojgkiaolmoeaaDoorW.PrintWords Go.Proofs.YtnojgkiaolmoeaaDoorW.PrintLast Go.Proofs.YtnojgkiaolmoeaaDoorW.PrintMore Go.Proofs.YtnojgkiaolmoeaaDoor.PSc
set_option linter.unusedVariables false
set_option linter.unusedSimpArgs false
abbrev Ms := List UInt8 × Bool
def backM (s : Ms) : S65 × Ms := (⟨(numM 32 s).1, (letR 100 (numM 32 s).2).1⟩, (letR 100 (numM 32 s).2).2)
def backsM : Nat → Int → List S65 → Ms → List S65 × Ms
  | 0, _, acc, s => (acc, s)
  | f + 1, n, acc, s => if 0 < n ∧ s.2 = false ∧ acc.length ≤ 4 then backsM f (wrap64 (n - 1)) (acc ++ [(backM s).1]) (backM s).2 else (acc, s)
def siteM (s : Ms) : S63 × Ms :=
  let a := numM 32 s
  let b := letR 100 a.2
  let c := numM 32 b.2
  let d := numM 32 c.2
  let e := backsM 6 d.1 [] d.2
  (⟨a.1, b.1, c.1, e.1⟩, e.2)
def sitesM : Nat → Int → List S63 → Ms → List S63 × Ms
  | 0, _, acc, s => (acc, s)
  | f + 1, n, acc, s => if 0 < n ∧ s.2 = false ∧ acc.length ≤ 3 then sitesM f (wrap64 (n - 1)) (acc ++ [(siteM s).1]) (siteM s).2 else (acc, s)
def configM (s : Ms) : S38 × Ms :=
  let a := numM 32 s
  let b := numM 32 a.2
  let c := sitesM 5 b.1 [] b.2
  (⟨a.1, c.1⟩, c.2)
theorem blk_fr {g k : Nat} {w w1 : World} {o : Obj} (h : w.heap[k]? = some o) (hF : Fr g w w1) (hg : k ≠ g) : w1.heap[k]? = some o := (hF.blk k (Array.getElem?_eq_some_iff.1 h).1 hg).trans h
theorem blk_low {N k : Nat} {w w1 : World} {o : Obj} (h : w.heap[k]? = some o) (hb : Below N w w1) (hk : k < N) : w1.heap[k]? = some o := (hb.block k hk).trans h
theorem Fr.low {g N : Nat} {u w w1 : World} (h : Fr g u w) (hb : Below N w w1) (hN : u.heap.size ≤ N) (hg : N ≤ w.heap.size) : Fr g u w1 := ⟨hb.os.trans h.os, hb.tape.trans h.tape, hb.output.trans h.out, Nat.le_trans h.size hb.size, fun i hi hg2 => (hb.block i (by omega)).trans (h.blk i hi hg2)⟩
theorem Tk.lowN {w0 w w1 : World} {g N : Nat} {l : List UInt8} {bad : Bool} (h : Tk w0 g l bad w) (hb : Below N w w1) (hg : g < N) (hN : w0.heap.size ≤ N) : Tk w0 g l bad w1 := ⟨blk_low h.blk hb hg, h.low.trans ⟨hb.os, hb.tape, hb.output, hb.size, fun i hi => hb.block i (by omega)⟩, h.lo, h.len⟩
/-- The taker's configuration so far: the result's block gr, the configuration's gc with its row v of sites; all that changes lies at N or above. -/
structure Cs (wE w0 : World) (g gr gc : Nat) (ver : Int) (N : Nat) (v : Value) (xs : List S63) (s : Ms) (W : World) : Prop where
  tk : Tk w0 g s.1 s.2 W
  fr : Fr g wE W
  gE : g < wE.heap.size
  r : W.heap[gr]? = some (.cells #[.int .i64 0, .slice none 0 0] 38 (0, 0))
  c : W.heap[gc]? = some (.cells #[.int .i64 ver, v] 38 (0, 0))
  pl : wE.heap.size ≤ gr ∧ wE.heap.size ≤ gc ∧ gr ≠ gc ∧ gr < N ∧ gc < N ∧ wE.heap.size ≤ N ∧ N ≤ W.heap.size ∧ w0.heap.size ≤ wE.heap.size
  row : Kd.R k63 63 W wE.heap.size (fun k => k < N) v xs
theorem Cs.call {wE w0 g gr gc ver N v xs s W} (h : Cs wE w0 g gr gc ver N v xs s W) {s1 : Ms} {W1 : World} (hT : Tk w0 g s1.1 s1.2 W1) (hF : Fr g W W1) : Cs wE w0 g gr gc ver N v xs s1 W1 := by
  have hp := h.pl
  have hg := h.gE
  refine ⟨hT, h.fr.trans hF, h.gE, blk_fr h.r hF (by omega), blk_fr h.c hF (by omega), ⟨hp.1, hp.2.1, hp.2.2.1, hp.2.2.2.1, hp.2.2.2.2.1, hp.2.2.2.2.2.1, Nat.le_trans hp.2.2.2.2.2.2.1 hF.size, hp.2.2.2.2.2.2.2⟩, ?_⟩
  exact Kd.R_mono (Kd.R_step (Kd.R_types h.row h.tk.blk (by decide)) (fun k hk hlt => hF.blk k hlt hk.2)) (fun k hk => hk.1)
theorem Cs.low {wE w0 g gr gc ver N v xs s W} (h : Cs wE w0 g gr gc ver N v xs s W) {W1 : World} (hb : Below N W W1) : Cs wE w0 g gr gc ver N v xs s W1 := by
  have hp := h.pl
  have hg := h.gE
  refine ⟨h.tk.lowN hb (by omega) (by omega), h.fr.low hb hp.2.2.2.2.2.1 hp.2.2.2.2.2.2.1, h.gE, blk_low h.r hb hp.2.2.2.1, blk_low h.c hb hp.2.2.2.2.1, ⟨hp.1, hp.2.1, hp.2.2.1, hp.2.2.2.1, hp.2.2.2.2.1, hp.2.2.2.2.2.1, Nat.le_trans hp.2.2.2.2.2.2.1 hb.size, hp.2.2.2.2.2.2.2⟩, ?_⟩
  exact Kd.R_step h.row (fun k hk _ => hb.block k hk)
/-- .. with N raised to where the world ends now. -/
theorem Cs.up {wE w0 g gr gc ver N v xs s W} (h : Cs wE w0 g gr gc ver N v xs s W) : Cs wE w0 g gr gc ver W.heap.size v xs s W := by
  have hp := h.pl
  exact ⟨h.tk, h.fr, h.gE, h.r, h.c, ⟨hp.1, hp.2.1, hp.2.2.1, by omega, by omega, by omega, Nat.le_refl _, hp.2.2.2.2.2.2.2⟩, Kd.R_mono h.row (fun k hk => by omega)⟩
/-- A site so far, in block gs, with its row u of backends; what changes lies at M or above. -/
structure Ss (N M gs : Nat) (a : Int) (d : Bool) (c : Int) (u : Value) (ys : List S65) (W : World) : Prop where
  blk : W.heap[gs]? = some (.cells #[.int .i64 a, .bool d, .int .i64 c, u] 63 (0, 0))
  pl : N ≤ gs ∧ gs < M ∧ M ≤ W.heap.size
  row : Kd.R k65 65 W N (fun k => k < M) u ys
theorem Ss.call {N M gs a d c u ys W} (h : Ss N M gs a d c u ys W) {g : Nat} {w0 : World} {s : Ms} (hk : Tk w0 g s.1 s.2 W) (hg : g < N) {W1 : World} (hF : Fr g W W1) : Ss N M gs a d c u ys W1 := by
  have hp := h.pl
  refine ⟨blk_fr h.blk hF (by omega), ⟨hp.1, hp.2.1, Nat.le_trans hp.2.2 hF.size⟩, ?_⟩
  exact Kd.R_mono (Kd.R_step (Kd.R_types h.row hk.blk (by decide)) (fun k hk hlt => hF.blk k hlt hk.2)) (fun k hk => hk.1)
theorem Ss.low {N M gs a d c u ys W} (h : Ss N M gs a d c u ys W) {W1 : World} (hb : Below M W W1) : Ss N M gs a d c u ys W1 :=
  ⟨blk_low h.blk hb h.pl.2.1, ⟨h.pl.1, h.pl.2.1, Nat.le_trans h.pl.2.2 hb.size⟩, Kd.R_step h.row (fun k hk _ => hb.block k hk)⟩
theorem Ss.up {N M gs a d c u ys W} (h : Ss N M gs a d c u ys W) : Ss N W.heap.size gs a d c u ys W := by
  have hp := h.pl
  exact ⟨h.blk, ⟨hp.1, by omega, Nat.le_refl _⟩, Kd.R_mono h.row (fun k hk => by omega)⟩
theorem below_le {N M : Nat} {w w1 : World} (h : Below M w w1) (hN : N ≤ M) : Below N w w1 := ⟨h.os, h.tape, h.output, h.size, fun i hi => h.block i (by omega)⟩
theorem below_put {N : Nat} (w : World) {b : Nat} (hb : N ≤ b) (j : Nat) (v : Value) : Below N w (w.setCell ⟨b, j, none⟩ v) := (Below.refl N w).setCell (p := ⟨b, j, none⟩) hb v
theorem infoS : (Tryd.prog.info? 63).map (fun i => (i.zero, i.size, i.bytes)) = some (some (.agg #[(.int .i64 0), (.bool false), (.int .i64 0), (.slice none 0 0)]), 4, 48) := by kernel_rfl
theorem infoB : (Tryd.prog.info? 65).map (fun i => (i.zero, i.size, i.bytes)) = some (some (.agg #[(.int .i64 0), (.bool false)]), 2, 16) := by kernel_rfl
theorem numC (w0 : World) (g : Nat) (c : UInt8) (s : Ms) (w : World) (h : Tk w0 g s.1 s.2 w) (hE : Aside0 (Errs w0)) (x : Int) (s1 : Ms) (hx : numM c s = (x, s1)) :
    Calls Tryd.prog 43 #[.pointer (some ⟨g, 0, none⟩), .string ⟨#[c]⟩] w fun e w' => e = .returned (.int .i64 x) ∧ Tk w0 g s1.1 s1.2 w' ∧ Fr g w w' := by
  have h1 := num w0 g c s.1 s.2 w h hE
  have e1 : (numR c s.1).1 = x := congrArg (fun q => q.1) hx
  have e2 : ((numR c s.1).2.1, s.2 || !(numR c s.1).2.2) = s1 := congrArg (fun q => q.2) hx
  rw [e1] at h1
  rw [← e2]
  exact h1
theorem letC (w0 : World) (g : Nat) (y : UInt8) (s : Ms) (w : World) (h : Tk w0 g s.1 s.2 w) (x : Bool) (s1 : Ms) (hx : letR y s = (x, s1)) :
    Calls Tryd.prog 44 #[.pointer (some ⟨g, 0, none⟩), .int .u8 y.toNat] w fun e w' => e = .returned (.bool x) ∧ Tk w0 g s1.1 s1.2 w' ∧ Fr g w w' := by
  have h1 := letter w0 g y s.1 s.2 w h
  have e0 : letR y (s.1, s.2) = (x, s1) := hx
  rw [e0] at h1
  exact h1
theorem hide_ {P : Program} {c : Code} {Q : Exit → Act → World → Prop} {a : Act} {w : World} (R : World → Prop) (h : R w) (k : ∀ w', R w' → c.wp P Q a w') : c.wp P Q a w := k w h
set_option maxHeartbeats 4000000 in
set_option maxRecDepth 100000 in
theorem config (w0 : World) (g : Nat) (l : List UInt8) (bad : Bool) (w : World) (h : Tk w0 g l bad w) (hE : Aside0 (Errs w0)) :
    Calls Tryd.prog 46 #[.pointer (some ⟨g, 0, none⟩)] w fun e w' => ∃ v, e = .returned (.agg #[.int .i64 (configM (l, bad)).1.f0, v]) ∧ Kd.R k63 63 w' w.heap.size (fun _ => True) v (configM (l, bad)).1.f1 ∧ Tk w0 g (configM (l, bad)).2.1 (configM (l, bad)).2.2 w' ∧ Fr g w w' := by
  have hu := Tryd.underlying63
  have hu2 := Tryd.underlying65
  have hu3 := Tryd.underlying38
  have hu4 := Tryd.underlying68
  have HE := hE
  have HT := Aside0.mk h
  have HG := Aside0.mk h.lt
  have HS0 := Aside0.mk h.sz
  unfold configM
  obtain ⟨⟨v1, s1⟩, h1⟩ : ∃ k, numM 32 (l, bad) = k := ⟨_, rfl⟩
  obtain ⟨⟨n1, s2⟩, h2⟩ : ∃ k, numM 32 s1 = k := ⟨_, rfl⟩
  obtain ⟨RR, hR⟩ : ∃ k, sitesM 5 n1 [] s2 = k := ⟨_, rfl⟩
  simp only [h1, h2, hR]
  have H1 := Aside0.mk h1
  have H2 := Aside0.mk h2
  have HRR := Aside0.mk hR
  clear h hE h1 h2 hR
  go_enter Tryd.func46, Tryd.ntmps46
  go_upto_region 1 with fail
  obtain ⟨gr, hgr⟩ : ∃ n, n = w.heap.size := ⟨_, rfl⟩
  obtain ⟨wa, hwa⟩ : ∃ x_, x_ = w.alloc (.cells #[.int .i64 0, .slice none 0 0] 38) := ⟨_, rfl⟩
  have BA := Aside0.mk (show Below w.heap.size w wa by rw [hwa]; exact below_alloc (Below.refl _ _) _)
  have BR := Aside0.mk (show wa.heap[gr]? = some (.cells #[.int .i64 0, .slice none 0 0] 38 (0, 0)) by rw [hwa, hgr]; exact heap_alloc_new w _)
  have HGR := Aside0.mk (show w.heap.size ≤ gr ∧ gr ≠ g by have := HG.out; omega)
  rw [← hwa, ← hgr]
  clear hwa hgr
  have TA := Aside0.mk (HT.out.next BA.out)
  go_upto_region 2 with (first | (go_at_call 43; refine (numC w0 g 32 (l, bad) _ TA.out HE v1 s1 H1.out).mono ?_; rintro e w2 ⟨rfl, hT, hF⟩; have T2 := Aside0.mk hT; have F2 := Aside0.mk ((Fr.of_below (g := g) BA.out).trans hF); have B2 := Aside0.mk (blk_fr BR.out hF HGR.out.2); clear hT hF) | ((with_reducible refine gate_dst (N := 3) rfl ?_); refine box_event ?hg (N := 3) ?hd (cs := #[.int .i64 0, .slice none 0 0]) (t := 38) ?hr ?_; (case hd => rfl); (case hg => rfl); (case hr => first | (go_simp; done) | (go_simp; rfl)); intro gc hg w3 hbox hb; have HW := Aside0.mk hb; have G := Aside0.mk (Nat.le_of_eq hg.symm : w2.heap.size ≤ gc); have Zb := Aside0.mk hbox; clear hb hbox hg; have z0 : w3.cell? ⟨gc, 0, none⟩ = some (.int .i64 0) := (blk_cell Zb.out 0).trans rfl; have y0 := blk_frozen Zb.out 0; have z1 : w3.cell? ⟨gc, 1, none⟩ = some (.slice none 0 0) := (blk_cell Zb.out 1).trans rfl; have y1 := blk_frozen Zb.out 1; skip))
  refine hide_ (fun W => Below w2.heap.size w2 W ∧ W.heap[gc]? = some (.cells #[.int .i64 v1, .slice none 0 0] 38 (0, 0)) ∧ w2.heap.size ≤ gc) ⟨by with_reducible repeat (first | exact HW.out | refine below_set ?_ G.out), by refine blk_put (cs := #[.int .i64 v1, .slice none 0 0]) ?_ 1 _ rfl; refine blk_put (cs := #[.int .i64 0, .slice none 0 0]) ?_ 0 _ rfl; exact Zb.out, G.out⟩ ?_
  intro w4 ⟨hb, hz, hge⟩
  have T4 := Aside0.mk (T2.out.next hb)
  have F4 := Aside0.mk (F2.out.trans (Fr.of_below (g := g) hb))
  have B4 := Aside0.mk ((hb.block gr (blk_lt B2.out)).trans B2.out)
  have C4 := Aside0.mk hz
  have P4 := Aside0.mk (show w.heap.size ≤ gc ∧ gr ≠ gc ∧ gc ≠ g by have h1 := blk_lt B2.out; have h2 := T2.out.lt; have h3 := F2.out.size; omega)
  clear hb hz hge HW G Zb z0 y0 z1 y1
  go_wp2_with (go_at_call 43; refine (numC w0 g 32 s1 _ T4.out HE n1 s2 H2.out).mono ?_; rintro e w6 ⟨rfl, hT, hF⟩; have T6 := Aside0.mk hT; have F6 := Aside0.mk (F4.out.trans hF); have B6 := Aside0.mk (blk_fr B4.out hF HGR.out.2); have C6 := Aside0.mk (blk_fr C4.out hF P4.out.2.2); clear hT hF)
  have CS0 := Aside0.mk (show Cs w w0 g gr gc v1 w6.heap.size (.slice none 0 0) [] s2 w6 from ⟨T6.out, F6.out, HG.out, B6.out, C6.out, ⟨HGR.out.1, P4.out.1, P4.out.2.1, blk_lt B6.out, blk_lt C6.out, F6.out.size, Nat.le_refl _, HS0.out⟩, Kd.R_nil _ _ _ _ _⟩)
  clear T2 F2 B2 T4 F4 B4 C4 P4 T6 F6 B6 C6 BA BR TA HT H1 H2
  go_loopg [4] 5 (fun kq v4 w' => ∃ (n : Int) (v : Value) (xs : List S63) (s : Ms), v4 = .int .i64 n ∧ Aside0 (xs.length ≤ 4 ∧ kq + xs.length = 5) ∧ Aside0 (Cs w w0 g gr gc v1 w'.heap.size v xs s w') ∧ Aside0 (sitesM kq n xs s = RR))
  case atStart => exact ⟨n1, _, [], s2, rfl, ⟨by simp, rfl⟩, CS0, HRR⟩
  case round =>
    clear CS0 HRR
    obtain ⟨n, v, xs, s, rfl, HX, HC, HR⟩ := hrel
    obtain ⟨A, cc, rfl⟩ := Kd.R_slice HC.out.row
    cases gk with
    | zero => have := HX.out; omega
    | succ k1 =>
      have q1 : wr.cell? ⟨g, 1, none⟩ = some (.bool s.2) := HC.out.tk.c1
      have m1 : wr.cell? ⟨gc, 1, none⟩ = some (.slice A xs.length cc) := (blk_cell HC.out.c 1).trans rfl
      by_cases hcond : 0 < n ∧ s.2 = false ∧ xs.length ≤ 3
      · have hr := HR.out
        rw [sitesM, if_pos hcond] at hr
        obtain ⟨⟨a1, sa⟩, ha⟩ : ∃ k, numM 32 s = k := ⟨_, rfl⟩
        obtain ⟨⟨b1, sb⟩, hb⟩ : ∃ k, letR 100 sa = k := ⟨_, rfl⟩
        obtain ⟨⟨c1, sc⟩, hc⟩ : ∃ k, numM 32 sb = k := ⟨_, rfl⟩
        obtain ⟨⟨d1, sd⟩, hd⟩ : ∃ k, numM 32 sc = k := ⟨_, rfl⟩
        obtain ⟨⟨e1, se⟩, he⟩ : ∃ k, backsM 6 d1 [] sd = k := ⟨_, rfl⟩
        have hsite : siteM s = (⟨a1, b1, c1, e1⟩, se) := by unfold siteM; simp only [ha, hb, hc, hd, he]
        rw [hsite] at hr
        replace HR := Aside0.mk hr
        have HA := Aside0.mk ha
        have HB := Aside0.mk hb
        have HCC := Aside0.mk hc
        have HD := Aside0.mk hd
        have HEE := Aside0.mk he
        obtain ⟨i1, i2, i3⟩ := hcond
        have i1b : decide (0 < n) = true := decide_eq_true i1
        have i1c : decide (n > 0) = true := decide_eq_true i1
        have i3b : decide ((xs.length : Int) ≤ 3) = true := decide_eq_true (by omega)
        rw [i2] at q1
        obtain ⟨N, hN⟩ : ∃ N, wr.heap.size = N := ⟨_, rfl⟩
        have HNW := Aside0.mk hN
        have CS := Aside0.mk (show Cs w w0 g gr gc v1 N (.slice A xs.length cc) xs s wr from hN ▸ HC.out)
        have HX3 := Aside0.mk i3
        clear ha hb hc hd he hsite hr HC hN i1 i2 i3
        go_upto_region 6 with (first | (go_at_call 43; refine (numC w0 g 32 s _ CS.out.tk HE a1 sa HA.out).mono ?_; rintro e w2 ⟨rfl, hT, hF⟩; replace CS := Aside0.mk (CS.out.call hT hF); clear q1 m1; clear hT hF) | ((with_reducible refine gate_dst (N := 5) rfl ?_); refine box_event ?hg (N := 5) ?hd (cs := #[.int .i64 0, .bool false, .int .i64 0, .slice none 0 0]) (t := 63) ?hr ?_; (case hd => rfl); (case hg => rfl); (case hr => first | (go_simp; done) | (go_simp; rfl)); intro gs hg w3 hbox hb; have HW := Aside0.mk hb; have G := Aside0.mk (Nat.le_of_eq hg.symm : w2.heap.size ≤ gs); have Zb := Aside0.mk hbox; clear hb hbox hg; have z0 : w3.cell? ⟨gs, 0, none⟩ = some (.int .i64 0) := (blk_cell Zb.out 0).trans rfl; have y0 := blk_frozen Zb.out 0; have z1 : w3.cell? ⟨gs, 1, none⟩ = some (.bool false) := (blk_cell Zb.out 1).trans rfl; have y1 := blk_frozen Zb.out 1; have z2 : w3.cell? ⟨gs, 2, none⟩ = some (.int .i64 0) := (blk_cell Zb.out 2).trans rfl; have y2 := blk_frozen Zb.out 2; have z3 : w3.cell? ⟨gs, 3, none⟩ = some (.slice none 0 0) := (blk_cell Zb.out 3).trans rfl; have y3 := blk_frozen Zb.out 3; skip))
        refine hide_ (fun W => Below w2.heap.size w2 W ∧ W.heap[gs]? = some (.cells #[.int .i64 a1, .bool false, .int .i64 0, .slice none 0 0] 63 (0, 0)) ∧ w2.heap.size ≤ gs) ⟨by with_reducible repeat (first | exact HW.out | refine below_set ?_ G.out), by refine blk_put (cs := #[.int .i64 a1, .bool false, .int .i64 0, .slice none 0 0]) ?_ 3 _ rfl; refine blk_put (cs := #[.int .i64 a1, .bool false, .int .i64 0, .slice none 0 0]) ?_ 2 _ rfl; refine blk_put (cs := #[.int .i64 a1, .bool false, .int .i64 0, .slice none 0 0]) ?_ 1 _ rfl; refine blk_put (cs := #[.int .i64 0, .bool false, .int .i64 0, .slice none 0 0]) ?_ 0 _ rfl; exact Zb.out, G.out⟩ ?_
        intro w4 ⟨hb, hz, hge⟩
        have hp := CS.out.pl
        have SS := Aside0.mk (show Ss N w4.heap.size gs a1 false 0 (.slice none 0 0) [] w4 from ⟨hz, ⟨by omega, blk_lt hz, Nat.le_refl _⟩, Kd.R_nil _ _ _ _ _⟩)
        replace CS := Aside0.mk (CS.out.low (below_le hb hp.2.2.2.2.2.2.1))
        have HGN := Aside0.mk (show g < N by have := CS.out.gE; have := CS.out.pl; omega)
        clear hb hz hge HW G Zb z0 y0 z1 y1 z2 y2 z3 y3 hp
        go_upto_region 7 with (go_at_call 44; refine (letC w0 g 100 sa _ CS.out.tk b1 sb HB.out).mono ?_; rintro e w5 ⟨rfl, hT, hF⟩; replace SS := Aside0.mk (SS.out.call CS.out.tk HGN.out hF); replace CS := Aside0.mk (CS.out.call hT hF); have k1_ : w5.cell? ⟨gs, 1, none⟩ = some (.bool false) := (blk_cell SS.out.blk 1).trans rfl; have fk1 := blk_frozen SS.out.blk 1; clear hT hF)
        refine hide_ (fun W => Below N w5 W ∧ W.heap[gs]? = some (.cells #[.int .i64 a1, .bool b1, .int .i64 0, .slice none 0 0] 63 (0, 0))) ⟨below_put w5 SS.out.pl.1 1 _, by refine blk_put (cs := #[.int .i64 a1, .bool false, .int .i64 0, .slice none 0 0]) ?_ 1 _ rfl; exact SS.out.blk⟩ ?_
        intro w6 ⟨hb, hz⟩
        have hs1 := SS.out.pl
        clear k1_ fk1
        replace SS := Aside0.mk (show Ss N w6.heap.size gs a1 b1 0 (.slice none 0 0) [] w6 from ⟨hz, ⟨hs1.1, blk_lt hz, Nat.le_refl _⟩, Kd.R_nil _ _ _ _ _⟩)
        replace CS := Aside0.mk (CS.out.low hb)
        clear hb hz hs1
        go_upto_region 8 with (go_at_call 43; refine (numC w0 g 32 sb _ CS.out.tk HE c1 sc HCC.out).mono ?_; rintro e w7 ⟨rfl, hT, hF⟩; replace SS := Aside0.mk (SS.out.call CS.out.tk HGN.out hF); replace CS := Aside0.mk (CS.out.call hT hF); have k2_ : w7.cell? ⟨gs, 2, none⟩ = some (.int .i64 0) := (blk_cell SS.out.blk 2).trans rfl; have fk2 := blk_frozen SS.out.blk 2; clear hT hF)
        refine hide_ (fun W => Below N w7 W ∧ W.heap[gs]? = some (.cells #[.int .i64 a1, .bool b1, .int .i64 c1, .slice none 0 0] 63 (0, 0))) ⟨below_put w7 SS.out.pl.1 2 _, by refine blk_put (cs := #[.int .i64 a1, .bool b1, .int .i64 0, .slice none 0 0]) ?_ 2 _ rfl; exact SS.out.blk⟩ ?_
        intro w8 ⟨hb, hz⟩
        have hs1 := SS.out.pl
        clear k2_ fk2
        replace SS := Aside0.mk (show Ss N w8.heap.size gs a1 b1 c1 (.slice none 0 0) [] w8 from ⟨hz, ⟨hs1.1, blk_lt hz, Nat.le_refl _⟩, Kd.R_nil _ _ _ _ _⟩)
        replace CS := Aside0.mk (CS.out.low hb)
        clear hb hz hs1
        go_wp2_with (go_at_call 43; refine (numC w0 g 32 sc _ CS.out.tk HE d1 sd HD.out).mono ?_; rintro e w9 ⟨rfl, hT, hF⟩; replace SS := Aside0.mk (SS.out.call CS.out.tk HGN.out hF); replace CS := Aside0.mk (CS.out.call hT hF); clear hT hF)
        replace SS := Aside0.mk SS.out.up
        go_loopg [6] 6 (fun kq v6 w' => ∃ (m : Int) (u : Value) (ys : List S65) (t : Ms), v6 = .int .i64 m ∧ Aside0 (ys.length ≤ 5 ∧ kq + ys.length = 6) ∧ Aside0 (Cs w w0 g gr gc v1 N (.slice A xs.length cc) xs t w') ∧ Aside0 (Ss N w'.heap.size gs a1 b1 c1 u ys w') ∧ Aside0 (backsM kq m ys t = (e1, se)))
        case atStart => exact ⟨d1, _, [], sd, rfl, ⟨by simp, rfl⟩, CS, SS, HEE⟩
        case round =>
          clear CS SS HEE
          obtain ⟨m, u, ys, t, rfl, HY, CS, SS, HQ⟩ := hrel
          obtain ⟨B, bc, rfl⟩ := Kd.R_slice SS.out.row
          cases gk with
          | zero => have := HY.out; omega
          | succ k2 =>
            have q1 : wr.cell? ⟨g, 1, none⟩ = some (.bool t.2) := CS.out.tk.c1
            have m3 : wr.cell? ⟨gs, 3, none⟩ = some (.slice B ys.length bc) := (blk_cell SS.out.blk 3).trans rfl
            by_cases hcond : 0 < m ∧ t.2 = false ∧ ys.length ≤ 4
            · have hr := HQ.out
              rw [backsM, if_pos hcond] at hr
              obtain ⟨⟨x1, sx⟩, hx⟩ : ∃ k, numM 32 t = k := ⟨_, rfl⟩
              obtain ⟨⟨y1, sy⟩, hy⟩ : ∃ k, letR 100 sx = k := ⟨_, rfl⟩
              have hback : backM t = (⟨x1, y1⟩, sy) := by unfold backM; simp only [hx, hy]
              rw [hback] at hr
              replace HQ := Aside0.mk hr
              have HXX := Aside0.mk hx
              have HYY := Aside0.mk hy
              obtain ⟨i1, i2, i3⟩ := hcond
              have j1b : decide (0 < m) = true := decide_eq_true i1
              have j1c : decide (m > 0) = true := decide_eq_true i1
              have j3b : decide ((ys.length : Int) ≤ 4) = true := decide_eq_true (by omega)
              rw [i2] at q1
              obtain ⟨M, hM⟩ : ∃ M, wr.heap.size = M := ⟨_, rfl⟩
              rw [hM] at SS
              have HY4 := Aside0.mk i3
              have HMN := Aside0.mk (show N ≤ M by have := CS.out.pl; omega)
              clear hx hy hback hr hM i1 i2 i3
              go_upto_region 12 with (first | (go_at_call 43; refine (numC w0 g 32 t _ CS.out.tk HE x1 sx HXX.out).mono ?_; rintro e w2 ⟨rfl, hT, hF⟩; replace SS := Aside0.mk (SS.out.call CS.out.tk HGN.out hF); replace CS := Aside0.mk (CS.out.call hT hF); clear q1 m3; clear hT hF) | ((with_reducible refine gate_dst (N := 7) rfl ?_); refine box_event ?hg (N := 7) ?hd (cs := #[.int .i64 0, .bool false]) (t := 65) ?hr ?_; (case hd => rfl); (case hg => rfl); (case hr => first | (go_simp; done) | (go_simp; rfl)); intro gb hg w3 hbox hb; have HW := Aside0.mk hb; have G := Aside0.mk (Nat.le_of_eq hg.symm : w2.heap.size ≤ gb); have Zb := Aside0.mk hbox; clear hb hbox hg; have z0 : w3.cell? ⟨gb, 0, none⟩ = some (.int .i64 0) := (blk_cell Zb.out 0).trans rfl; have y0 := blk_frozen Zb.out 0; have z1 : w3.cell? ⟨gb, 1, none⟩ = some (.bool false) := (blk_cell Zb.out 1).trans rfl; have y1 := blk_frozen Zb.out 1; skip))
              refine hide_ (fun W => Below w2.heap.size w2 W ∧ W.heap[gb]? = some (.cells #[.int .i64 x1, .bool false] 65 (0, 0)) ∧ w2.heap.size ≤ gb) ⟨by with_reducible repeat (first | exact HW.out | refine below_set ?_ G.out), by refine blk_put (cs := #[.int .i64 x1, .bool false]) ?_ 1 _ rfl; refine blk_put (cs := #[.int .i64 0, .bool false]) ?_ 0 _ rfl; exact Zb.out, G.out⟩ ?_
              intro w4 ⟨hb, hz, hge⟩
              have hp := CS.out.pl
              have hp2 := SS.out.pl
              have BB := Aside0.mk hz
              replace CS := Aside0.mk (CS.out.low (below_le hb hp.2.2.2.2.2.2.1))
              replace SS := Aside0.mk (SS.out.low (below_le hb hp2.2.2))
              have HGB := Aside0.mk (show M ≤ gb ∧ gb ≠ g by have := HGN.out; have := HMN.out; omega)
              clear hb hz hge HW G Zb z0 y0 z1 y1 hp hp2
              go_upto_region 13 with (go_at_call 44; refine (letC w0 g 100 sx _ CS.out.tk y1 sy HYY.out).mono ?_; rintro e w5 ⟨rfl, hT, hF⟩; replace SS := Aside0.mk (SS.out.call CS.out.tk HGN.out hF); replace BB := Aside0.mk (blk_fr BB.out hF HGB.out.2); replace CS := Aside0.mk (CS.out.call hT hF); have k1_ : w5.cell? ⟨gb, 1, none⟩ = some (.bool false) := (blk_cell BB.out 1).trans rfl; have fk1 := blk_frozen BB.out 1; clear hT hF)
              refine hide_ (fun W => Below M w5 W ∧ W.heap[gb]? = some (.cells #[.int .i64 x1, .bool y1] 65 (0, 0))) ⟨below_put w5 HGB.out.1 1 _, by refine blk_put (cs := #[.int .i64 x1, .bool false]) ?_ 1 _ rfl; exact BB.out⟩ ?_
              intro w6 ⟨hb, hz⟩
              clear k1_ fk1
              replace BB := Aside0.mk hz
              replace SS := Aside0.mk (SS.out.low hb)
              replace CS := Aside0.mk (CS.out.low (below_le hb HMN.out))
              clear hb hz
              have k0_ : w6.cell? ⟨gb, 0, none⟩ = some (.int .i64 x1) := (blk_cell BB.out 0).trans rfl
              have k1_ : w6.cell? ⟨gb, 1, none⟩ = some (.bool y1) := (blk_cell BB.out 1).trans rfl
              obtain ⟨U, hU⟩ : ∃ U : Value, U = .slice B ys.length bc := ⟨_, rfl⟩
              rw [← hU] at SS
              clear hU
              have m3 : w6.cell? ⟨gs, 3, none⟩ = some U := (blk_cell SS.out.blk 3).trans rfl
              go_wp2_with ((with_reducible refine gate_builtin (b := .append) (xs := #[.tmp 65, .tmp 67]) rfl ?_); at_builtin; refine Kd.R_append k65 (w0 := w6) N rfl (.tmp 65) (.tmp 67) 61 65 (.agg #[(.int .i64 0), (.bool false)]) 16 rfl Tryd.underlying61 infoB rfl (by decide) (by omega) U ys ⟨x1, y1⟩ [.int .i64 x1, .bool y1] (fun _ => True) (fun _ => False) rfl rfl ?aP (fun _ hk => hk.elim) ?aF ?aO ?aB ?aS ?aL ?_; (case aP => exact k65_mkM _ _ _ (⟨x1, y1⟩ : S65)); (case aB => exact Below.refl _ _); (case aF => exact (fun _ _ => trivial)); (case aO => exact Kd.R_mono SS.out.row (fun _ _ => trivial)); (case aS => exact CS.out.pl.2.2.2.2.2.2.1); (case aL => have := HY4.out; omega); intro vN w7 ho hb hg hat; obtain ⟨VA, vc, hv⟩ := Kd.R_slice ho; obtain ⟨ln, hln⟩ : ∃ n, (ys ++ [(⟨x1, y1⟩ : S65)]).length = n := ⟨_, rfl⟩; rw [hln] at hv; clear hln; subst hv; have B7 := Aside0.mk (blk_grown SS.out.blk hg (Kd.R_ne SS.out.row SS.out.blk (by decide))); have HGS := Aside0.mk SS.out.pl.1; replace CS := Aside0.mk (CS.out.low hb); have HO7 := Aside0.mk ho; have k3_ : w7.cell? ⟨gs, 3, none⟩ = some U := (blk_cell B7.out 3).trans rfl; have fk3 := blk_frozen B7.out 3; clear ho hb hg hat k0_ k1_ m3 SS)
              have hb := below_put w7 HGS.out 3 (.slice VA ln vc)
              have hz : (w7.setCell ⟨gs, 3, none⟩ (.slice VA ln vc)).heap[gs]? = some (.cells #[.int .i64 a1, .bool b1, .int .i64 c1, .slice VA ln vc] 63 (0, 0)) := by refine blk_put (cs := #[.int .i64 a1, .bool b1, .int .i64 c1, U]) ?_ 3 _ rfl; exact B7.out
              have hro := Kd.R_set HO7.out B7.out (by decide) 3 (.slice VA ln vc)
              replace CS := Aside0.mk (CS.out.low hb)
              have SS8 := Aside0.mk (show Ss N (w7.setCell ⟨gs, 3, none⟩ (.slice VA ln vc)).heap.size gs a1 b1 c1 (.slice VA ln vc) (ys ++ [⟨x1, y1⟩]) (w7.setCell ⟨gs, 3, none⟩ (.slice VA ln vc)) from ⟨hz, ⟨HGS.out, blk_lt hz, Nat.le_refl _⟩, Kd.R_mono (Kd.R_bound hro) (fun k hk => hk.2.2.1)⟩)
              clear hb hz hro k3_ fk3
              go_roundg k2
              case measure => have := HY.out; omega
              case rel =>
                have h1 := HY.out
                have h2 := HY4.out
                exact ⟨_, (.slice VA ln vc), ys ++ [⟨x1, y1⟩], sy, rfl, ⟨by rw [List.length_append, List.length_singleton]; omega, by rw [List.length_append, List.length_singleton]; omega⟩, CS, SS8, HQ⟩
            · have hr := HQ.out
              rw [backsM, if_neg hcond] at hr
              obtain ⟨rfl, rfl⟩ : ys = e1 ∧ t = se := by simpa using hr
              clear hr HQ
              have g1 : wr.cell? ⟨gc, 1, none⟩ = some (.slice A xs.length cc) := (blk_cell CS.out.c 1).trans rfl
              have g0_ : wr.cell? ⟨gs, 0, none⟩ = some (.int .i64 a1) := (blk_cell SS.out.blk 0).trans rfl
              have g1_ : wr.cell? ⟨gs, 1, none⟩ = some (.bool b1) := (blk_cell SS.out.blk 1).trans rfl
              have g2_ : wr.cell? ⟨gs, 2, none⟩ = some (.int .i64 c1) := (blk_cell SS.out.blk 2).trans rfl
              have g3_ : wr.cell? ⟨gs, 3, none⟩ = some (.slice B ys.length bc) := (blk_cell SS.out.blk 3).trans rfl
              by_cases i1 : 0 < m
              · have j1b : decide (0 < m) = true := decide_eq_true i1
                have j1c : decide (m > 0) = true := decide_eq_true i1
                cases i2 : t.2
                · have i3 : ¬ ys.length ≤ 4 := fun h9 => hcond ⟨i1, i2, h9⟩
                  have j3b : decide ((ys.length : Int) ≤ 4) = false := decide_eq_false (by omega)
                  rw [i2] at q1
                  clear hcond i1 i2 i3
                  obtain ⟨V, hV⟩ : ∃ V : Value, V = .slice A xs.length cc := ⟨_, rfl⟩
                  rw [← hV] at CS g1
                  clear hV
                  go_wp2_with ((with_reducible refine gate_builtin (b := .append) (xs := #[.tmp 71, .tmp 73]) rfl ?_); at_builtin; refine Kd.R_append k63 (w0 := wr) w.heap.size rfl (.tmp 71) (.tmp 73) 36 63 (.agg #[(.int .i64 0), (.bool false), (.int .i64 0), (.slice none 0 0)]) 48 rfl Tryd.underlying36 infoS rfl (by decide) (by omega) V xs ⟨a1, b1, c1, ys⟩ [.int .i64 a1, .bool b1, .int .i64 c1, .slice B ys.length bc] (fun _ => True) (fun k => True ∧ some k ≠ V.ownBlock) rfl rfl ?aP (fun _ hk => ⟨trivial, hk.2⟩) ?aF ?aO ?aB ?aS ?aL ?_; (case aP => exact k63_mkM _ _ _ (⟨a1, b1, c1, ys⟩ : S63) (Kd.R_apartR (Kd.R_lower (Kd.R_mono SS.out.row (fun _ _ => trivial)) (by have := CS.out.pl; omega)) CS.out.row (by decide))); (case aB => exact Below.refl _ _); (case aF => exact (fun _ _ => trivial)); (case aO => exact Kd.R_mono CS.out.row (fun _ _ => trivial)); (case aS => have := CS.out.pl; omega); (case aL => have := HX3.out; omega); intro vN w7 ho hb hg hat; obtain ⟨VA, vc, hv⟩ := Kd.R_slice ho; obtain ⟨ln, hln⟩ : ∃ n, (xs ++ [(⟨a1, b1, c1, ys⟩ : S63)]).length = n := ⟨_, rfl⟩; rw [hln] at hv; clear hln; subst hv; have C7 := Aside0.mk (blk_grown CS.out.c hg (Kd.R_ne CS.out.row CS.out.c (by decide))); have R7 := Aside0.mk (blk_grown CS.out.r hg (Kd.R_ne CS.out.row CS.out.r (by decide))); have HB7 := Aside0.mk hb; have HO7 := Aside0.mk ho; have k1_ : w7.cell? ⟨gc, 1, none⟩ = some V := (blk_cell C7.out 1).trans rfl; have fk1 := blk_frozen C7.out 1; clear ho hb hg hat)
                  have hb := below_put w7 CS.out.pl.2.1 1 (.slice VA ln vc)
                  have hz : (w7.setCell ⟨gc, 1, none⟩ (.slice VA ln vc)).heap[gc]? = some (.cells #[.int .i64 v1, (.slice VA ln vc)] 38 (0, 0)) := by refine blk_put (cs := #[.int .i64 v1, V]) ?_ 1 _ rfl; exact C7.out
                  have hzr : (w7.setCell ⟨gc, 1, none⟩ (.slice VA ln vc)).heap[gr]? = some (.cells #[.int .i64 0, .slice none 0 0] 38 (0, 0)) := blk_far R7.out CS.out.pl.2.2.1 _
                  have hro := Kd.R_set HO7.out C7.out (by decide) 1 (.slice VA ln vc)
                  have hp := CS.out.pl
                  have hgE := CS.out.gE
                  have hbb := HB7.out.trans hb
                  have CS8 := Aside0.mk (show Cs w w0 g gr gc v1 (w7.setCell ⟨gc, 1, none⟩ (.slice VA ln vc)).heap.size (.slice VA ln vc) (xs ++ [⟨a1, b1, c1, ys⟩]) t (w7.setCell ⟨gc, 1, none⟩ (.slice VA ln vc)) from ⟨CS.out.tk.lowN hbb hgE hp.2.2.2.2.2.2.2, CS.out.fr.low hbb (Nat.le_refl _) (by omega), hgE, hzr, hz, ⟨hp.1, hp.2.1, hp.2.2.1, blk_lt hzr, blk_lt hz, by have := hbb.size; omega, Nat.le_refl _, hp.2.2.2.2.2.2.2⟩, Kd.R_mono (Kd.R_bound hro) (fun k hk => hk.2.2.1)⟩)
                  clear hb hz hzr hro hp hbb k1_ fk1
                  go_roundg k1
                  case measure => have := HX.out; omega
                  case rel =>
                    have h1 := HX.out
                    have h2 := HX3.out
                    exact ⟨_, (.slice VA ln vc), xs ++ [⟨a1, b1, c1, ys⟩], t, rfl, ⟨by rw [List.length_append, List.length_singleton]; omega, by rw [List.length_append, List.length_singleton]; omega⟩, CS8, HR⟩
                · rw [i2] at q1
                  clear hcond i1 i2
                  obtain ⟨V, hV⟩ : ∃ V : Value, V = .slice A xs.length cc := ⟨_, rfl⟩
                  rw [← hV] at CS g1
                  clear hV
                  go_wp2_with ((with_reducible refine gate_builtin (b := .append) (xs := #[.tmp 71, .tmp 73]) rfl ?_); at_builtin; refine Kd.R_append k63 (w0 := wr) w.heap.size rfl (.tmp 71) (.tmp 73) 36 63 (.agg #[(.int .i64 0), (.bool false), (.int .i64 0), (.slice none 0 0)]) 48 rfl Tryd.underlying36 infoS rfl (by decide) (by omega) V xs ⟨a1, b1, c1, ys⟩ [.int .i64 a1, .bool b1, .int .i64 c1, .slice B ys.length bc] (fun _ => True) (fun k => True ∧ some k ≠ V.ownBlock) rfl rfl ?aP (fun _ hk => ⟨trivial, hk.2⟩) ?aF ?aO ?aB ?aS ?aL ?_; (case aP => exact k63_mkM _ _ _ (⟨a1, b1, c1, ys⟩ : S63) (Kd.R_apartR (Kd.R_lower (Kd.R_mono SS.out.row (fun _ _ => trivial)) (by have := CS.out.pl; omega)) CS.out.row (by decide))); (case aB => exact Below.refl _ _); (case aF => exact (fun _ _ => trivial)); (case aO => exact Kd.R_mono CS.out.row (fun _ _ => trivial)); (case aS => have := CS.out.pl; omega); (case aL => have := HX3.out; omega); intro vN w7 ho hb hg hat; obtain ⟨VA, vc, hv⟩ := Kd.R_slice ho; obtain ⟨ln, hln⟩ : ∃ n, (xs ++ [(⟨a1, b1, c1, ys⟩ : S63)]).length = n := ⟨_, rfl⟩; rw [hln] at hv; clear hln; subst hv; have C7 := Aside0.mk (blk_grown CS.out.c hg (Kd.R_ne CS.out.row CS.out.c (by decide))); have R7 := Aside0.mk (blk_grown CS.out.r hg (Kd.R_ne CS.out.row CS.out.r (by decide))); have HB7 := Aside0.mk hb; have HO7 := Aside0.mk ho; have k1_ : w7.cell? ⟨gc, 1, none⟩ = some V := (blk_cell C7.out 1).trans rfl; have fk1 := blk_frozen C7.out 1; clear ho hb hg hat)
                  have hb := below_put w7 CS.out.pl.2.1 1 (.slice VA ln vc)
                  have hz : (w7.setCell ⟨gc, 1, none⟩ (.slice VA ln vc)).heap[gc]? = some (.cells #[.int .i64 v1, (.slice VA ln vc)] 38 (0, 0)) := by refine blk_put (cs := #[.int .i64 v1, V]) ?_ 1 _ rfl; exact C7.out
                  have hzr : (w7.setCell ⟨gc, 1, none⟩ (.slice VA ln vc)).heap[gr]? = some (.cells #[.int .i64 0, .slice none 0 0] 38 (0, 0)) := blk_far R7.out CS.out.pl.2.2.1 _
                  have hro := Kd.R_set HO7.out C7.out (by decide) 1 (.slice VA ln vc)
                  have hp := CS.out.pl
                  have hgE := CS.out.gE
                  have hbb := HB7.out.trans hb
                  have CS8 := Aside0.mk (show Cs w w0 g gr gc v1 (w7.setCell ⟨gc, 1, none⟩ (.slice VA ln vc)).heap.size (.slice VA ln vc) (xs ++ [⟨a1, b1, c1, ys⟩]) t (w7.setCell ⟨gc, 1, none⟩ (.slice VA ln vc)) from ⟨CS.out.tk.lowN hbb hgE hp.2.2.2.2.2.2.2, CS.out.fr.low hbb (Nat.le_refl _) (by omega), hgE, hzr, hz, ⟨hp.1, hp.2.1, hp.2.2.1, blk_lt hzr, blk_lt hz, by have := hbb.size; omega, Nat.le_refl _, hp.2.2.2.2.2.2.2⟩, Kd.R_mono (Kd.R_bound hro) (fun k hk => hk.2.2.1)⟩)
                  clear hb hz hzr hro hp hbb k1_ fk1
                  go_roundg k1
                  case measure => have := HX.out; omega
                  case rel =>
                    have h1 := HX.out
                    have h2 := HX3.out
                    exact ⟨_, (.slice VA ln vc), xs ++ [⟨a1, b1, c1, ys⟩], t, rfl, ⟨by rw [List.length_append, List.length_singleton]; omega, by rw [List.length_append, List.length_singleton]; omega⟩, CS8, HR⟩
              · have j1b : decide (0 < m) = false := decide_eq_false i1
                have j1c : decide (m > 0) = false := decide_eq_false i1
                clear hcond i1
                obtain ⟨V, hV⟩ : ∃ V : Value, V = .slice A xs.length cc := ⟨_, rfl⟩
                rw [← hV] at CS g1
                clear hV
                go_wp2_with ((with_reducible refine gate_builtin (b := .append) (xs := #[.tmp 71, .tmp 73]) rfl ?_); at_builtin; refine Kd.R_append k63 (w0 := wr) w.heap.size rfl (.tmp 71) (.tmp 73) 36 63 (.agg #[(.int .i64 0), (.bool false), (.int .i64 0), (.slice none 0 0)]) 48 rfl Tryd.underlying36 infoS rfl (by decide) (by omega) V xs ⟨a1, b1, c1, ys⟩ [.int .i64 a1, .bool b1, .int .i64 c1, .slice B ys.length bc] (fun _ => True) (fun k => True ∧ some k ≠ V.ownBlock) rfl rfl ?aP (fun _ hk => ⟨trivial, hk.2⟩) ?aF ?aO ?aB ?aS ?aL ?_; (case aP => exact k63_mkM _ _ _ (⟨a1, b1, c1, ys⟩ : S63) (Kd.R_apartR (Kd.R_lower (Kd.R_mono SS.out.row (fun _ _ => trivial)) (by have := CS.out.pl; omega)) CS.out.row (by decide))); (case aB => exact Below.refl _ _); (case aF => exact (fun _ _ => trivial)); (case aO => exact Kd.R_mono CS.out.row (fun _ _ => trivial)); (case aS => have := CS.out.pl; omega); (case aL => have := HX3.out; omega); intro vN w7 ho hb hg hat; obtain ⟨VA, vc, hv⟩ := Kd.R_slice ho; obtain ⟨ln, hln⟩ : ∃ n, (xs ++ [(⟨a1, b1, c1, ys⟩ : S63)]).length = n := ⟨_, rfl⟩; rw [hln] at hv; clear hln; subst hv; have C7 := Aside0.mk (blk_grown CS.out.c hg (Kd.R_ne CS.out.row CS.out.c (by decide))); have R7 := Aside0.mk (blk_grown CS.out.r hg (Kd.R_ne CS.out.row CS.out.r (by decide))); have HB7 := Aside0.mk hb; have HO7 := Aside0.mk ho; have k1_ : w7.cell? ⟨gc, 1, none⟩ = some V := (blk_cell C7.out 1).trans rfl; have fk1 := blk_frozen C7.out 1; clear ho hb hg hat)
                have hb := below_put w7 CS.out.pl.2.1 1 (.slice VA ln vc)
                have hz : (w7.setCell ⟨gc, 1, none⟩ (.slice VA ln vc)).heap[gc]? = some (.cells #[.int .i64 v1, (.slice VA ln vc)] 38 (0, 0)) := by refine blk_put (cs := #[.int .i64 v1, V]) ?_ 1 _ rfl; exact C7.out
                have hzr : (w7.setCell ⟨gc, 1, none⟩ (.slice VA ln vc)).heap[gr]? = some (.cells #[.int .i64 0, .slice none 0 0] 38 (0, 0)) := blk_far R7.out CS.out.pl.2.2.1 _
                have hro := Kd.R_set HO7.out C7.out (by decide) 1 (.slice VA ln vc)
                have hp := CS.out.pl
                have hgE := CS.out.gE
                have hbb := HB7.out.trans hb
                have CS8 := Aside0.mk (show Cs w w0 g gr gc v1 (w7.setCell ⟨gc, 1, none⟩ (.slice VA ln vc)).heap.size (.slice VA ln vc) (xs ++ [⟨a1, b1, c1, ys⟩]) t (w7.setCell ⟨gc, 1, none⟩ (.slice VA ln vc)) from ⟨CS.out.tk.lowN hbb hgE hp.2.2.2.2.2.2.2, CS.out.fr.low hbb (Nat.le_refl _) (by omega), hgE, hzr, hz, ⟨hp.1, hp.2.1, hp.2.2.1, blk_lt hzr, blk_lt hz, by have := hbb.size; omega, Nat.le_refl _, hp.2.2.2.2.2.2.2⟩, Kd.R_mono (Kd.R_bound hro) (fun k hk => hk.2.2.1)⟩)
                clear hb hz hzr hro hp hbb k1_ fk1
                go_roundg k1
                case measure => have := HX.out; omega
                case rel =>
                  have h1 := HX.out
                  have h2 := HX3.out
                  exact ⟨_, (.slice VA ln vc), xs ++ [⟨a1, b1, c1, ys⟩], t, rfl, ⟨by rw [List.length_append, List.length_singleton]; omega, by rw [List.length_append, List.length_singleton]; omega⟩, CS8, HR⟩
      · have hr := HR.out
        rw [sitesM, if_neg hcond] at hr
        replace HR := Aside0.mk hr
        clear hr
        by_cases i1 : 0 < n
        · have i1b : decide (0 < n) = true := decide_eq_true i1
          have i1c : decide (n > 0) = true := decide_eq_true i1
          cases i2 : s.2
          · have i3 : ¬ xs.length ≤ 3 := fun h9 => hcond ⟨i1, i2, h9⟩
            have i3b : decide ((xs.length : Int) ≤ 3) = false := decide_eq_false (by omega)
            rw [i2] at q1
            clear hcond i1 i2 i3
            have k0 : wr.cell? ⟨gc, 0, none⟩ = some (.int .i64 v1) := (blk_cell HC.out.c 0).trans rfl
            have k1 : wr.cell? ⟨gc, 1, none⟩ = some (.slice A xs.length cc) := (blk_cell HC.out.c 1).trans rfl
            have r0 : wr.cell? ⟨gr, 0, none⟩ = some (.int .i64 0) := (blk_cell HC.out.r 0).trans rfl
            have r1 : wr.cell? ⟨gr, 1, none⟩ = some (.slice none 0 0) := (blk_cell HC.out.r 1).trans rfl
            have fr0 := blk_frozen HC.out.r 0
            have fr1 := blk_frozen HC.out.r 1
            obtain rfl : (xs, s) = RR := HR.out
            have BR := Aside0.mk HC.out.r
            go_wp2_with fail
            have hz : ((wr.setCell ⟨gr, 0, none⟩ (.int .i64 v1)).setCell ⟨gr, 1, none⟩ (.slice A xs.length cc)).heap[gr]? = some (.cells #[.int .i64 v1, .slice A xs.length cc] 38 (0, 0)) := by refine blk_put (cs := #[.int .i64 v1, .slice none 0 0]) ?_ 1 _ rfl; refine blk_put (cs := #[.int .i64 0, .slice none 0 0]) ?_ 0 _ rfl; exact BR.out
            have hbz : Below w.heap.size wr ((wr.setCell ⟨gr, 0, none⟩ (.int .i64 v1)).setCell ⟨gr, 1, none⟩ (.slice A xs.length cc)) := (below_put wr HC.out.pl.1 0 _).trans (below_put _ HC.out.pl.1 1 _)
            refine bodyPost_ret (results_cell_row rfl _ _ gr 38 #[.int .i64 v1, .slice A xs.length cc] (0, 0) _ rfl hz Tryd.underlying38 rfl (by kernel_rfl)) rfl ?_
            have hp := HC.out.pl
            have hgE := HC.out.gE
            refine ⟨_, rfl, ?_, HC.out.tk.lowN hbz hgE hp.2.2.2.2.2.2.2, HC.out.fr.low hbz (Nat.le_refl _) (by omega)⟩
            exact Kd.R_mono (Kd.R_set (Kd.R_set HC.out.row BR.out (by decide) 0 _) (blk_put BR.out 0 _ rfl) (by decide) 1 _) (fun _ _ => trivial)
          · rw [i2] at q1
            clear hcond i1 i2
            have k0 : wr.cell? ⟨gc, 0, none⟩ = some (.int .i64 v1) := (blk_cell HC.out.c 0).trans rfl
            have k1 : wr.cell? ⟨gc, 1, none⟩ = some (.slice A xs.length cc) := (blk_cell HC.out.c 1).trans rfl
            have r0 : wr.cell? ⟨gr, 0, none⟩ = some (.int .i64 0) := (blk_cell HC.out.r 0).trans rfl
            have r1 : wr.cell? ⟨gr, 1, none⟩ = some (.slice none 0 0) := (blk_cell HC.out.r 1).trans rfl
            have fr0 := blk_frozen HC.out.r 0
            have fr1 := blk_frozen HC.out.r 1
            obtain rfl : (xs, s) = RR := HR.out
            have BR := Aside0.mk HC.out.r
            go_wp2_with fail
            have hz : ((wr.setCell ⟨gr, 0, none⟩ (.int .i64 v1)).setCell ⟨gr, 1, none⟩ (.slice A xs.length cc)).heap[gr]? = some (.cells #[.int .i64 v1, .slice A xs.length cc] 38 (0, 0)) := by refine blk_put (cs := #[.int .i64 v1, .slice none 0 0]) ?_ 1 _ rfl; refine blk_put (cs := #[.int .i64 0, .slice none 0 0]) ?_ 0 _ rfl; exact BR.out
            have hbz : Below w.heap.size wr ((wr.setCell ⟨gr, 0, none⟩ (.int .i64 v1)).setCell ⟨gr, 1, none⟩ (.slice A xs.length cc)) := (below_put wr HC.out.pl.1 0 _).trans (below_put _ HC.out.pl.1 1 _)
            refine bodyPost_ret (results_cell_row rfl _ _ gr 38 #[.int .i64 v1, .slice A xs.length cc] (0, 0) _ rfl hz Tryd.underlying38 rfl (by kernel_rfl)) rfl ?_
            have hp := HC.out.pl
            have hgE := HC.out.gE
            refine ⟨_, rfl, ?_, HC.out.tk.lowN hbz hgE hp.2.2.2.2.2.2.2, HC.out.fr.low hbz (Nat.le_refl _) (by omega)⟩
            exact Kd.R_mono (Kd.R_set (Kd.R_set HC.out.row BR.out (by decide) 0 _) (blk_put BR.out 0 _ rfl) (by decide) 1 _) (fun _ _ => trivial)
        · have i1b : decide (0 < n) = false := decide_eq_false i1
          have i1c : decide (n > 0) = false := decide_eq_false i1
          clear hcond i1
          have k0 : wr.cell? ⟨gc, 0, none⟩ = some (.int .i64 v1) := (blk_cell HC.out.c 0).trans rfl
          have k1 : wr.cell? ⟨gc, 1, none⟩ = some (.slice A xs.length cc) := (blk_cell HC.out.c 1).trans rfl
          have r0 : wr.cell? ⟨gr, 0, none⟩ = some (.int .i64 0) := (blk_cell HC.out.r 0).trans rfl
          have r1 : wr.cell? ⟨gr, 1, none⟩ = some (.slice none 0 0) := (blk_cell HC.out.r 1).trans rfl
          have fr0 := blk_frozen HC.out.r 0
          have fr1 := blk_frozen HC.out.r 1
          obtain rfl : (xs, s) = RR := HR.out
          have BR := Aside0.mk HC.out.r
          go_wp2_with fail
          have hz : ((wr.setCell ⟨gr, 0, none⟩ (.int .i64 v1)).setCell ⟨gr, 1, none⟩ (.slice A xs.length cc)).heap[gr]? = some (.cells #[.int .i64 v1, .slice A xs.length cc] 38 (0, 0)) := by refine blk_put (cs := #[.int .i64 v1, .slice none 0 0]) ?_ 1 _ rfl; refine blk_put (cs := #[.int .i64 0, .slice none 0 0]) ?_ 0 _ rfl; exact BR.out
          have hbz : Below w.heap.size wr ((wr.setCell ⟨gr, 0, none⟩ (.int .i64 v1)).setCell ⟨gr, 1, none⟩ (.slice A xs.length cc)) := (below_put wr HC.out.pl.1 0 _).trans (below_put _ HC.out.pl.1 1 _)
          refine bodyPost_ret (results_cell_row rfl _ _ gr 38 #[.int .i64 v1, .slice A xs.length cc] (0, 0) _ rfl hz Tryd.underlying38 rfl (by kernel_rfl)) rfl ?_
          have hp := HC.out.pl
          have hgE := HC.out.gE
          refine ⟨_, rfl, ?_, HC.out.tk.lowN hbz hgE hp.2.2.2.2.2.2.2, HC.out.fr.low hbz (Nat.le_refl _) (by omega)⟩
          exact Kd.R_mono (Kd.R_set (Kd.R_set HC.out.row BR.out (by decide) 0 _) (blk_put BR.out 0 _ rfl) (by decide) 1 _) (fun _ _ => trivial)
end Go.Proofs.YtnojgkiaolmoeaaDoor.Take
