/- Several texts of this proof in one file (put together by a program of this session). -/
import Derived.Test.YtnojgkiaolmoeaaDoorPenA
import Derived.Test.YtnojgkiaolmoeaaDoorTakeA
import Derived.Test.YtnojgkiaolmoeaaDoorPScx0
import Derived.Test.YtnojgkiaolmoeaaDoorPScx27
import Derived.Test.YtnojgkiaolmoeaaDoorPScx1
section
/- Contracts: what calls of these functions of the program do, each as a plain function; written by a program of this session. -/
namespace Go.Proofs.YtnojgkiaolmoeaaDoor.PSc
open Go.RowKit Go.Proofs.YtnojgkiaolmoeaaDoorW.PrintWords Go.Proofs.YtnojgkiaolmoeaaDoorW.PrintLast Go.Proofs.YtnojgkiaolmoeaaDoorW.PrintMore
attribute [local go_sem] max2_int min2_int max_two min_two max_three min_three max_four min_four   -- for this text's walks alone
set_option linter.unusedVariables false
set_option linter.unusedSimpArgs false

/-! ### wharfageref19_words_config: function 28, by hand -/
abbrev Ws := Int × Bool
def numW (T : ByteArray) (s : Ws) : Int × Ws := ((wharfageref19_words_num.L T 7 0 s.1).1, ((wharfageref19_words_num.L T 7 0 s.1).2 + 1, s.2 || decide ((wharfageref19_words_num.L T 7 0 s.1).2 ≥ (T.size : Int))))
def isW (T : ByteArray) (c : Int) (s : Ws) : Bool × Ws := if s.2 = true ∨ s.1 + 1 > (T.size : Int) then (false, (s.1 + 1, true)) else (bt T s.1 == c, (s.1 + 1, false))
def backW (T : ByteArray) (s : Ws) : S65 × Ws := (⟨(numW T s).1, (isW T 100 (numW T s).2).1⟩, (isW T 100 (numW T s).2).2)
def backsW (T : ByteArray) : Nat → Int → List S65 → Ws → List S65 × Ws
 | 0, _, acc, s => (acc, s)
 | f + 1, n, acc, s => if (acc.length : Int) < n ∧ acc.length ≤ 4 ∧ s.2 = false then backsW T f n (acc ++ [(backW T s).1]) (backW T s).2 else (acc, s)
def siteW (T : ByteArray) (s : Ws) : S63 × Ws :=
 let a := numW T s
 let b := isW T 100 a.2
 let c := numW T b.2
 let d := numW T c.2
 let e := backsW T 6 d.1 [] d.2
 (⟨a.1, b.1, c.1, e.1⟩, e.2)
def sitesW (T : ByteArray) : Nat → Int → List S63 → Ws → List S63 × Ws
 | 0, _, acc, s => (acc, s)
 | f + 1, n, acc, s => if (acc.length : Int) < n ∧ acc.length ≤ 3 ∧ s.2 = false then sitesW T f n (acc ++ [(siteW T s).1]) (siteW T s).2 else (acc, s)
def configW (T : ByteArray) (s : Ws) : S38 × Ws :=
 let a := numW T s
 let b := numW T a.2
 let c := sitesW T 5 b.1 [] b.2
 (⟨a.1, c.1⟩, c.2)
/-- The words in block g: the place and whether there was not what there should be; all that lay in w0 stands. -/
structure Wk (T : ByteArray) (w0 : World) (g m : Nat) (s : Ws) (w : World) : Prop where
 st : IsS72 w0 w g T s.1 s.2
 low : Below w0.heap.size w0 w
 lo : 0 ≤ s.1
 up : s.1 ≤ (T.size : Int) + (m : Int)
 ok : s.2 = false → s.1 ≤ (T.size : Int)
 len : T.size ≤ 281474976710656
theorem Wk.blk {T w0 g m s w} (h : Wk T w0 g m s w) : w.heap[g]? = some (.cells #[.string T, .int .i64 s.1, .bool s.2] 72 (0, 0)) := h.st.1
theorem Wk.ge {T w0 g m s w} (h : Wk T w0 g m s w) : w0.heap.size ≤ g := h.st.2
theorem Wk.lt {T w0 g m s w} (h : Wk T w0 g m s w) : g < w.heap.size := (Array.getElem?_eq_some_iff.1 h.blk).1
theorem Wk.sz {T w0 g m s w} (h : Wk T w0 g m s w) : w0.heap.size ≤ w.heap.size := below_size h.low
theorem Wk.next {T w0 g m s w w1} (h : Wk T w0 g m s w) (hb : Below w.heap.size w w1) : Wk T w0 g m s w1 := ⟨⟨(hb.block g h.lt).trans h.blk, h.ge⟩, h.low.trans (Pen.below_of h.sz hb), h.lo, h.up, h.ok, h.len⟩
theorem Wk.lowN {T w0 g m s w w1 N} (h : Wk T w0 g m s w) (hb : Below N w w1) (hg : g < N) (hN : w0.heap.size ≤ N) : Wk T w0 g m s w1 := ⟨⟨Take.blk_low h.blk hb hg, h.ge⟩, h.low.trans ⟨hb.os, hb.tape, hb.output, hb.size, fun i hi => hb.block i (by omega)⟩, h.lo, h.up, h.ok, h.len⟩
theorem Wk.c0 {T w0 g m s w} (h : Wk T w0 g m s w) : w.cell? ⟨g, 0, none⟩ = some (.string T) := by rw [Lib.cell_of_heap h.blk]; rfl
theorem Wk.c1 {T w0 g m s w} (h : Wk T w0 g m s w) : w.cell? ⟨g, 1, none⟩ = some (.int .i64 s.1) := by rw [Lib.cell_of_heap h.blk]; rfl
theorem Wk.c2 {T w0 g m s w} (h : Wk T w0 g m s w) : w.cell? ⟨g, 2, none⟩ = some (.bool s.2) := by rw [Lib.cell_of_heap h.blk]; rfl
theorem Wk.fz {T w0 g m s w} (h : Wk T w0 g m s w) (j : Nat) : w.frozen? ⟨g, j, none⟩ = false := Lib.frozen_of_heap h.blk j
theorem Wk.mono {T w0 g m s w} (h : Wk T w0 g m s w) {m1 : Nat} (hm : m ≤ m1) : Wk T w0 g m1 s w := ⟨h.st, h.low, h.lo, by have := h.up; omega, h.ok, h.len⟩
theorem Wk.zero {T w0 g m s w} (h : Wk T w0 g m s w) (h0 : s.2 = false) : Wk T w0 g 0 s w := ⟨h.st, h.low, h.lo, by have := h.ok h0; omega, h.ok, h.len⟩
theorem fr_keep {g : Nat} {w0 w w1 : World} (hk : KeepBut w w1 g none) (h0 : Below w0.heap.size w0 w) (h1 : Below w0.heap.size w0 w1) : Take.Fr g w w1 := ⟨h1.os.trans h0.os.symm, h1.tape.trans h0.tape.symm, h1.output.trans h0.output.symm, hk.1, fun i hi hg => hk.2 i hi hg (by simp)⟩
theorem numC (T : ByteArray) (w0 : World) (g m : Nat) (s : Ws) (w : World) (h : Wk T w0 g m s w) (hm : m ≤ 1000) (x : Int) (s1 : Ws) (hx : numW T s = (x, s1)) :
  Calls Tryd.prog 26 #[.pointer (some ⟨g, 0, none⟩)] w fun e w' => e = .returned (.int .i64 x) ∧ Wk T w0 g (m + 8) s1 w' ∧ Take.Fr g w w' := by
 have hu := h.up
 have hl := h.len
 have hL := wharfageref19_words_num.L_le T 7 0 s.1 h.lo
 unfold numW at hx
 injection hx with hx1 hx2
 refine (wharfageref19_words_num.calls g T s.1 s.2 (wharfageref19_words_num.L T 7 0 s.1).1 T ((wharfageref19_words_num.L T 7 0 s.1).2 + 1) (s.2 || decide ((wharfageref19_words_num.L T 7 0 s.1).2 ≥ (T.size : Int))) w0 w h.st h.low (by unfold wharfageref19_words_num.f; rw [if_pos ⟨h.lo, by omega, hl⟩])).mono ?_
 rintro e w' ⟨rfl, hI, hB, hK⟩
 refine ⟨by rw [hx1], ?_, fr_keep hK h.low hB⟩
 subst hx2
 refine ⟨hI, hB, ?_, ?_, ?_, hl⟩
 ·show (0 : Int) ≤ _ + 1
  have := h.lo
  omega
 ·show _ + 1 ≤ _
  omega
 ·intro hb
  have hb2 : (s.2 || decide ((wharfageref19_words_num.L T 7 0 s.1).2 ≥ (T.size : Int))) = false := hb
  rw [Bool.or_eq_false_iff] at hb2
  have := of_decide_eq_false hb2.2
  show _ + 1 ≤ _
  omega
theorem isC (T : ByteArray) (w0 : World) (g m : Nat) (c : Int) (s : Ws) (w : World) (h : Wk T w0 g m s w) (hm : m ≤ 1000) (x : Bool) (s1 : Ws) (hx : isW T c s = (x, s1)) :
  Calls Tryd.prog 27 #[.pointer (some ⟨g, 0, none⟩), .int .u8 c] w fun e w' => e = .returned (.bool x) ∧ Wk T w0 g (m + 8) s1 w' ∧ Take.Fr g w w' := by
 have hu := h.up
 have hl := h.len
 have h0 := h.lo
 have w1 : wrap64 (s.1 + 1) = s.1 + 1 := by unfold wrap64; omega
 have w2 : wrap64 (s.1 + 1 - 1) = s.1 := by unfold wrap64; omega
 have hf : wharfageref19_words_is.f T s.1 s.2 c = some (x, T, s1.1, s1.2) := by
  unfold wharfageref19_words_is.f
  unfold isW at hx
  rw [w1, w2]
  by_cases hb : s.2 = true
  ·rw [if_pos hb]
   rw [if_pos (.inl hb)] at hx
   injection hx with hx1 hx2
   subst hx1 hx2
   rfl
  ·rw [if_neg hb]
   by_cases hg : s.1 + 1 > (T.size : Int)
   ·rw [if_pos hg]
    rw [if_pos (.inr hg)] at hx
    injection hx with hx1 hx2
    subst hx1 hx2
    rfl
   ·rw [if_neg hg, if_pos h0, if_pos (by omega)]
    rw [if_neg (fun q => q.elim hb hg)] at hx
    injection hx with hx1 hx2
    subst hx1 hx2
    simp at hb
    simp [hb]
 refine (wharfageref19_words_is.calls g T s.1 s.2 c x T s1.1 s1.2 w0 w h.st h.low hf).mono ?_
 rintro e w' ⟨rfl, hI, hB, hK⟩
 refine ⟨rfl, ?_, fr_keep hK h.low hB⟩
 have e1 : s1.1 = s.1 + 1 := by
  unfold isW at hx
  split at hx <;> (injection hx with _ hx2; rw [← hx2])
 refine ⟨hI, hB, by omega, by omega, fun hb => ?_, hl⟩
 unfold isW at hx
 split at hx
 ·injection hx with _ hx2
  rw [← hx2] at hb
  simp at hb
 ·next hq => omega
/-- The taker's configuration so far: the result's block gr, the configuration's gc with its row v of sites; all that changes lies at N or above. -/
structure Cw (T : ByteArray) (mm : Nat) (wE w0 : World) (g gr gc : Nat) (ver : Int) (N : Nat) (v : Value) (xs : List S63) (s : Ws) (W : World) : Prop where
 tk : Wk T w0 g mm s W
 fr : Take.Fr g wE W
 gE : g < wE.heap.size
 r : W.heap[gr]? = some (.cells #[.int .i64 0, .slice none 0 0] 38 (0, 0))
 c : W.heap[gc]? = some (.cells #[.int .i64 ver, v] 38 (0, 0))
 pl : wE.heap.size ≤ gr ∧ wE.heap.size ≤ gc ∧ gr ≠ gc ∧ gr < N ∧ gc < N ∧ wE.heap.size ≤ N ∧ N ≤ W.heap.size ∧ w0.heap.size ≤ wE.heap.size
 row : Kd.R k63 63 W wE.heap.size (fun k => k < N) v xs
theorem Cw.call {T mm wE w0 g gr gc ver N v xs s W} (h : Cw T mm wE w0 g gr gc ver N v xs s W) {s1 : Ws} {m1 : Nat} {W1 : World} (hT : Wk T w0 g m1 s1 W1) (hF : Take.Fr g W W1) : Cw T m1 wE w0 g gr gc ver N v xs s1 W1 := by
 have hp := h.pl
 have hg := h.gE
 refine ⟨hT, h.fr.trans hF, h.gE, Take.blk_fr h.r hF (by omega), Take.blk_fr h.c hF (by omega), ⟨hp.1, hp.2.1, hp.2.2.1, hp.2.2.2.1, hp.2.2.2.2.1, hp.2.2.2.2.2.1, Nat.le_trans hp.2.2.2.2.2.2.1 hF.size, hp.2.2.2.2.2.2.2⟩, ?_⟩
 exact Kd.R_mono (Kd.R_step (Kd.R_types h.row h.tk.blk (by decide)) (fun k hk hlt => hF.blk k hlt hk.2)) (fun k hk => hk.1)
theorem Cw.low {T mm wE w0 g gr gc ver N v xs s W} (h : Cw T mm wE w0 g gr gc ver N v xs s W) {W1 : World} (hb : Below N W W1) : Cw T mm wE w0 g gr gc ver N v xs s W1 := by
 have hp := h.pl
 have hg := h.gE
 refine ⟨h.tk.lowN hb (by omega) (by omega), h.fr.low hb hp.2.2.2.2.2.1 hp.2.2.2.2.2.2.1, h.gE, Take.blk_low h.r hb hp.2.2.2.1, Take.blk_low h.c hb hp.2.2.2.2.1, ⟨hp.1, hp.2.1, hp.2.2.1, hp.2.2.2.1, hp.2.2.2.2.1, hp.2.2.2.2.2.1, Nat.le_trans hp.2.2.2.2.2.2.1 hb.size, hp.2.2.2.2.2.2.2⟩, ?_⟩
 exact Kd.R_step h.row (fun k hk _ => hb.block k hk)
/-- .. with N raised to where the world ends now. -/
theorem Cw.up {T mm wE w0 g gr gc ver N v xs s W} (h : Cw T mm wE w0 g gr gc ver N v xs s W) : Cw T mm wE w0 g gr gc ver W.heap.size v xs s W := by
 have hp := h.pl
 exact ⟨h.tk, h.fr, h.gE, h.r, h.c, ⟨hp.1, hp.2.1, hp.2.2.1, by omega, by omega, by omega, Nat.le_refl _, hp.2.2.2.2.2.2.2⟩, Kd.R_mono h.row (fun k hk => by omega)⟩
/-- A site so far, in block gs, with its row u of backends; what changes lies at M or above. -/
structure Sw (N M gs : Nat) (a : Int) (d : Bool) (c : Int) (u : Value) (ys : List S65) (W : World) : Prop where
 blk : W.heap[gs]? = some (.cells #[.int .i64 a, .bool d, .int .i64 c, u] 63 (0, 0))
 pl : N ≤ gs ∧ gs < M ∧ M ≤ W.heap.size
 row : Kd.R k65 65 W N (fun k => k < M) u ys
theorem Sw.call {N M gs a d c u ys W} (h : Sw N M gs a d c u ys W) {g : Nat} {T : ByteArray} {mm : Nat} {w0 : World} {s : Ws} (hk : Wk T w0 g mm s W) (hg : g < N) {W1 : World} (hF : Take.Fr g W W1) : Sw N M gs a d c u ys W1 := by
 have hp := h.pl
 refine ⟨Take.blk_fr h.blk hF (by omega), ⟨hp.1, hp.2.1, Nat.le_trans hp.2.2 hF.size⟩, ?_⟩
 exact Kd.R_mono (Kd.R_step (Kd.R_types h.row hk.blk (by decide)) (fun k hk hlt => hF.blk k hlt hk.2)) (fun k hk => hk.1)
theorem Sw.low {N M gs a d c u ys W} (h : Sw N M gs a d c u ys W) {W1 : World} (hb : Below M W W1) : Sw N M gs a d c u ys W1 :=
 ⟨Take.blk_low h.blk hb h.pl.2.1, ⟨h.pl.1, h.pl.2.1, Nat.le_trans h.pl.2.2 hb.size⟩, Kd.R_step h.row (fun k hk _ => hb.block k hk)⟩
theorem Sw.up {N M gs a d c u ys W} (h : Sw N M gs a d c u ys W) : Sw N W.heap.size gs a d c u ys W := by
 have hp := h.pl
 exact ⟨h.blk, ⟨hp.1, by omega, Nat.le_refl _⟩, Kd.R_mono h.row (fun k hk => by omega)⟩
theorem Cw.zero {T mm wE w0 g gr gc ver N v xs s W} (h : Cw T mm wE w0 g gr gc ver N v xs s W) (h0 : s.2 = false) : Cw T 0 wE w0 g gr gc ver N v xs s W := ⟨h.tk.zero h0, h.fr, h.gE, h.r, h.c, h.pl, h.row⟩
theorem Cw.mono {T mm wE w0 g gr gc ver N v xs s W} (h : Cw T mm wE w0 g gr gc ver N v xs s W) {m1 : Nat} (hm : mm ≤ m1) : Cw T m1 wE w0 g gr gc ver N v xs s W := ⟨h.tk.mono hm, h.fr, h.gE, h.r, h.c, h.pl, h.row⟩
theorem len_up {α : Type} (xs : List α) (x : α) (h : xs.length ≤ 1000) : (Value.int .i64 (wrap64 ((xs.length : Int) + 1))) = .int .i64 (((xs ++ [x]).length : Nat) : Int) := by
 have e : wrap64 ((xs.length : Int) + 1) = (((xs ++ [x]).length : Nat) : Int) := by
  rw [List.length_append, List.length_singleton]
  unfold wrap64
  omega
 rw [e]
set_option maxHeartbeats 4000000 in
set_option maxRecDepth 100000 in
theorem wharfageref19_words_config.calls (T : ByteArray) (w0 : World) (g : Nat) (s0 : Ws) (w : World) (h : Wk T w0 g 0 s0 w) (x : S38) (sF : Ws) (hM : configW T s0 = (x, sF)) :
  Calls Tryd.prog 28 #[.pointer (some ⟨g, 0, none⟩)] w fun e w' => ∃ v, e = .returned (.agg #[.int .i64 x.f0, v]) ∧ Kd.R k63 63 w' w.heap.size (fun _ => True) v x.f1 ∧ Wk T w0 g 40 sF w' ∧ Take.Fr g w w' := by
 have hu := Tryd.underlying63
 have hu2 := Tryd.underlying65
 have hu3 := Tryd.underlying38
 have hu4 := Tryd.underlying72
 have HT := Aside0.mk h
 have HG := Aside0.mk h.lt
 have HS0 := Aside0.mk h.sz
 unfold configW at hM
 obtain ⟨⟨v1, s1⟩, h1⟩ : ∃ k, numW T s0 = k := ⟨_, rfl⟩
 obtain ⟨⟨n1, s2⟩, h2⟩ : ∃ k, numW T s1 = k := ⟨_, rfl⟩
 obtain ⟨RR, hR⟩ : ∃ k, sitesW T 5 n1 [] s2 = k := ⟨_, rfl⟩
 simp only [h1, h2, hR] at hM
 obtain ⟨rfl, rfl⟩ : (⟨v1, RR.1⟩ : S38) = x ∧ RR.2 = sF := by simpa using hM
 show Calls _ _ _ _ (fun e w' => ∃ v, e = .returned (.agg #[.int .i64 v1, v]) ∧ Kd.R k63 63 w' w.heap.size (fun _ => True) v RR.1 ∧ Wk T w0 g 40 RR.2 w' ∧ Take.Fr g w w')
 have H1 := Aside0.mk h1
 have H2 := Aside0.mk h2
 have HRR := Aside0.mk hR
 clear h hM h1 h2 hR
 go_enter Tryd.func28, Tryd.ntmps28
 go_upto_region 1 with fail
 obtain ⟨gr, hgr⟩ : ∃ n, n = w.heap.size := ⟨_, rfl⟩
 obtain ⟨wa, hwa⟩ : ∃ x_, x_ = w.alloc (.cells #[.int .i64 0, .slice none 0 0] 38) := ⟨_, rfl⟩
 have BA := Aside0.mk (show Below w.heap.size w wa by rw [hwa]; exact below_alloc (Below.refl _ _) _)
 have BR := Aside0.mk (show wa.heap[gr]? = some (.cells #[.int .i64 0, .slice none 0 0] 38 (0, 0)) by rw [hwa, hgr]; exact heap_alloc_new w _)
 have HGR := Aside0.mk (show w.heap.size ≤ gr ∧ gr ≠ g by have := HG.out; omega)
 rw [← hwa, ← hgr]
 clear hwa hgr
 have TA := Aside0.mk (HT.out.next BA.out)
 go_upto_region 2 with (first | (go_at_call 26; refine (numC T w0 g _ s0 _ TA.out (by omega) v1 s1 H1.out).mono ?_; rintro e w2 ⟨rfl, hT, hF⟩; have T2 := Aside0.mk hT; have F2 := Aside0.mk ((Take.Fr.of_below (g := g) BA.out).trans hF); have B2 := Aside0.mk (Take.blk_fr BR.out hF HGR.out.2); clear hT hF) | ((with_reducible refine gate_dst (N := 3) rfl ?_); refine box_event ?hg (N := 3) ?hd (cs := #[.int .i64 0, .slice none 0 0]) (t := 38) ?hr ?_; (case hd => rfl); (case hg => rfl); (case hr => first | (go_simp; done) | (go_simp; rfl)); intro gc hg w3 hbox hb; have HW := Aside0.mk hb; have G := Aside0.mk (Nat.le_of_eq hg.symm : w2.heap.size ≤ gc); have Zb := Aside0.mk hbox; clear hb hbox hg; have z0 : w3.cell? ⟨gc, 0, none⟩ = some (.int .i64 0) := (blk_cell Zb.out 0).trans rfl; have y0 := blk_frozen Zb.out 0; have z1 : w3.cell? ⟨gc, 1, none⟩ = some (.slice none 0 0) := (blk_cell Zb.out 1).trans rfl; have y1 := blk_frozen Zb.out 1; skip))
 refine Take.hide_ (fun W => Below w2.heap.size w2 W ∧ W.heap[gc]? = some (.cells #[.int .i64 v1, .slice none 0 0] 38 (0, 0)) ∧ w2.heap.size ≤ gc) ⟨by with_reducible repeat (first | exact HW.out | refine below_set ?_ G.out), by refine blk_put (cs := #[.int .i64 v1, .slice none 0 0]) ?_ 1 _ rfl; refine blk_put (cs := #[.int .i64 0, .slice none 0 0]) ?_ 0 _ rfl; exact Zb.out, G.out⟩ ?_
 intro w4 ⟨hb, hz, hge⟩
 have T4 := Aside0.mk (T2.out.next hb)
 have F4 := Aside0.mk (F2.out.trans (Take.Fr.of_below (g := g) hb))
 have B4 := Aside0.mk ((hb.block gr (blk_lt B2.out)).trans B2.out)
 have C4 := Aside0.mk hz
 have P4 := Aside0.mk (show w.heap.size ≤ gc ∧ gr ≠ gc ∧ gc ≠ g by have h1 := blk_lt B2.out; have h2 := T2.out.lt; have h3 := F2.out.size; omega)
 clear hb hz hge HW G Zb z0 y0 z1 y1
 go_wp2_with (go_at_call 26; refine (numC T w0 g _ s1 _ T4.out (by omega) n1 s2 H2.out).mono ?_; rintro e w6 ⟨rfl, hT, hF⟩; have T6 := Aside0.mk hT; have F6 := Aside0.mk (F4.out.trans hF); have B6 := Aside0.mk (Take.blk_fr B4.out hF HGR.out.2); have C6 := Aside0.mk (Take.blk_fr C4.out hF P4.out.2.2); clear hT hF)
 have CS0 := Aside0.mk (show Cw T 40 w w0 g gr gc v1 w6.heap.size (.slice none 0 0) [] s2 w6 from ⟨T6.out.mono (by omega), F6.out, HG.out, B6.out, C6.out, ⟨HGR.out.1, P4.out.1, P4.out.2.1, blk_lt B6.out, blk_lt C6.out, F6.out.size, Nat.le_refl _, HS0.out⟩, Kd.R_nil _ _ _ _ _⟩)
 clear T2 F2 B2 T4 F4 B4 C4 P4 T6 F6 B6 C6 BA BR TA HT H1 H2
 go_loopg [5] 5 (fun kq v5 w' => ∃ (v : Value) (xs : List S63) (s : Ws), v5 = .int .i64 (xs.length : Int) ∧ Aside0 (xs.length ≤ 4 ∧ kq + xs.length = 5) ∧ Aside0 (Cw T 40 w w0 g gr gc v1 w'.heap.size v xs s w') ∧ Aside0 (sitesW T kq n1 xs s = RR))
 case atStart => exact ⟨_, [], s2, rfl, ⟨by simp, rfl⟩, CS0, HRR⟩
 case round =>
  clear CS0 HRR
  obtain ⟨v, xs, s, rfl, HX, HC, HR⟩ := hrel
  obtain ⟨A, cc, rfl⟩ := Kd.R_slice HC.out.row
  cases gk with
  | zero => have := HX.out; omega
  | succ k1 =>
   have q1 : wr.cell? ⟨g, 2, none⟩ = some (.bool s.2) := HC.out.tk.c2
   have m1 : wr.cell? ⟨gc, 1, none⟩ = some (.slice A xs.length cc) := (blk_cell HC.out.c 1).trans rfl
   by_cases hcond : (xs.length : Int) < n1 ∧ xs.length ≤ 3 ∧ s.2 = false
   ·have hr := HR.out
    rw [sitesW, if_pos hcond] at hr
    obtain ⟨⟨a1, sa⟩, ha⟩ : ∃ k, numW T s = k := ⟨_, rfl⟩
    obtain ⟨⟨b1, sb⟩, hb⟩ : ∃ k, isW T 100 sa = k := ⟨_, rfl⟩
    obtain ⟨⟨c1, sc⟩, hc⟩ : ∃ k, numW T sb = k := ⟨_, rfl⟩
    obtain ⟨⟨d1, sd⟩, hd⟩ : ∃ k, numW T sc = k := ⟨_, rfl⟩
    obtain ⟨⟨e1, se⟩, he⟩ : ∃ k, backsW T 6 d1 [] sd = k := ⟨_, rfl⟩
    have hsite : siteW T s = (⟨a1, b1, c1, e1⟩, se) := by unfold siteW; simp only [ha, hb, hc, hd, he]
    rw [hsite] at hr
    replace HR := Aside0.mk hr
    have HA := Aside0.mk ha
    have HB := Aside0.mk hb
    have HCC := Aside0.mk hc
    have HD := Aside0.mk hd
    have HEE := Aside0.mk he
    obtain ⟨i1, i3, i2⟩ := hcond
    have i1b : decide ((xs.length : Int) < n1) = true := decide_eq_true i1
    have i3b : decide ((xs.length : Int) ≤ 3) = true := decide_eq_true (by omega)
    rw [i2] at q1
    obtain ⟨N, hN⟩ : ∃ N, wr.heap.size = N := ⟨_, rfl⟩
    have HNW := Aside0.mk hN
    have CS := Aside0.mk ((show Cw T 40 w w0 g gr gc v1 N (.slice A xs.length cc) xs s wr from hN ▸ HC.out).zero i2)
    have HX3 := Aside0.mk i3
    clear ha hb hc hd he hsite hr HC hN i1 i2 i3
    go_upto_region 7 with (first | (go_at_call 26; refine (numC T w0 g _ s _ CS.out.tk (by omega) a1 sa HA.out).mono ?_; rintro e w2 ⟨rfl, hT, hF⟩; replace CS := Aside0.mk (CS.out.call hT hF); clear q1 m1; clear hT hF) | ((with_reducible refine gate_dst (N := 6) rfl ?_); refine box_event ?hg (N := 6) ?hd (cs := #[.int .i64 0, .bool false, .int .i64 0, .slice none 0 0]) (t := 63) ?hr ?_; (case hd => rfl); (case hg => rfl); (case hr => first | (go_simp; done) | (go_simp; rfl)); intro gs hg w3 hbox hb; have HW := Aside0.mk hb; have G := Aside0.mk (Nat.le_of_eq hg.symm : w2.heap.size ≤ gs); have Zb := Aside0.mk hbox; clear hb hbox hg; have z0 : w3.cell? ⟨gs, 0, none⟩ = some (.int .i64 0) := (blk_cell Zb.out 0).trans rfl; have y0 := blk_frozen Zb.out 0; have z1 : w3.cell? ⟨gs, 1, none⟩ = some (.bool false) := (blk_cell Zb.out 1).trans rfl; have y1 := blk_frozen Zb.out 1; have z2 : w3.cell? ⟨gs, 2, none⟩ = some (.int .i64 0) := (blk_cell Zb.out 2).trans rfl; have y2 := blk_frozen Zb.out 2; have z3 : w3.cell? ⟨gs, 3, none⟩ = some (.slice none 0 0) := (blk_cell Zb.out 3).trans rfl; have y3 := blk_frozen Zb.out 3; skip))
    refine Take.hide_ (fun W => Below w2.heap.size w2 W ∧ W.heap[gs]? = some (.cells #[.int .i64 a1, .bool false, .int .i64 0, .slice none 0 0] 63 (0, 0)) ∧ w2.heap.size ≤ gs) ⟨by with_reducible repeat (first | exact HW.out | refine below_set ?_ G.out), by refine blk_put (cs := #[.int .i64 a1, .bool false, .int .i64 0, .slice none 0 0]) ?_ 3 _ rfl; refine blk_put (cs := #[.int .i64 a1, .bool false, .int .i64 0, .slice none 0 0]) ?_ 2 _ rfl; refine blk_put (cs := #[.int .i64 a1, .bool false, .int .i64 0, .slice none 0 0]) ?_ 1 _ rfl; refine blk_put (cs := #[.int .i64 0, .bool false, .int .i64 0, .slice none 0 0]) ?_ 0 _ rfl; exact Zb.out, G.out⟩ ?_
    intro w4 ⟨hb, hz, hge⟩
    have hp := CS.out.pl
    have SS := Aside0.mk (show Sw N w4.heap.size gs a1 false 0 (.slice none 0 0) [] w4 from ⟨hz, ⟨by omega, blk_lt hz, Nat.le_refl _⟩, Kd.R_nil _ _ _ _ _⟩)
    replace CS := Aside0.mk (CS.out.low (Take.below_le hb hp.2.2.2.2.2.2.1))
    have HGN := Aside0.mk (show g < N by have := CS.out.gE; have := CS.out.pl; omega)
    clear hb hz hge HW G Zb z0 y0 z1 y1 z2 y2 z3 y3 hp
    go_upto_region 8 with (go_at_call 27; refine (isC T w0 g _ 100 sa _ CS.out.tk (by omega) b1 sb HB.out).mono ?_; rintro e w5 ⟨rfl, hT, hF⟩; replace SS := Aside0.mk (SS.out.call CS.out.tk HGN.out hF); replace CS := Aside0.mk (CS.out.call hT hF); have k1_ : w5.cell? ⟨gs, 1, none⟩ = some (.bool false) := (blk_cell SS.out.blk 1).trans rfl; have fk1 := blk_frozen SS.out.blk 1; clear hT hF)
    refine Take.hide_ (fun W => Below N w5 W ∧ W.heap[gs]? = some (.cells #[.int .i64 a1, .bool b1, .int .i64 0, .slice none 0 0] 63 (0, 0))) ⟨Take.below_put w5 SS.out.pl.1 1 _, by refine blk_put (cs := #[.int .i64 a1, .bool false, .int .i64 0, .slice none 0 0]) ?_ 1 _ rfl; exact SS.out.blk⟩ ?_
    intro w6 ⟨hb, hz⟩
    have hs1 := SS.out.pl
    clear k1_ fk1
    replace SS := Aside0.mk (show Sw N w6.heap.size gs a1 b1 0 (.slice none 0 0) [] w6 from ⟨hz, ⟨hs1.1, blk_lt hz, Nat.le_refl _⟩, Kd.R_nil _ _ _ _ _⟩)
    replace CS := Aside0.mk (CS.out.low hb)
    clear hb hz hs1
    go_upto_region 9 with (go_at_call 26; refine (numC T w0 g _ sb _ CS.out.tk (by omega) c1 sc HCC.out).mono ?_; rintro e w7 ⟨rfl, hT, hF⟩; replace SS := Aside0.mk (SS.out.call CS.out.tk HGN.out hF); replace CS := Aside0.mk (CS.out.call hT hF); have k2_ : w7.cell? ⟨gs, 2, none⟩ = some (.int .i64 0) := (blk_cell SS.out.blk 2).trans rfl; have fk2 := blk_frozen SS.out.blk 2; clear hT hF)
    refine Take.hide_ (fun W => Below N w7 W ∧ W.heap[gs]? = some (.cells #[.int .i64 a1, .bool b1, .int .i64 c1, .slice none 0 0] 63 (0, 0))) ⟨Take.below_put w7 SS.out.pl.1 2 _, by refine blk_put (cs := #[.int .i64 a1, .bool b1, .int .i64 0, .slice none 0 0]) ?_ 2 _ rfl; exact SS.out.blk⟩ ?_
    intro w8 ⟨hb, hz⟩
    have hs1 := SS.out.pl
    clear k2_ fk2
    replace SS := Aside0.mk (show Sw N w8.heap.size gs a1 b1 c1 (.slice none 0 0) [] w8 from ⟨hz, ⟨hs1.1, blk_lt hz, Nat.le_refl _⟩, Kd.R_nil _ _ _ _ _⟩)
    replace CS := Aside0.mk (CS.out.low hb)
    clear hb hz hs1
    go_wp2_with (go_at_call 26; refine (numC T w0 g _ sc _ CS.out.tk (by omega) d1 sd HD.out).mono ?_; rintro e w9 ⟨rfl, hT, hF⟩; replace SS := Aside0.mk (SS.out.call CS.out.tk HGN.out hF); replace CS := Aside0.mk (CS.out.call hT hF); clear hT hF)
    replace SS := Aside0.mk SS.out.up
    replace CS := Aside0.mk (CS.out.mono (m1 := 40) (by omega))
    go_loopg [8] 6 (fun kq v8 w' => ∃ (u : Value) (ys : List S65) (t : Ws), v8 = .int .i64 (ys.length : Int) ∧ Aside0 (ys.length ≤ 5 ∧ kq + ys.length = 6) ∧ Aside0 (Cw T 40 w w0 g gr gc v1 N (.slice A xs.length cc) xs t w') ∧ Aside0 (Sw N w'.heap.size gs a1 b1 c1 u ys w') ∧ Aside0 (backsW T kq d1 ys t = (e1, se)))
    case atStart => exact ⟨_, [], sd, rfl, ⟨by simp, rfl⟩, CS, SS, HEE⟩
    case round =>
     clear CS SS HEE
     obtain ⟨u, ys, t, rfl, HY, CS, SS, HQ⟩ := hrel
     obtain ⟨B, bc, rfl⟩ := Kd.R_slice SS.out.row
     cases gk with
     | zero => have := HY.out; omega
     | succ k2 =>
      have q1 : wr.cell? ⟨g, 2, none⟩ = some (.bool t.2) := CS.out.tk.c2
      have m3 : wr.cell? ⟨gs, 3, none⟩ = some (.slice B ys.length bc) := (blk_cell SS.out.blk 3).trans rfl
      by_cases hcond : (ys.length : Int) < d1 ∧ ys.length ≤ 4 ∧ t.2 = false
      ·have hr := HQ.out
       rw [backsW, if_pos hcond] at hr
       obtain ⟨⟨x1, sx⟩, hx⟩ : ∃ k, numW T t = k := ⟨_, rfl⟩
       obtain ⟨⟨y1, sy⟩, hy⟩ : ∃ k, isW T 100 sx = k := ⟨_, rfl⟩
       have hback : backW T t = (⟨x1, y1⟩, sy) := by unfold backW; simp only [hx, hy]
       rw [hback] at hr
       replace HQ := Aside0.mk hr
       have HXX := Aside0.mk hx
       have HYY := Aside0.mk hy
       obtain ⟨i1, i3, i2⟩ := hcond
       have j1b : decide ((ys.length : Int) < d1) = true := decide_eq_true i1
       have j3b : decide ((ys.length : Int) ≤ 4) = true := decide_eq_true (by omega)
       rw [i2] at q1
       obtain ⟨M, hM⟩ : ∃ M, wr.heap.size = M := ⟨_, rfl⟩
       rw [hM] at SS
       replace CS := Aside0.mk (CS.out.zero i2)
       have HY4 := Aside0.mk i3
       have HMN := Aside0.mk (show N ≤ M by have := CS.out.pl; omega)
       clear hx hy hback hr hM i1 i2 i3
       go_upto_region 14 with (first | (go_at_call 26; refine (numC T w0 g _ t _ CS.out.tk (by omega) x1 sx HXX.out).mono ?_; rintro e w2 ⟨rfl, hT, hF⟩; replace SS := Aside0.mk (SS.out.call CS.out.tk HGN.out hF); replace CS := Aside0.mk (CS.out.call hT hF); clear q1 m3; clear hT hF) | ((with_reducible refine gate_dst (N := 9) rfl ?_); refine box_event ?hg (N := 9) ?hd (cs := #[.int .i64 0, .bool false]) (t := 65) ?hr ?_; (case hd => rfl); (case hg => rfl); (case hr => first | (go_simp; done) | (go_simp; rfl)); intro gb hg w3 hbox hb; have HW := Aside0.mk hb; have G := Aside0.mk (Nat.le_of_eq hg.symm : w2.heap.size ≤ gb); have Zb := Aside0.mk hbox; clear hb hbox hg; have z0 : w3.cell? ⟨gb, 0, none⟩ = some (.int .i64 0) := (blk_cell Zb.out 0).trans rfl; have y0 := blk_frozen Zb.out 0; have z1 : w3.cell? ⟨gb, 1, none⟩ = some (.bool false) := (blk_cell Zb.out 1).trans rfl; have y1 := blk_frozen Zb.out 1; skip))
       refine Take.hide_ (fun W => Below w2.heap.size w2 W ∧ W.heap[gb]? = some (.cells #[.int .i64 x1, .bool false] 65 (0, 0)) ∧ w2.heap.size ≤ gb) ⟨by with_reducible repeat (first | exact HW.out | refine below_set ?_ G.out), by refine blk_put (cs := #[.int .i64 x1, .bool false]) ?_ 1 _ rfl; refine blk_put (cs := #[.int .i64 0, .bool false]) ?_ 0 _ rfl; exact Zb.out, G.out⟩ ?_
       intro w4 ⟨hb, hz, hge⟩
       have hp := CS.out.pl
       have hp2 := SS.out.pl
       have BB := Aside0.mk hz
       replace CS := Aside0.mk (CS.out.low (Take.below_le hb hp.2.2.2.2.2.2.1))
       replace SS := Aside0.mk (SS.out.low (Take.below_le hb hp2.2.2))
       have HGB := Aside0.mk (show M ≤ gb ∧ gb ≠ g by have := HGN.out; have := HMN.out; omega)
       clear hb hz hge HW G Zb z0 y0 z1 y1 hp hp2
       go_upto_region 15 with (go_at_call 27; refine (isC T w0 g _ 100 sx _ CS.out.tk (by omega) y1 sy HYY.out).mono ?_; rintro e w5 ⟨rfl, hT, hF⟩; replace SS := Aside0.mk (SS.out.call CS.out.tk HGN.out hF); replace BB := Aside0.mk (Take.blk_fr BB.out hF HGB.out.2); replace CS := Aside0.mk (CS.out.call hT hF); have k1_ : w5.cell? ⟨gb, 1, none⟩ = some (.bool false) := (blk_cell BB.out 1).trans rfl; have fk1 := blk_frozen BB.out 1; clear hT hF)
       refine Take.hide_ (fun W => Below M w5 W ∧ W.heap[gb]? = some (.cells #[.int .i64 x1, .bool y1] 65 (0, 0))) ⟨Take.below_put w5 HGB.out.1 1 _, by refine blk_put (cs := #[.int .i64 x1, .bool false]) ?_ 1 _ rfl; exact BB.out⟩ ?_
       intro w6 ⟨hb, hz⟩
       clear k1_ fk1
       replace BB := Aside0.mk hz
       replace SS := Aside0.mk (SS.out.low hb)
       replace CS := Aside0.mk (CS.out.low (Take.below_le hb HMN.out))
       clear hb hz
       have k0_ : w6.cell? ⟨gb, 0, none⟩ = some (.int .i64 x1) := (blk_cell BB.out 0).trans rfl
       have k1_ : w6.cell? ⟨gb, 1, none⟩ = some (.bool y1) := (blk_cell BB.out 1).trans rfl
       obtain ⟨U, hU⟩ : ∃ U : Value, U = .slice B ys.length bc := ⟨_, rfl⟩
       rw [← hU] at SS
       clear hU
       have m3 : w6.cell? ⟨gs, 3, none⟩ = some U := (blk_cell SS.out.blk 3).trans rfl
       go_wp2_with ((with_reducible refine gate_builtin (b := .append) (xs := #[.tmp 65, .tmp 67]) rfl ?_); at_builtin; refine Kd.R_append k65 (w0 := w6) N rfl (.tmp 65) (.tmp 67) 61 65 (.agg #[(.int .i64 0), (.bool false)]) 16 rfl Tryd.underlying61 Take.infoB rfl (by decide) (by omega) U ys ⟨x1, y1⟩ [.int .i64 x1, .bool y1] (fun _ => True) (fun _ => False) rfl rfl ?aP (fun _ hk => hk.elim) ?aF ?aO ?aB ?aS ?aL ?_; (case aP => exact k65_mkM _ _ _ (⟨x1, y1⟩ : S65)); (case aB => exact Below.refl _ _); (case aF => exact (fun _ _ => trivial)); (case aO => exact Kd.R_mono SS.out.row (fun _ _ => trivial)); (case aS => exact CS.out.pl.2.2.2.2.2.2.1); (case aL => have := HY4.out; omega); intro vN w7 ho hb hg hat; obtain ⟨VA, vc, hv⟩ := Kd.R_slice ho; obtain ⟨ln, hln⟩ : ∃ n, (ys ++ [(⟨x1, y1⟩ : S65)]).length = n := ⟨_, rfl⟩; rw [hln] at hv; clear hln; subst hv; have B7 := Aside0.mk (blk_grown SS.out.blk hg (Kd.R_ne SS.out.row SS.out.blk (by decide))); have HGS := Aside0.mk SS.out.pl.1; replace CS := Aside0.mk (CS.out.low hb); have O0 := Aside0.mk ho; have k3_ : w7.cell? ⟨gs, 3, none⟩ = some U := (blk_cell B7.out 3).trans rfl; have fk3 := blk_frozen B7.out 3; clear ho hb hg hat k0_ k1_ m3 SS)
       have hb := Take.below_put w7 HGS.out 3 (.slice VA ln vc)
       have hz : (w7.setCell ⟨gs, 3, none⟩ (.slice VA ln vc)).heap[gs]? = some (.cells #[.int .i64 a1, .bool b1, .int .i64 c1, .slice VA ln vc] 63 (0, 0)) := by refine blk_put (cs := #[.int .i64 a1, .bool b1, .int .i64 c1, U]) ?_ 3 _ rfl; exact B7.out
       have hro := Kd.R_set O0.out B7.out (by decide) 3 (.slice VA ln vc)
       replace CS := Aside0.mk (CS.out.low hb)
       have SS8 := Aside0.mk (show Sw N (w7.setCell ⟨gs, 3, none⟩ (.slice VA ln vc)).heap.size gs a1 b1 c1 (.slice VA ln vc) (ys ++ [⟨x1, y1⟩]) (w7.setCell ⟨gs, 3, none⟩ (.slice VA ln vc)) from ⟨hz, ⟨HGS.out, blk_lt hz, Nat.le_refl _⟩, Kd.R_mono (Kd.R_bound hro) (fun k hk => hk.2.2.1)⟩)
       clear hb hz hro k3_ fk3
       go_roundg k2
       case measure => have := HY.out; omega
       case rel =>
        have h1 := HY.out
        have h2 := HY4.out
        exact ⟨(.slice VA ln vc), ys ++ [⟨x1, y1⟩], sy, len_up _ _ (by omega), ⟨by rw [List.length_append, List.length_singleton]; omega, by rw [List.length_append, List.length_singleton]; omega⟩, ⟨CS.out.mono (by omega)⟩, SS8, HQ⟩
      ·have hr := HQ.out
       rw [backsW, if_neg hcond] at hr
       obtain ⟨rfl, rfl⟩ : ys = e1 ∧ t = se := by simpa using hr
       clear hr HQ
       have g1 : wr.cell? ⟨gc, 1, none⟩ = some (.slice A xs.length cc) := (blk_cell CS.out.c 1).trans rfl
       have g0_ : wr.cell? ⟨gs, 0, none⟩ = some (.int .i64 a1) := (blk_cell SS.out.blk 0).trans rfl
       have g1_ : wr.cell? ⟨gs, 1, none⟩ = some (.bool b1) := (blk_cell SS.out.blk 1).trans rfl
       have g2_ : wr.cell? ⟨gs, 2, none⟩ = some (.int .i64 c1) := (blk_cell SS.out.blk 2).trans rfl
       have g3_ : wr.cell? ⟨gs, 3, none⟩ = some (.slice B ys.length bc) := (blk_cell SS.out.blk 3).trans rfl
       by_cases i1 : (ys.length : Int) < d1
       ·have j1b : decide ((ys.length : Int) < d1) = true := decide_eq_true i1
        by_cases i3 : ys.length ≤ 4
        ·have j3b : decide ((ys.length : Int) ≤ 4) = true := decide_eq_true (by omega)
         have i2 : t.2 = true := by cases hq : t.2 with | true => rfl | false => exact absurd ⟨i1, i3, hq⟩ hcond
         rw [i2] at q1
         clear hcond i1 i2 i3
         obtain ⟨V, hV⟩ : ∃ V : Value, V = .slice A xs.length cc := ⟨_, rfl⟩
         rw [← hV] at CS g1
         clear hV
         go_wp2_with ((with_reducible refine gate_builtin (b := .append) (xs := #[.tmp 71, .tmp 73]) rfl ?_); at_builtin; refine Kd.R_append k63 (w0 := wr) w.heap.size rfl (.tmp 71) (.tmp 73) 36 63 (.agg #[(.int .i64 0), (.bool false), (.int .i64 0), (.slice none 0 0)]) 48 rfl Tryd.underlying36 Take.infoS rfl (by decide) (by omega) V xs ⟨a1, b1, c1, ys⟩ [.int .i64 a1, .bool b1, .int .i64 c1, .slice B ys.length bc] (fun _ => True) (fun k => True ∧ some k ≠ V.ownBlock) rfl rfl ?aP (fun _ hk => ⟨trivial, hk.2⟩) ?aF ?aO ?aB ?aS ?aL ?_; (case aP => exact k63_mkM _ _ _ (⟨a1, b1, c1, ys⟩ : S63) (Kd.R_apartR (Kd.R_lower (Kd.R_mono SS.out.row (fun _ _ => trivial)) (by have := CS.out.pl; omega)) CS.out.row (by decide))); (case aB => exact Below.refl _ _); (case aF => exact (fun _ _ => trivial)); (case aO => exact Kd.R_mono CS.out.row (fun _ _ => trivial)); (case aS => have := CS.out.pl; omega); (case aL => have := HX3.out; omega); intro vN w7 ho hb hg hat; obtain ⟨VA, vc, hv⟩ := Kd.R_slice ho; obtain ⟨ln, hln⟩ : ∃ n, (xs ++ [(⟨a1, b1, c1, ys⟩ : S63)]).length = n := ⟨_, rfl⟩; rw [hln] at hv; clear hln; subst hv; have C7 := Aside0.mk (blk_grown CS.out.c hg (Kd.R_ne CS.out.row CS.out.c (by decide))); have R7 := Aside0.mk (blk_grown CS.out.r hg (Kd.R_ne CS.out.row CS.out.r (by decide))); have HB7 := Aside0.mk hb; have O0 := Aside0.mk ho; have k1_ : w7.cell? ⟨gc, 1, none⟩ = some V := (blk_cell C7.out 1).trans rfl; have fk1 := blk_frozen C7.out 1; clear ho hb hg hat)
         have hb := Take.below_put w7 CS.out.pl.2.1 1 (.slice VA ln vc)
         have hz : (w7.setCell ⟨gc, 1, none⟩ (.slice VA ln vc)).heap[gc]? = some (.cells #[.int .i64 v1, (.slice VA ln vc)] 38 (0, 0)) := by refine blk_put (cs := #[.int .i64 v1, V]) ?_ 1 _ rfl; exact C7.out
         have hzr : (w7.setCell ⟨gc, 1, none⟩ (.slice VA ln vc)).heap[gr]? = some (.cells #[.int .i64 0, .slice none 0 0] 38 (0, 0)) := blk_far R7.out CS.out.pl.2.2.1 _
         have hro := Kd.R_set O0.out C7.out (by decide) 1 (.slice VA ln vc)
         have hp := CS.out.pl
         have hgE := CS.out.gE
         have hbb := HB7.out.trans hb
         have CS8 := Aside0.mk (show Cw T 40 w w0 g gr gc v1 (w7.setCell ⟨gc, 1, none⟩ (.slice VA ln vc)).heap.size (.slice VA ln vc) (xs ++ [⟨a1, b1, c1, ys⟩]) t (w7.setCell ⟨gc, 1, none⟩ (.slice VA ln vc)) from ⟨CS.out.tk.lowN hbb hgE hp.2.2.2.2.2.2.2, CS.out.fr.low hbb (Nat.le_refl _) (by omega), hgE, hzr, hz, ⟨hp.1, hp.2.1, hp.2.2.1, blk_lt hzr, blk_lt hz, by have := hbb.size; omega, Nat.le_refl _, hp.2.2.2.2.2.2.2⟩, Kd.R_mono (Kd.R_bound hro) (fun k hk => hk.2.2.1)⟩)
         clear hb hz hzr hro hp hbb k1_ fk1
         go_roundg k1
         case measure => have := HX.out; omega
         case rel =>
          have h1 := HX.out
          have h2 := HX3.out
          exact ⟨(.slice VA ln vc), xs ++ [⟨a1, b1, c1, ys⟩], t, len_up _ _ (by omega), ⟨by rw [List.length_append, List.length_singleton]; omega, by rw [List.length_append, List.length_singleton]; omega⟩, CS8, HR⟩
        ·have j3b : decide ((ys.length : Int) ≤ 4) = false := decide_eq_false (by omega)
         clear hcond i1 i3
         obtain ⟨V, hV⟩ : ∃ V : Value, V = .slice A xs.length cc := ⟨_, rfl⟩
         rw [← hV] at CS g1
         clear hV
         go_wp2_with ((with_reducible refine gate_builtin (b := .append) (xs := #[.tmp 71, .tmp 73]) rfl ?_); at_builtin; refine Kd.R_append k63 (w0 := wr) w.heap.size rfl (.tmp 71) (.tmp 73) 36 63 (.agg #[(.int .i64 0), (.bool false), (.int .i64 0), (.slice none 0 0)]) 48 rfl Tryd.underlying36 Take.infoS rfl (by decide) (by omega) V xs ⟨a1, b1, c1, ys⟩ [.int .i64 a1, .bool b1, .int .i64 c1, .slice B ys.length bc] (fun _ => True) (fun k => True ∧ some k ≠ V.ownBlock) rfl rfl ?aP (fun _ hk => ⟨trivial, hk.2⟩) ?aF ?aO ?aB ?aS ?aL ?_; (case aP => exact k63_mkM _ _ _ (⟨a1, b1, c1, ys⟩ : S63) (Kd.R_apartR (Kd.R_lower (Kd.R_mono SS.out.row (fun _ _ => trivial)) (by have := CS.out.pl; omega)) CS.out.row (by decide))); (case aB => exact Below.refl _ _); (case aF => exact (fun _ _ => trivial)); (case aO => exact Kd.R_mono CS.out.row (fun _ _ => trivial)); (case aS => have := CS.out.pl; omega); (case aL => have := HX3.out; omega); intro vN w7 ho hb hg hat; obtain ⟨VA, vc, hv⟩ := Kd.R_slice ho; obtain ⟨ln, hln⟩ : ∃ n, (xs ++ [(⟨a1, b1, c1, ys⟩ : S63)]).length = n := ⟨_, rfl⟩; rw [hln] at hv; clear hln; subst hv; have C7 := Aside0.mk (blk_grown CS.out.c hg (Kd.R_ne CS.out.row CS.out.c (by decide))); have R7 := Aside0.mk (blk_grown CS.out.r hg (Kd.R_ne CS.out.row CS.out.r (by decide))); have HB7 := Aside0.mk hb; have O0 := Aside0.mk ho; have k1_ : w7.cell? ⟨gc, 1, none⟩ = some V := (blk_cell C7.out 1).trans rfl; have fk1 := blk_frozen C7.out 1; clear ho hb hg hat)
         have hb := Take.below_put w7 CS.out.pl.2.1 1 (.slice VA ln vc)
         have hz : (w7.setCell ⟨gc, 1, none⟩ (.slice VA ln vc)).heap[gc]? = some (.cells #[.int .i64 v1, (.slice VA ln vc)] 38 (0, 0)) := by refine blk_put (cs := #[.int .i64 v1, V]) ?_ 1 _ rfl; exact C7.out
         have hzr : (w7.setCell ⟨gc, 1, none⟩ (.slice VA ln vc)).heap[gr]? = some (.cells #[.int .i64 0, .slice none 0 0] 38 (0, 0)) := blk_far R7.out CS.out.pl.2.2.1 _
         have hro := Kd.R_set O0.out C7.out (by decide) 1 (.slice VA ln vc)
         have hp := CS.out.pl
         have hgE := CS.out.gE
         have hbb := HB7.out.trans hb
         have CS8 := Aside0.mk (show Cw T 40 w w0 g gr gc v1 (w7.setCell ⟨gc, 1, none⟩ (.slice VA ln vc)).heap.size (.slice VA ln vc) (xs ++ [⟨a1, b1, c1, ys⟩]) t (w7.setCell ⟨gc, 1, none⟩ (.slice VA ln vc)) from ⟨CS.out.tk.lowN hbb hgE hp.2.2.2.2.2.2.2, CS.out.fr.low hbb (Nat.le_refl _) (by omega), hgE, hzr, hz, ⟨hp.1, hp.2.1, hp.2.2.1, blk_lt hzr, blk_lt hz, by have := hbb.size; omega, Nat.le_refl _, hp.2.2.2.2.2.2.2⟩, Kd.R_mono (Kd.R_bound hro) (fun k hk => hk.2.2.1)⟩)
         clear hb hz hzr hro hp hbb k1_ fk1
         go_roundg k1
         case measure => have := HX.out; omega
         case rel =>
          have h1 := HX.out
          have h2 := HX3.out
          exact ⟨(.slice VA ln vc), xs ++ [⟨a1, b1, c1, ys⟩], t, len_up _ _ (by omega), ⟨by rw [List.length_append, List.length_singleton]; omega, by rw [List.length_append, List.length_singleton]; omega⟩, CS8, HR⟩
       ·have j1b : decide ((ys.length : Int) < d1) = false := decide_eq_false i1
        clear hcond i1
        obtain ⟨V, hV⟩ : ∃ V : Value, V = .slice A xs.length cc := ⟨_, rfl⟩
        rw [← hV] at CS g1
        clear hV
        go_wp2_with ((with_reducible refine gate_builtin (b := .append) (xs := #[.tmp 71, .tmp 73]) rfl ?_); at_builtin; refine Kd.R_append k63 (w0 := wr) w.heap.size rfl (.tmp 71) (.tmp 73) 36 63 (.agg #[(.int .i64 0), (.bool false), (.int .i64 0), (.slice none 0 0)]) 48 rfl Tryd.underlying36 Take.infoS rfl (by decide) (by omega) V xs ⟨a1, b1, c1, ys⟩ [.int .i64 a1, .bool b1, .int .i64 c1, .slice B ys.length bc] (fun _ => True) (fun k => True ∧ some k ≠ V.ownBlock) rfl rfl ?aP (fun _ hk => ⟨trivial, hk.2⟩) ?aF ?aO ?aB ?aS ?aL ?_; (case aP => exact k63_mkM _ _ _ (⟨a1, b1, c1, ys⟩ : S63) (Kd.R_apartR (Kd.R_lower (Kd.R_mono SS.out.row (fun _ _ => trivial)) (by have := CS.out.pl; omega)) CS.out.row (by decide))); (case aB => exact Below.refl _ _); (case aF => exact (fun _ _ => trivial)); (case aO => exact Kd.R_mono CS.out.row (fun _ _ => trivial)); (case aS => have := CS.out.pl; omega); (case aL => have := HX3.out; omega); intro vN w7 ho hb hg hat; obtain ⟨VA, vc, hv⟩ := Kd.R_slice ho; obtain ⟨ln, hln⟩ : ∃ n, (xs ++ [(⟨a1, b1, c1, ys⟩ : S63)]).length = n := ⟨_, rfl⟩; rw [hln] at hv; clear hln; subst hv; have C7 := Aside0.mk (blk_grown CS.out.c hg (Kd.R_ne CS.out.row CS.out.c (by decide))); have R7 := Aside0.mk (blk_grown CS.out.r hg (Kd.R_ne CS.out.row CS.out.r (by decide))); have HB7 := Aside0.mk hb; have O0 := Aside0.mk ho; have k1_ : w7.cell? ⟨gc, 1, none⟩ = some V := (blk_cell C7.out 1).trans rfl; have fk1 := blk_frozen C7.out 1; clear ho hb hg hat)
        have hb := Take.below_put w7 CS.out.pl.2.1 1 (.slice VA ln vc)
        have hz : (w7.setCell ⟨gc, 1, none⟩ (.slice VA ln vc)).heap[gc]? = some (.cells #[.int .i64 v1, (.slice VA ln vc)] 38 (0, 0)) := by refine blk_put (cs := #[.int .i64 v1, V]) ?_ 1 _ rfl; exact C7.out
        have hzr : (w7.setCell ⟨gc, 1, none⟩ (.slice VA ln vc)).heap[gr]? = some (.cells #[.int .i64 0, .slice none 0 0] 38 (0, 0)) := blk_far R7.out CS.out.pl.2.2.1 _
        have hro := Kd.R_set O0.out C7.out (by decide) 1 (.slice VA ln vc)
        have hp := CS.out.pl
        have hgE := CS.out.gE
        have hbb := HB7.out.trans hb
        have CS8 := Aside0.mk (show Cw T 40 w w0 g gr gc v1 (w7.setCell ⟨gc, 1, none⟩ (.slice VA ln vc)).heap.size (.slice VA ln vc) (xs ++ [⟨a1, b1, c1, ys⟩]) t (w7.setCell ⟨gc, 1, none⟩ (.slice VA ln vc)) from ⟨CS.out.tk.lowN hbb hgE hp.2.2.2.2.2.2.2, CS.out.fr.low hbb (Nat.le_refl _) (by omega), hgE, hzr, hz, ⟨hp.1, hp.2.1, hp.2.2.1, blk_lt hzr, blk_lt hz, by have := hbb.size; omega, Nat.le_refl _, hp.2.2.2.2.2.2.2⟩, Kd.R_mono (Kd.R_bound hro) (fun k hk => hk.2.2.1)⟩)
        clear hb hz hzr hro hp hbb k1_ fk1
        go_roundg k1
        case measure => have := HX.out; omega
        case rel =>
         have h1 := HX.out
         have h2 := HX3.out
         exact ⟨(.slice VA ln vc), xs ++ [⟨a1, b1, c1, ys⟩], t, len_up _ _ (by omega), ⟨by rw [List.length_append, List.length_singleton]; omega, by rw [List.length_append, List.length_singleton]; omega⟩, CS8, HR⟩
   ·have hr := HR.out
    rw [sitesW, if_neg hcond] at hr
    replace HR := Aside0.mk hr
    clear hr
    by_cases i1 : (xs.length : Int) < n1
    ·have i1b : decide ((xs.length : Int) < n1) = true := decide_eq_true i1
     by_cases i3 : xs.length ≤ 3
     ·have i3b : decide ((xs.length : Int) ≤ 3) = true := decide_eq_true (by omega)
      have i2 : s.2 = true := by cases hq : s.2 with | true => rfl | false => exact absurd ⟨i1, i3, hq⟩ hcond
      rw [i2] at q1
      clear hcond i1 i2 i3
      have k0 : wr.cell? ⟨gc, 0, none⟩ = some (.int .i64 v1) := (blk_cell HC.out.c 0).trans rfl
      have k1 : wr.cell? ⟨gc, 1, none⟩ = some (.slice A xs.length cc) := (blk_cell HC.out.c 1).trans rfl
      have r0 : wr.cell? ⟨gr, 0, none⟩ = some (.int .i64 0) := (blk_cell HC.out.r 0).trans rfl
      have r1 : wr.cell? ⟨gr, 1, none⟩ = some (.slice none 0 0) := (blk_cell HC.out.r 1).trans rfl
      have fr0 := blk_frozen HC.out.r 0
      have fr1 := blk_frozen HC.out.r 1
      obtain rfl : (xs, s) = RR := HR.out
      have BR := Aside0.mk HC.out.r
      go_wp2_with fail
      have hz : ((wr.setCell ⟨gr, 0, none⟩ (.int .i64 v1)).setCell ⟨gr, 1, none⟩ (.slice A xs.length cc)).heap[gr]? = some (.cells #[.int .i64 v1, .slice A xs.length cc] 38 (0, 0)) := by refine blk_put (cs := #[.int .i64 v1, .slice none 0 0]) ?_ 1 _ rfl; refine blk_put (cs := #[.int .i64 0, .slice none 0 0]) ?_ 0 _ rfl; exact BR.out
      have hbz : Below w.heap.size wr ((wr.setCell ⟨gr, 0, none⟩ (.int .i64 v1)).setCell ⟨gr, 1, none⟩ (.slice A xs.length cc)) := (Take.below_put wr HC.out.pl.1 0 _).trans (Take.below_put _ HC.out.pl.1 1 _)
      refine bodyPost_ret (results_cell_row rfl _ _ gr 38 #[.int .i64 v1, .slice A xs.length cc] (0, 0) _ rfl hz Tryd.underlying38 rfl (by kernel_rfl)) rfl ?_
      have hp := HC.out.pl
      have hgE := HC.out.gE
      refine ⟨_, rfl, ?_, HC.out.tk.lowN hbz hgE hp.2.2.2.2.2.2.2, HC.out.fr.low hbz (Nat.le_refl _) (by omega)⟩
      exact Kd.R_mono (Kd.R_set (Kd.R_set HC.out.row BR.out (by decide) 0 _) (blk_put BR.out 0 _ rfl) (by decide) 1 _) (fun _ _ => trivial)
     ·have i3b : decide ((xs.length : Int) ≤ 3) = false := decide_eq_false (by omega)
      clear hcond i1 i3
      have k0 : wr.cell? ⟨gc, 0, none⟩ = some (.int .i64 v1) := (blk_cell HC.out.c 0).trans rfl
      have k1 : wr.cell? ⟨gc, 1, none⟩ = some (.slice A xs.length cc) := (blk_cell HC.out.c 1).trans rfl
      have r0 : wr.cell? ⟨gr, 0, none⟩ = some (.int .i64 0) := (blk_cell HC.out.r 0).trans rfl
      have r1 : wr.cell? ⟨gr, 1, none⟩ = some (.slice none 0 0) := (blk_cell HC.out.r 1).trans rfl
      have fr0 := blk_frozen HC.out.r 0
      have fr1 := blk_frozen HC.out.r 1
      obtain rfl : (xs, s) = RR := HR.out
      have BR := Aside0.mk HC.out.r
      go_wp2_with fail
      have hz : ((wr.setCell ⟨gr, 0, none⟩ (.int .i64 v1)).setCell ⟨gr, 1, none⟩ (.slice A xs.length cc)).heap[gr]? = some (.cells #[.int .i64 v1, .slice A xs.length cc] 38 (0, 0)) := by refine blk_put (cs := #[.int .i64 v1, .slice none 0 0]) ?_ 1 _ rfl; refine blk_put (cs := #[.int .i64 0, .slice none 0 0]) ?_ 0 _ rfl; exact BR.out
      have hbz : Below w.heap.size wr ((wr.setCell ⟨gr, 0, none⟩ (.int .i64 v1)).setCell ⟨gr, 1, none⟩ (.slice A xs.length cc)) := (Take.below_put wr HC.out.pl.1 0 _).trans (Take.below_put _ HC.out.pl.1 1 _)
      refine bodyPost_ret (results_cell_row rfl _ _ gr 38 #[.int .i64 v1, .slice A xs.length cc] (0, 0) _ rfl hz Tryd.underlying38 rfl (by kernel_rfl)) rfl ?_
      have hp := HC.out.pl
      have hgE := HC.out.gE
      refine ⟨_, rfl, ?_, HC.out.tk.lowN hbz hgE hp.2.2.2.2.2.2.2, HC.out.fr.low hbz (Nat.le_refl _) (by omega)⟩
      exact Kd.R_mono (Kd.R_set (Kd.R_set HC.out.row BR.out (by decide) 0 _) (blk_put BR.out 0 _ rfl) (by decide) 1 _) (fun _ _ => trivial)
    ·have i1b : decide ((xs.length : Int) < n1) = false := decide_eq_false i1
     clear hcond i1
     have k0 : wr.cell? ⟨gc, 0, none⟩ = some (.int .i64 v1) := (blk_cell HC.out.c 0).trans rfl
     have k1 : wr.cell? ⟨gc, 1, none⟩ = some (.slice A xs.length cc) := (blk_cell HC.out.c 1).trans rfl
     have r0 : wr.cell? ⟨gr, 0, none⟩ = some (.int .i64 0) := (blk_cell HC.out.r 0).trans rfl
     have r1 : wr.cell? ⟨gr, 1, none⟩ = some (.slice none 0 0) := (blk_cell HC.out.r 1).trans rfl
     have fr0 := blk_frozen HC.out.r 0
     have fr1 := blk_frozen HC.out.r 1
     obtain rfl : (xs, s) = RR := HR.out
     have BR := Aside0.mk HC.out.r
     go_wp2_with fail
     have hz : ((wr.setCell ⟨gr, 0, none⟩ (.int .i64 v1)).setCell ⟨gr, 1, none⟩ (.slice A xs.length cc)).heap[gr]? = some (.cells #[.int .i64 v1, .slice A xs.length cc] 38 (0, 0)) := by refine blk_put (cs := #[.int .i64 v1, .slice none 0 0]) ?_ 1 _ rfl; refine blk_put (cs := #[.int .i64 0, .slice none 0 0]) ?_ 0 _ rfl; exact BR.out
     have hbz : Below w.heap.size wr ((wr.setCell ⟨gr, 0, none⟩ (.int .i64 v1)).setCell ⟨gr, 1, none⟩ (.slice A xs.length cc)) := (Take.below_put wr HC.out.pl.1 0 _).trans (Take.below_put _ HC.out.pl.1 1 _)
     refine bodyPost_ret (results_cell_row rfl _ _ gr 38 #[.int .i64 v1, .slice A xs.length cc] (0, 0) _ rfl hz Tryd.underlying38 rfl (by kernel_rfl)) rfl ?_
     have hp := HC.out.pl
     have hgE := HC.out.gE
     refine ⟨_, rfl, ?_, HC.out.tk.lowN hbz hgE hp.2.2.2.2.2.2.2, HC.out.fr.low hbz (Nat.le_refl _) (by omega)⟩
     exact Kd.R_mono (Kd.R_set (Kd.R_set HC.out.row BR.out (by decide) 0 _) (blk_put BR.out 0 _ rfl) (by decide) 1 _) (fun _ _ => trivial)


end Go.Proofs.YtnojgkiaolmoeaaDoor.PSc
end
section
/- Contracts: what calls of these functions of the program do, each as a plain function; written by a program of this session. -/
namespace Go.Proofs.YtnojgkiaolmoeaaDoor.PSc
open Go.RowKit Go.Proofs.YtnojgkiaolmoeaaDoorW.PrintWords Go.Proofs.YtnojgkiaolmoeaaDoorW.PrintLast Go.Proofs.YtnojgkiaolmoeaaDoorW.PrintMore
attribute [local go_sem] max2_int min2_int max_two min_two max_three min_three max_four min_four   -- for this text's walks alone
set_option linter.unusedVariables false
set_option linter.unusedSimpArgs false

/-! ### wharfageref19_ParseActs: function 11, by hand -/
theorem wharfageref19_words_num.L_nn (s : ByteArray) : ∀ (n : Nat) (x a : Int), 0 ≤ x → 0 ≤ (wharfageref19_words_num.L s n x a).1
 | 0, x, a, h => h
 | n + 1, x, a, h => by
  unfold wharfageref19_words_num.L
  split
  ·exact wharfageref19_words_num.L_nn s n _ _ (by omega)
  ·exact h
def actW (T : ByteArray) (s : Ws) : Option (S40 × Ws) :=
 let a0 := numW T s
 let a1 := numW T a0.2
 let a2 := numW T a1.2
 let a3 := numW T a2.2
 let a4 := numW T a3.2
 let a5 := numW T a4.2
 let b := isW T 103 a5.2
 let k := numW T b.2
 if k.2.2 = true ∨ (T.size : Int) - k.2.1 < k.1 then none
 else if a0.1 = 9 then some (⟨a0.1, a1.1, a2.1, a3.1, a4.1, a5.1, b.1, T.extract k.2.1.toNat (k.2.1 + k.1).toNat, (configW T (k.2.1 + k.1, false)).1⟩, (configW T (k.2.1 + k.1, false)).2)
 else some (⟨a0.1, a1.1, a2.1, a3.1, a4.1, a5.1, b.1, T.extract k.2.1.toNat (k.2.1 + k.1).toNat, ⟨0, []⟩⟩, (k.2.1 + k.1, false))
def parseW (T : ByteArray) : Nat → List S40 → Ws → Option (List S40 × Ws)
 | 0, acc, s => some (acc, s)
 | f + 1, acc, s => if s.1 < (T.size : Int) ∧ s.2 = false ∧ acc.length ≤ 256 then (match actW T s with | none => none | some r => parseW T f (acc ++ [r.1]) r.2) else some (acc, s)
noncomputable def finW (k : Nat) (T : ByteArray) (r : Option (List S40 × Ws)) : Option (List S40 × Int) := match r with
 | none => some ([], 2300)
 | some r => (wharfageref19_ShowActs.f k r.1).bind fun u => if u.2 = 0 then (if u.1 = T then some (r.1, 0) else some ([], 2300)) else some ([], 2300)
noncomputable def wharfageref19_ParseActs.f (k : Nat) (T : ByteArray) : Option (List S40 × Int) := if T.size ≤ 281474976710656 then finW k T (parseW T 258 [] (0, false)) else none
theorem wharfageref19_ParseActs.mono : ∀ a0 k, LeO (wharfageref19_ParseActs.f k a0) (wharfageref19_ParseActs.f (k + 1) a0) := by
 intro a0 k
 unfold wharfageref19_ParseActs.f
 split
 ·unfold finW
  split
  ·exact LeO.refl _
  ·exact LeO.bind (wharfageref19_ShowActs.mono _ _) (fun _ => LeO.refl _)
 ·exact LeO.refl _
theorem wharfageref19_ParseActs.info : (Tryd.prog.info? 40).map (fun i => (i.zero, i.size, i.bytes)) = some (some (.agg #[.int .i64 0, .int .i64 0, .int .i64 0, .int .i64 0, .int .i64 0, .int .i64 0, .bool false, .string ⟨#[]⟩, .int .i64 0, .slice none 0 0]), 10, 104) := by kernel_rfl
theorem wharfageref19_ParseActs.bytes_ne {a b : ByteArray} (h : a ≠ b) : (a.toList == b.toList) = false := by
 rw [beq_eq_false_iff_ne]
 intro e
 apply h
 rw [ByteArray.toList_eq, ByteArray.toList_eq] at e
 cases a; cases b
 congr 1
 exact Array.toList_inj.1 e
/-- The act so far, in block gx. -/
structure Aw (T : ByteArray) (mm : Nat) (wE w0 : World) (g gx : Nat) (s : Ws) (cs : Array Value) (W : World) : Prop where
 tk : Wk T w0 g mm s W
 fr : Take.Fr g wE W
 c : W.heap[gx]? = some (.cells cs 40 (0, 0))
 pl : g < wE.heap.size ∧ wE.heap.size ≤ gx ∧ w0.heap.size ≤ wE.heap.size
theorem Aw.call {T mm wE w0 g gx s cs W} (h : Aw T mm wE w0 g gx s cs W) {s1 : Ws} {m1 : Nat} {W1 : World} (hT : Wk T w0 g m1 s1 W1) (hF : Take.Fr g W W1) : Aw T m1 wE w0 g gx s1 cs W1 := ⟨hT, h.fr.trans hF, Take.blk_fr h.c hF (by have := h.pl; omega), h.pl⟩
theorem Aw.put {T mm wE w0 g gx s cs W} (h : Aw T mm wE w0 g gx s cs W) (j : Nat) (v : Value) {cs1 : Array Value} (he : cs.setIfInBounds j v = cs1) : Aw T mm wE w0 g gx s cs1 (W.setCell ⟨gx, j, none⟩ v) := by
 have hp := h.pl
 have hb : Below wE.heap.size W (W.setCell ⟨gx, j, none⟩ v) := Take.below_put W hp.2.1 j v
 exact ⟨h.tk.lowN hb hp.1 hp.2.2, h.fr.low hb (Nat.le_refl _) h.fr.size, blk_put h.c j v he, hp⟩
theorem Aw.drew {T mm wE w0 g gx s cs W} (h : Aw T mm wE w0 g gx s cs W) : Aw T mm wE w0 g gx s cs W.drew := ⟨h.tk.next (below_drew1 (Below.refl _ _)), h.fr.trans (Take.Fr.of_below (below_drew1 (Below.refl _ _))), h.c, h.pl⟩
theorem Aw.drewN {T mm wE w0 g gx s cs W} (h : Aw T mm wE w0 g gx s cs W) (n : Nat) : Aw T mm wE w0 g gx s cs (W.drewN n) := ⟨h.tk.next (pw_below_drewN (Below.refl _ _) n), h.fr.trans (Take.Fr.of_below (pw_below_drewN (Below.refl _ _) n)), h.c, h.pl⟩
theorem Aw.adv {T mm wE w0 g gx cs W} {a b : Int} {bad : Bool} (h : Aw T mm wE w0 g gx (a, bad) cs W) (h0 : 0 ≤ b) (h1 : b ≤ (T.size : Int)) : Aw T mm wE w0 g gx (b, bad) cs (W.setCell ⟨g, 1, none⟩ (.int .i64 b)) := by
 have hp := h.pl
 have hg := h.tk.ge
 refine ⟨⟨⟨blk_put h.tk.blk 1 _ rfl, hg⟩, h.tk.low.setCell (p := ⟨g, 1, none⟩) hg _, h0, by show b ≤ _; omega, fun _ => h1, h.tk.len⟩, h.fr.set 1 _, blk_far h.c (show gx ≠ g by omega) _, hp⟩
set_option maxHeartbeats 8000000 in
set_option maxRecDepth 100000 in
theorem wharfageref19_ParseActs.calls (k : Nat) (T : ByteArray) (r1 : List S40) (r2 : Int) (w : World) (h : wharfageref19_ParseActs.f k T = some (r1, r2)) :
    Calls Tryd.prog 11 #[.string T] w fun e w' => ∃ v0_ : Value, e = .returned (.tuple #[v0_, .int .i64 r2]) ∧ Kd.R k40 40 w' w.heap.size (fun _ => True) v0_ r1 ∧ Below w.heap.size w w' := by
  have hu := Tryd.underlying72
  have hu2 := Tryd.underlying40
  have hu3 := Tryd.underlying38
  unfold wharfageref19_ParseActs.f at h
  by_cases hsz : T.size ≤ 281474976710656
  case neg => rw [if_neg hsz] at h; cases h
  rw [if_pos hsz] at h
  obtain ⟨RR, hRR⟩ : ∃ R, parseW T 258 [] (0, false) = R := ⟨_, rfl⟩
  rw [hRR] at h
  have HRR := Aside0.mk hRR
  have HH := Aside0.mk h
  have HZ := Aside0.mk hsz
  clear h hRR hsz
  go_enter Tryd.func11, Tryd.ntmps11
  go_wp2_with fail
  obtain ⟨g, hg⟩ : ∃ n, n = w.heap.size := ⟨_, rfl⟩
  obtain ⟨wE, hwE⟩ : ∃ x_, x_ = w.alloc (.cells #[.string T, .int .i64 0, .bool false] 72) := ⟨_, rfl⟩
  have T0 := Aside0.mk (show Wk T w g 40 (0, false) wE from ⟨⟨by rw [hwE, hg]; exact heap_alloc_new w _, by omega⟩, by rw [hwE]; exact below_alloc (Below.refl _ _) _, Int.le_refl _, by show (0 : Int) ≤ _; omega, fun _ => by show (0 : Int) ≤ _; omega, HZ.out⟩)
  have HGE := Aside0.mk T0.out.lt
  have HW0 := Aside0.mk T0.out.sz
  rw [← hwE, ← hg]
  clear hwE hg
  go_loopg [4] 258 (fun kq v4 w' => ∃ (v : Value) (xs : List S40) (s : Ws), v4 = v ∧ Aside0 (xs.length ≤ 257 ∧ kq + xs.length = 258) ∧ Aside0 (Wk T w g 40 s w') ∧ Aside0 (wE.heap.size ≤ w'.heap.size) ∧ Aside0 (Kd.R k40 40 w' wE.heap.size (fun _ => True) v xs) ∧ Aside0 (parseW T kq xs s = RR))
  case atStart => exact ⟨_, [], (0, false), rfl, ⟨by simp, rfl⟩, T0, ⟨Nat.le_refl _⟩, ⟨Kd.R_nil _ _ _ _ _⟩, HRR⟩
  case round =>
    clear T0 HRR
    obtain ⟨v, xs, s, rfl, HX, HTK, HSZ0, HRW0, HR⟩ := hrel
    obtain ⟨A, cc, rfl⟩ := Kd.R_slice HRW0.out
    cases gk with
    | zero => have := HX.out; omega
    | succ k1 =>
      have q0 := HTK.out.c0
      have q1 := HTK.out.c1
      have q2 := HTK.out.c2
      by_cases i1 : s.1 < (T.size : Int)
      case neg =>
        have hcond : ¬ (s.1 < (T.size : Int) ∧ s.2 = false ∧ xs.length ≤ 256) := fun q => i1 q.1
        have i1b : decide (s.1 < (T.size : Int)) = false := decide_eq_false i1
        have hr := HR.out
        rw [parseW, if_neg hcond] at hr
        have HFF := Aside0.mk (show (wharfageref19_ShowActs.f k xs).bind (fun u => if u.2 = 0 then (if u.1 = T then some (xs, 0) else some ([], 2300)) else some ([], 2300)) = some (r1, r2) by have h9 := HH.out; rw [← hr] at h9; exact h9)
        clear hr HR HH hcond
        clear i1
        obtain ⟨⟨u1, u2⟩, hsh, hh⟩ := Option.bind_eq_some_iff.mp HFF.out
        have HSH := Aside0.mk hsh
        clear hsh HFF
        by_cases h0 : u2 = 0
        · rw [if_pos h0] at hh
          subst h0
          by_cases h1 : u1 = T
          · rw [if_pos h1] at hh
            obtain ⟨rfl, rfl⟩ : xs = r1 ∧ 0 = r2 := by simpa using hh
            subst h1
            clear hh
            go_wp2_with (go_at_call 9; refine (wharfageref19_ShowActs.calls k A cc xs _ _ _ (Kd.R_reads' HRW0.out).2.2 (Kd.R_reads' HRW0.out).2.1 HSH.out).mono ?_; rintro e w6 ⟨rfl, hb⟩; have T6 := Aside0.mk (HTK.out.next hb); have R6 := Aside0.mk (Kd.R_below HRW0.out hb); clear q0 q1 q2; clear hb)
            go_ret2
            exact ⟨_, rfl, Kd.R_lower R6.out HW0.out, T6.out.low⟩
          · rw [if_neg h1] at hh
            obtain ⟨rfl, rfl⟩ : [] = r1 ∧ 2300 = r2 := by simpa using hh
            have hne := wharfageref19_ParseActs.bytes_ne h1
            clear hh h1
            go_wp2_with (go_at_call 9; refine (wharfageref19_ShowActs.calls k A cc xs _ _ _ (Kd.R_reads' HRW0.out).2.2 (Kd.R_reads' HRW0.out).2.1 HSH.out).mono ?_; rintro e w6 ⟨rfl, hb⟩; have T6 := Aside0.mk (HTK.out.next hb); have R6 := Aside0.mk (Kd.R_below HRW0.out hb); clear q0 q1 q2; clear hb)
            go_ret2
            exact ⟨_, rfl, Kd.R_nil _ _ _ _ _, T6.out.low⟩
        · rw [if_neg h0] at hh
          obtain ⟨rfl, rfl⟩ : [] = r1 ∧ 2300 = r2 := by simpa using hh
          have h0b : (u2 != 0) = true := bne_iff_ne.2 h0
          have h0c : (u2 == 0) = false := beq_eq_false_iff_ne.2 h0
          clear hh h0
          go_wp2_with (go_at_call 9; refine (wharfageref19_ShowActs.calls k A cc xs _ _ _ (Kd.R_reads' HRW0.out).2.2 (Kd.R_reads' HRW0.out).2.1 HSH.out).mono ?_; rintro e w6 ⟨rfl, hb⟩; have T6 := Aside0.mk (HTK.out.next hb); have R6 := Aside0.mk (Kd.R_below HRW0.out hb); clear q0 q1 q2; clear hb)
          go_ret2
          exact ⟨_, rfl, Kd.R_nil _ _ _ _ _, T6.out.low⟩
      case pos =>
      have i1b : decide (s.1 < (T.size : Int)) = true := decide_eq_true i1
      by_cases i2 : s.2 = false
      case neg =>
        have hcond : ¬ (s.1 < (T.size : Int) ∧ s.2 = false ∧ xs.length ≤ 256) := fun q => i2 q.2.1
        have i2t : s.2 = true := by simpa using i2
        have hr := HR.out
        rw [parseW, if_neg hcond] at hr
        have HFF := Aside0.mk (show (wharfageref19_ShowActs.f k xs).bind (fun u => if u.2 = 0 then (if u.1 = T then some (xs, 0) else some ([], 2300)) else some ([], 2300)) = some (r1, r2) by have h9 := HH.out; rw [← hr] at h9; exact h9)
        clear hr HR HH hcond
        rw [i2t] at q2
        clear i2 i2t i1
        obtain ⟨⟨u1, u2⟩, hsh, hh⟩ := Option.bind_eq_some_iff.mp HFF.out
        have HSH := Aside0.mk hsh
        clear hsh HFF
        by_cases h0 : u2 = 0
        · rw [if_pos h0] at hh
          subst h0
          by_cases h1 : u1 = T
          · rw [if_pos h1] at hh
            obtain ⟨rfl, rfl⟩ : xs = r1 ∧ 0 = r2 := by simpa using hh
            subst h1
            clear hh
            go_wp2_with (go_at_call 9; refine (wharfageref19_ShowActs.calls k A cc xs _ _ _ (Kd.R_reads' HRW0.out).2.2 (Kd.R_reads' HRW0.out).2.1 HSH.out).mono ?_; rintro e w6 ⟨rfl, hb⟩; have T6 := Aside0.mk (HTK.out.next hb); have R6 := Aside0.mk (Kd.R_below HRW0.out hb); clear q0 q1 q2; clear hb)
            go_ret2
            exact ⟨_, rfl, Kd.R_lower R6.out HW0.out, T6.out.low⟩
          · rw [if_neg h1] at hh
            obtain ⟨rfl, rfl⟩ : [] = r1 ∧ 2300 = r2 := by simpa using hh
            have hne := wharfageref19_ParseActs.bytes_ne h1
            clear hh h1
            go_wp2_with (go_at_call 9; refine (wharfageref19_ShowActs.calls k A cc xs _ _ _ (Kd.R_reads' HRW0.out).2.2 (Kd.R_reads' HRW0.out).2.1 HSH.out).mono ?_; rintro e w6 ⟨rfl, hb⟩; have T6 := Aside0.mk (HTK.out.next hb); have R6 := Aside0.mk (Kd.R_below HRW0.out hb); clear q0 q1 q2; clear hb)
            go_ret2
            exact ⟨_, rfl, Kd.R_nil _ _ _ _ _, T6.out.low⟩
        · rw [if_neg h0] at hh
          obtain ⟨rfl, rfl⟩ : [] = r1 ∧ 2300 = r2 := by simpa using hh
          have h0b : (u2 != 0) = true := bne_iff_ne.2 h0
          have h0c : (u2 == 0) = false := beq_eq_false_iff_ne.2 h0
          clear hh h0
          go_wp2_with (go_at_call 9; refine (wharfageref19_ShowActs.calls k A cc xs _ _ _ (Kd.R_reads' HRW0.out).2.2 (Kd.R_reads' HRW0.out).2.1 HSH.out).mono ?_; rintro e w6 ⟨rfl, hb⟩; have T6 := Aside0.mk (HTK.out.next hb); have R6 := Aside0.mk (Kd.R_below HRW0.out hb); clear q0 q1 q2; clear hb)
          go_ret2
          exact ⟨_, rfl, Kd.R_nil _ _ _ _ _, T6.out.low⟩
      case pos =>
      by_cases i3 : xs.length ≤ 256
      case neg =>
        have hcond : ¬ (s.1 < (T.size : Int) ∧ s.2 = false ∧ xs.length ≤ 256) := fun q => i3 q.2.2
        have i3b : decide ((xs.length : Int) ≤ 256) = false := decide_eq_false (by omega)
        have hr := HR.out
        rw [parseW, if_neg hcond] at hr
        have HFF := Aside0.mk (show (wharfageref19_ShowActs.f k xs).bind (fun u => if u.2 = 0 then (if u.1 = T then some (xs, 0) else some ([], 2300)) else some ([], 2300)) = some (r1, r2) by have h9 := HH.out; rw [← hr] at h9; exact h9)
        clear hr HR HH hcond
        rw [i2] at q2
        clear i1 i2 i3
        obtain ⟨⟨u1, u2⟩, hsh, hh⟩ := Option.bind_eq_some_iff.mp HFF.out
        have HSH := Aside0.mk hsh
        clear hsh HFF
        by_cases h0 : u2 = 0
        · rw [if_pos h0] at hh
          subst h0
          by_cases h1 : u1 = T
          · rw [if_pos h1] at hh
            obtain ⟨rfl, rfl⟩ : xs = r1 ∧ 0 = r2 := by simpa using hh
            subst h1
            clear hh
            go_wp2_with (go_at_call 9; refine (wharfageref19_ShowActs.calls k A cc xs _ _ _ (Kd.R_reads' HRW0.out).2.2 (Kd.R_reads' HRW0.out).2.1 HSH.out).mono ?_; rintro e w6 ⟨rfl, hb⟩; have T6 := Aside0.mk (HTK.out.next hb); have R6 := Aside0.mk (Kd.R_below HRW0.out hb); clear q0 q1 q2; clear hb)
            go_ret2
            exact ⟨_, rfl, Kd.R_lower R6.out HW0.out, T6.out.low⟩
          · rw [if_neg h1] at hh
            obtain ⟨rfl, rfl⟩ : [] = r1 ∧ 2300 = r2 := by simpa using hh
            have hne := wharfageref19_ParseActs.bytes_ne h1
            clear hh h1
            go_wp2_with (go_at_call 9; refine (wharfageref19_ShowActs.calls k A cc xs _ _ _ (Kd.R_reads' HRW0.out).2.2 (Kd.R_reads' HRW0.out).2.1 HSH.out).mono ?_; rintro e w6 ⟨rfl, hb⟩; have T6 := Aside0.mk (HTK.out.next hb); have R6 := Aside0.mk (Kd.R_below HRW0.out hb); clear q0 q1 q2; clear hb)
            go_ret2
            exact ⟨_, rfl, Kd.R_nil _ _ _ _ _, T6.out.low⟩
        · rw [if_neg h0] at hh
          obtain ⟨rfl, rfl⟩ : [] = r1 ∧ 2300 = r2 := by simpa using hh
          have h0b : (u2 != 0) = true := bne_iff_ne.2 h0
          have h0c : (u2 == 0) = false := beq_eq_false_iff_ne.2 h0
          clear hh h0
          go_wp2_with (go_at_call 9; refine (wharfageref19_ShowActs.calls k A cc xs _ _ _ (Kd.R_reads' HRW0.out).2.2 (Kd.R_reads' HRW0.out).2.1 HSH.out).mono ?_; rintro e w6 ⟨rfl, hb⟩; have T6 := Aside0.mk (HTK.out.next hb); have R6 := Aside0.mk (Kd.R_below HRW0.out hb); clear q0 q1 q2; clear hb)
          go_ret2
          exact ⟨_, rfl, Kd.R_nil _ _ _ _ _, T6.out.low⟩
      case pos =>
      have i3b : decide ((xs.length : Int) ≤ 256) = true := decide_eq_true (by omega)
      have hr := HR.out
      rw [parseW, if_pos ⟨i1, i2, i3⟩] at hr
      rw [i2] at q2
      have HX3 := Aside0.mk i3
      have AX := Aside0.mk (HTK.out.zero i2)
      obtain ⟨⟨x0, s1⟩, h0⟩ : ∃ k, numW T s = k := ⟨_, rfl⟩
      obtain ⟨⟨x1, s2⟩, h1⟩ : ∃ k, numW T s1 = k := ⟨_, rfl⟩
      obtain ⟨⟨x2, s3⟩, h2⟩ : ∃ k, numW T s2 = k := ⟨_, rfl⟩
      obtain ⟨⟨x3, s4⟩, h3⟩ : ∃ k, numW T s3 = k := ⟨_, rfl⟩
      obtain ⟨⟨x4, s5⟩, h4⟩ : ∃ k, numW T s4 = k := ⟨_, rfl⟩
      obtain ⟨⟨x5, s6⟩, h5⟩ : ∃ k, numW T s5 = k := ⟨_, rfl⟩
      obtain ⟨⟨b1, s7⟩, h7⟩ : ∃ k, isW T 103 s6 = k := ⟨_, rfl⟩
      obtain ⟨⟨n1, s8⟩, h8⟩ : ∃ k, numW T s7 = k := ⟨_, rfl⟩
      have hact : actW T s = (if s8.2 = true ∨ (T.size : Int) - s8.1 < n1 then none
        else if x0 = 9 then some (⟨x0, x1, x2, x3, x4, x5, b1, T.extract s8.1.toNat (s8.1 + n1).toNat, (configW T (s8.1 + n1, false)).1⟩, (configW T (s8.1 + n1, false)).2)
        else some (⟨x0, x1, x2, x3, x4, x5, b1, T.extract s8.1.toNat (s8.1 + n1).toNat, ⟨0, []⟩⟩, (s8.1 + n1, false))) := by
        unfold actW
        simp only [h0, h1, h2, h3, h4, h5, h7, h8]
      rw [hact] at hr
      have HN0 := Aside0.mk (show 0 ≤ n1 by
        have h9 := wharfageref19_words_num.L_nn T 7 0 s7.1 (Int.le_refl _)
        have h10 : (numW T s7).1 = n1 := by rw [h8]
        rw [← h10]; exact h9)
      have H0 := Aside0.mk h0
      have H1 := Aside0.mk h1
      have H2 := Aside0.mk h2
      have H3 := Aside0.mk h3
      have H4 := Aside0.mk h4
      have H5 := Aside0.mk h5
      have H7 := Aside0.mk h7
      have H8 := Aside0.mk h8
      have HRN := Aside0.mk hr
      have HGW := Aside0.mk (show g < wr.heap.size from HTK.out.lt)
      clear h0 h1 h2 h3 h4 h5 h7 h8 hact hr HR i1 i2 i3
      go_upto_region 5 with (first | (go_at_call 26; refine (numC T w g _ s _ AX.out (by omega) x0 s1 H0.out).mono ?_; rintro e w2 ⟨rfl, hT, hF⟩; have T2 := Aside0.mk hT; have F2 := Aside0.mk hF; clear hT hF q0 q1 q2) | ((with_reducible refine gate_dst (N := 6) rfl ?_); refine box_event ?hg (N := 6) ?hd (cs := #[.int .i64 0, .int .i64 0, .int .i64 0, .int .i64 0, .int .i64 0, .int .i64 0, .bool false, .string ⟨#[]⟩, .int .i64 0, .slice none 0 0]) (t := 40) ?hr ?_; (case hd => rfl); (case hg => rfl); (case hr => first | (go_simp; done) | (go_simp; rfl)); intro gx hg w3 hbox hb; have HW := Aside0.mk hb; have G := Aside0.mk (Nat.le_of_eq hg.symm : w2.heap.size ≤ gx); have Zb := Aside0.mk hbox; clear hb hbox hg; have z0 : w3.cell? ⟨gx, 0, none⟩ = some (.int .i64 0) := (blk_cell Zb.out 0).trans rfl; have y0 := blk_frozen Zb.out 0; have z1 : w3.cell? ⟨gx, 1, none⟩ = some (.int .i64 0) := (blk_cell Zb.out 1).trans rfl; have y1 := blk_frozen Zb.out 1; have z2 : w3.cell? ⟨gx, 2, none⟩ = some (.int .i64 0) := (blk_cell Zb.out 2).trans rfl; have y2 := blk_frozen Zb.out 2; have z3 : w3.cell? ⟨gx, 3, none⟩ = some (.int .i64 0) := (blk_cell Zb.out 3).trans rfl; have y3 := blk_frozen Zb.out 3; have z4 : w3.cell? ⟨gx, 4, none⟩ = some (.int .i64 0) := (blk_cell Zb.out 4).trans rfl; have y4 := blk_frozen Zb.out 4; have z5 : w3.cell? ⟨gx, 5, none⟩ = some (.int .i64 0) := (blk_cell Zb.out 5).trans rfl; have y5 := blk_frozen Zb.out 5; have z6 : w3.cell? ⟨gx, 6, none⟩ = some (.bool false) := (blk_cell Zb.out 6).trans rfl; have y6 := blk_frozen Zb.out 6; have z7 : w3.cell? ⟨gx, 7, none⟩ = some (.string ⟨#[]⟩) := (blk_cell Zb.out 7).trans rfl; have y7 := blk_frozen Zb.out 7; have z8 : w3.cell? ⟨gx, 8, none⟩ = some (.int .i64 0) := (blk_cell Zb.out 8).trans rfl; have y8 := blk_frozen Zb.out 8; have z9 : w3.cell? ⟨gx, 9, none⟩ = some (.slice none 0 0) := (blk_cell Zb.out 9).trans rfl; have y9 := blk_frozen Zb.out 9; skip))
      refine Take.hide_ (fun W => Below w2.heap.size w2 W ∧ W.heap[gx]? = some (.cells #[.int .i64 x0, .int .i64 0, .int .i64 0, .int .i64 0, .int .i64 0, .int .i64 0, .bool false, .string ⟨#[]⟩, .int .i64 0, .slice none 0 0] 40 (0, 0)) ∧ w2.heap.size ≤ gx) ⟨by with_reducible repeat (first | exact HW.out | refine below_set ?_ G.out), by refine blk_put (cs := #[.int .i64 x0, .int .i64 0, .int .i64 0, .int .i64 0, .int .i64 0, .int .i64 0, .bool false, .string ⟨#[]⟩, .int .i64 0, .slice none 0 0]) ?_ 9 _ rfl; refine blk_put (cs := #[.int .i64 x0, .int .i64 0, .int .i64 0, .int .i64 0, .int .i64 0, .int .i64 0, .bool false, .string ⟨#[]⟩, .int .i64 0, .slice none 0 0]) ?_ 8 _ rfl; refine blk_put (cs := #[.int .i64 x0, .int .i64 0, .int .i64 0, .int .i64 0, .int .i64 0, .int .i64 0, .bool false, .string ⟨#[]⟩, .int .i64 0, .slice none 0 0]) ?_ 7 _ rfl; refine blk_put (cs := #[.int .i64 x0, .int .i64 0, .int .i64 0, .int .i64 0, .int .i64 0, .int .i64 0, .bool false, .string ⟨#[]⟩, .int .i64 0, .slice none 0 0]) ?_ 6 _ rfl; refine blk_put (cs := #[.int .i64 x0, .int .i64 0, .int .i64 0, .int .i64 0, .int .i64 0, .int .i64 0, .bool false, .string ⟨#[]⟩, .int .i64 0, .slice none 0 0]) ?_ 5 _ rfl; refine blk_put (cs := #[.int .i64 x0, .int .i64 0, .int .i64 0, .int .i64 0, .int .i64 0, .int .i64 0, .bool false, .string ⟨#[]⟩, .int .i64 0, .slice none 0 0]) ?_ 4 _ rfl; refine blk_put (cs := #[.int .i64 x0, .int .i64 0, .int .i64 0, .int .i64 0, .int .i64 0, .int .i64 0, .bool false, .string ⟨#[]⟩, .int .i64 0, .slice none 0 0]) ?_ 3 _ rfl; refine blk_put (cs := #[.int .i64 x0, .int .i64 0, .int .i64 0, .int .i64 0, .int .i64 0, .int .i64 0, .bool false, .string ⟨#[]⟩, .int .i64 0, .slice none 0 0]) ?_ 2 _ rfl; refine blk_put (cs := #[.int .i64 x0, .int .i64 0, .int .i64 0, .int .i64 0, .int .i64 0, .int .i64 0, .bool false, .string ⟨#[]⟩, .int .i64 0, .slice none 0 0]) ?_ 1 _ rfl; refine blk_put (cs := #[.int .i64 0, .int .i64 0, .int .i64 0, .int .i64 0, .int .i64 0, .int .i64 0, .bool false, .string ⟨#[]⟩, .int .i64 0, .slice none 0 0]) ?_ 0 _ rfl; exact Zb.out, G.out⟩ ?_
      intro w4 ⟨hb, hz, hge⟩
      replace AX := Aside0.mk (show Aw T 8 wr w g gx s1 #[.int .i64 x0, .int .i64 0, .int .i64 0, .int .i64 0, .int .i64 0, .int .i64 0, .bool false, .string ⟨#[]⟩, .int .i64 0, .slice none 0 0] w4 from ⟨T2.out.next hb, F2.out.trans (Take.Fr.of_below hb), hz, ⟨HGW.out, Nat.le_trans F2.out.size hge, HTK.out.sz⟩⟩)
      clear hb hz hge HW G Zb T2 F2 z0 y0 z1 y1 z2 y2 z3 y3 z4 y4 z5 y5 z6 y6 z7 y7 z8 y8 z9 y9
      go_upto_region 6 with (go_at_call 26; refine (numC T w g _ s1 _ AX.out.tk (by omega) x1 s2 H1.out).mono ?_; rintro e w2 ⟨rfl, hT, hF⟩; replace AX := Aside0.mk (AX.out.call hT hF); have k_ : w2.cell? ⟨gx, 1, none⟩ = some (.int .i64 0) := (blk_cell AX.out.c 1).trans rfl; have f_ := blk_frozen AX.out.c 1; clear hT hF)
      refine Take.hide_ (fun W => Aw T 16 wr w g gx s2 #[.int .i64 x0, .int .i64 x1, .int .i64 0, .int .i64 0, .int .i64 0, .int .i64 0, .bool false, .string ⟨#[]⟩, .int .i64 0, .slice none 0 0] W) (AX.out.put 1 _ rfl) ?_
      intro w4 hax_
      replace AX := Aside0.mk hax_
      clear hax_ k_ f_
      go_upto_region 7 with (go_at_call 26; refine (numC T w g _ s2 _ AX.out.tk (by omega) x2 s3 H2.out).mono ?_; rintro e w2 ⟨rfl, hT, hF⟩; replace AX := Aside0.mk (AX.out.call hT hF); have k_ : w2.cell? ⟨gx, 2, none⟩ = some (.int .i64 0) := (blk_cell AX.out.c 2).trans rfl; have f_ := blk_frozen AX.out.c 2; clear hT hF)
      refine Take.hide_ (fun W => Aw T 24 wr w g gx s3 #[.int .i64 x0, .int .i64 x1, .int .i64 x2, .int .i64 0, .int .i64 0, .int .i64 0, .bool false, .string ⟨#[]⟩, .int .i64 0, .slice none 0 0] W) (AX.out.put 2 _ rfl) ?_
      intro w4 hax_
      replace AX := Aside0.mk hax_
      clear hax_ k_ f_
      go_upto_region 8 with (go_at_call 26; refine (numC T w g _ s3 _ AX.out.tk (by omega) x3 s4 H3.out).mono ?_; rintro e w2 ⟨rfl, hT, hF⟩; replace AX := Aside0.mk (AX.out.call hT hF); have k_ : w2.cell? ⟨gx, 3, none⟩ = some (.int .i64 0) := (blk_cell AX.out.c 3).trans rfl; have f_ := blk_frozen AX.out.c 3; clear hT hF)
      refine Take.hide_ (fun W => Aw T 32 wr w g gx s4 #[.int .i64 x0, .int .i64 x1, .int .i64 x2, .int .i64 x3, .int .i64 0, .int .i64 0, .bool false, .string ⟨#[]⟩, .int .i64 0, .slice none 0 0] W) (AX.out.put 3 _ rfl) ?_
      intro w4 hax_
      replace AX := Aside0.mk hax_
      clear hax_ k_ f_
      go_upto_region 9 with (go_at_call 26; refine (numC T w g _ s4 _ AX.out.tk (by omega) x4 s5 H4.out).mono ?_; rintro e w2 ⟨rfl, hT, hF⟩; replace AX := Aside0.mk (AX.out.call hT hF); have k_ : w2.cell? ⟨gx, 4, none⟩ = some (.int .i64 0) := (blk_cell AX.out.c 4).trans rfl; have f_ := blk_frozen AX.out.c 4; clear hT hF)
      refine Take.hide_ (fun W => Aw T 40 wr w g gx s5 #[.int .i64 x0, .int .i64 x1, .int .i64 x2, .int .i64 x3, .int .i64 x4, .int .i64 0, .bool false, .string ⟨#[]⟩, .int .i64 0, .slice none 0 0] W) (AX.out.put 4 _ rfl) ?_
      intro w4 hax_
      replace AX := Aside0.mk hax_
      clear hax_ k_ f_
      go_upto_region 10 with (go_at_call 26; refine (numC T w g _ s5 _ AX.out.tk (by omega) x5 s6 H5.out).mono ?_; rintro e w2 ⟨rfl, hT, hF⟩; replace AX := Aside0.mk (AX.out.call hT hF); have k_ : w2.cell? ⟨gx, 5, none⟩ = some (.int .i64 0) := (blk_cell AX.out.c 5).trans rfl; have f_ := blk_frozen AX.out.c 5; clear hT hF)
      refine Take.hide_ (fun W => Aw T 48 wr w g gx s6 #[.int .i64 x0, .int .i64 x1, .int .i64 x2, .int .i64 x3, .int .i64 x4, .int .i64 x5, .bool false, .string ⟨#[]⟩, .int .i64 0, .slice none 0 0] W) (AX.out.put 5 _ rfl) ?_
      intro w4 hax_
      replace AX := Aside0.mk hax_
      clear hax_ k_ f_
      go_upto_region 11 with (go_at_call 27; refine (isC T w g _ 103 s6 _ AX.out.tk (by omega) b1 s7 H7.out).mono ?_; rintro e w2 ⟨rfl, hT, hF⟩; replace AX := Aside0.mk (AX.out.call hT hF); have k_ : w2.cell? ⟨gx, 6, none⟩ = some (.bool false) := (blk_cell AX.out.c 6).trans rfl; have f_ := blk_frozen AX.out.c 6; clear hT hF)
      refine Take.hide_ (fun W => Aw T 56 wr w g gx s7 #[.int .i64 x0, .int .i64 x1, .int .i64 x2, .int .i64 x3, .int .i64 x4, .int .i64 x5, .bool b1, .string ⟨#[]⟩, .int .i64 0, .slice none 0 0] W) (AX.out.put 6 _ rfl) ?_
      intro w4 hax_
      replace AX := Aside0.mk hax_
      clear hax_ k_ f_
      go_upto_region 12 with (go_at_call 26; refine (numC T w g _ s7 _ AX.out.tk (by omega) n1 s8 H8.out).mono ?_; rintro e w2 ⟨rfl, hT, hF⟩; replace AX := Aside0.mk (AX.out.call hT hF); clear hT hF)
      have q0 := AX.out.tk.c0
      have q1 := AX.out.tk.c1
      have q2 := AX.out.tk.c2
      by_cases j1 : s8.2 = true
      case pos =>
        have hbad : s8.2 = true ∨ (T.size : Int) - s8.1 < n1 := .inl j1
        have hr := HRN.out
        rw [if_pos hbad] at hr
        have hh := HH.out
        rw [← hr] at hh
        obtain ⟨rfl, rfl⟩ : [] = r1 ∧ 2300 = r2 := by simpa [finW] using hh
        clear hr hh hbad HRN HH
        rw [j1] at q2
        clear j1
        go_wp2_with fail
        go_ret2
        exact ⟨_, rfl, Kd.R_nil _ _ _ _ _, AX.out.tk.low⟩
      case neg =>
      have j1f : s8.2 = false := by simpa using j1
      rw [j1f] at q2
      have hok := AX.out.tk.ok j1f
      have hlo := AX.out.tk.lo
      have hle := AX.out.tk.len
      have hn0 := HN0.out
      have hws : wrap64 ((T.size : Int) - s8.1) = (T.size : Int) - s8.1 := by unfold wrap64; omega
      by_cases j2 : (T.size : Int) - s8.1 < n1
      case pos =>
        have hbad : s8.2 = true ∨ (T.size : Int) - s8.1 < n1 := .inr j2
        have hr := HRN.out
        rw [if_pos hbad] at hr
        have hh := HH.out
        rw [← hr] at hh
        obtain ⟨rfl, rfl⟩ : [] = r1 ∧ 2300 = r2 := by simpa [finW] using hh
        clear hr hh hbad HRN HH
        have g1 : decide ((T.size : Int) - s8.1 < n1) = true := decide_eq_true j2
        have g2 : decide (n1 > (T.size : Int) - s8.1) = true := decide_eq_true j2
        clear hok hlo hle hn0 j1 j2 j1f
        go_wp2_with fail
        go_ret2
        exact ⟨_, rfl, Kd.R_nil _ _ _ _ _, AX.out.tk.low⟩
      case neg =>
      have g1 : decide ((T.size : Int) - s8.1 < n1) = false := decide_eq_false j2
      have g2 : decide (n1 > (T.size : Int) - s8.1) = false := decide_eq_false j2
      have hgood : ¬ (s8.2 = true ∨ (T.size : Int) - s8.1 < n1) := fun q => q.elim j1 j2
      have hr := HRN.out
      rw [if_neg hgood] at hr
      clear hgood HRN
      obtain ⟨a8, bd8⟩ := s8
      obtain rfl : bd8 = false := j1f
      replace q1 : w2.cell? ⟨g, 1, none⟩ = some (.int .i64 a8) := q1
      replace hok : a8 ≤ (T.size : Int) := hok
      replace hlo : 0 ≤ a8 := hlo
      replace j2 : ¬ ((T.size : Int) - a8 < n1) := j2
      replace g1 : decide ((T.size : Int) - a8 < n1) = false := g1
      replace g2 : decide (n1 > (T.size : Int) - a8) = false := g2
      replace hws : wrap64 ((T.size : Int) - a8) = (T.size : Int) - a8 := hws
      obtain ⟨p, rfl⟩ := Int.eq_ofNat_of_zero_le hlo
      obtain ⟨n, rfl⟩ := Int.eq_ofNat_of_zero_le hn0
      have HPN := Aside0.mk (show p + n ≤ T.size by omega)
      have e1 : ((p : Int)).toNat = p := Int.toNat_natCast p
      have e2 : ((p : Int) + (n : Int)).toNat = p + n := by omega
      have hr2 : (match (if x0 = 9 then some ((⟨x0, x1, x2, x3, x4, x5, b1, T.extract p (p + n), (configW T (((p + n : Nat) : Int), false)).1⟩ : S40), (configW T (((p + n : Nat) : Int), false)).2) else some ((⟨x0, x1, x2, x3, x4, x5, b1, T.extract p (p + n), ⟨0, []⟩⟩ : S40), (((p + n : Nat) : Int), false))) with | none => none | some r => parseW T k1 (xs ++ [r.1]) r.2) = RR := by
        rw [← hr]
        simp only [e1, e2, Int.natCast_add]
      have HR2 := Aside0.mk hr2
      clear hr hr2 e1 e2 j1 j2 HN0 hn0
      have wa : wrap64 ((p : Int) + (n : Int)) = ((p + n : Nat) : Int) := by have := HPN.out; unfold wrap64; omega
      have wb : IntKind.i64.wrap ((p : Int) + (n : Int)) = ((p + n : Nat) : Int) := by rw [IntKind.wrap_i64]; have := HPN.out; omega
      have k1_ : ((p : Nat) : Int) ≤ ((p + n : Nat) : Int) := by omega
      have k2_ : ((p + n : Nat) : Int) ≤ (T.size : Int) := by have := HPN.out; omega
      have k0_ : (0 : Int) ≤ (p : Int) := by omega
      have k3_ : (0 : Int) ≤ ((p + n : Nat) : Int) := by omega
      have hm64 : IntKind.i64.wrap ((T.size : Int) - (p : Int)) = (T.size : Int) - (p : Int) := by rw [IntKind.wrap_i64]; omega
      clear hok hlo hle
      have m7 : w2.cell? ⟨gx, 7, none⟩ = some (.string ⟨#[]⟩) := (blk_cell AX.out.c 7).trans rfl
      have f7 := blk_frozen AX.out.c 7
      go_upto_region 14 with fail
      go_region
      go_upto_region 15 with fail
      clear q0 q1 q2 m7 f7
      refine Take.hide_ (fun W => Aw T 64 wr w g gx ((p : Int), false) #[.int .i64 x0, .int .i64 x1, .int .i64 x2, .int .i64 x3, .int .i64 x4, .int .i64 x5, .bool b1, .string (T.extract p (p + n)), .int .i64 0, .slice none 0 0] W) (by first | exact (AX.out.drew).put 7 _ rfl | exact (AX.out.put 7 _ rfl).drew | exact AX.out.put 7 _ rfl | exact ((AX.out.drewN _).put 7 _ rfl)) ?_
      intro w4 hax_
      replace AX := Aside0.mk hax_
      clear hax_
      have q1 := AX.out.tk.c1
      have q1f := AX.out.tk.fz 1
      go_upto_region 16 with fail
      clear q1 q1f
      refine Take.hide_ (fun W => Aw T 64 wr w g gx (((p + n : Nat) : Int), false) #[.int .i64 x0, .int .i64 x1, .int .i64 x2, .int .i64 x3, .int .i64 x4, .int .i64 x5, .bool b1, .string (T.extract p (p + n)), .int .i64 0, .slice none 0 0] W) (AX.out.adv (by omega) (by have := HPN.out; omega)) ?_
      intro w5 hax_
      replace AX := Aside0.mk hax_
      clear hax_ wa wb k1_ k2_ k0_ k3_ hm64 hws g1 g2
      have q2 := AX.out.tk.c2
      have m0 : w5.cell? ⟨gx, 0, none⟩ = some (.int .i64 x0) := (blk_cell AX.out.c 0).trans rfl
      have hr := HR2.out
      have HWS := Aside0.mk HSZ0.out
      by_cases j9 : x0 = 9
      case pos =>
        subst j9
        rw [if_pos rfl] at hr
        obtain ⟨⟨c8, sF⟩, hcf⟩ : ∃ q, configW T (((p + n : Nat) : Int), false) = q := ⟨_, rfl⟩
        rw [hcf] at hr
        replace HR2 := Aside0.mk hr
        have HCF := Aside0.mk hcf
        clear hr hcf
        have AX0 := Aside0.mk (AX.out.tk.zero rfl)
        go_upto_region 18 with (go_at_call 28; refine (wharfageref19_words_config.calls T w g (((p + n : Nat) : Int), false) _ AX0.out c8 sF HCF.out).mono ?_; rintro e w2 ⟨v9, rfl, hv, hT, hF⟩; obtain ⟨V9, c9_, hv9_⟩ := Kd.R_slice hv; obtain ⟨ln9, hln_⟩ : ∃ n, c8.f1.length = n := ⟨_, rfl⟩; rw [hln_] at hv9_; clear hln_; subst hv9_; have HV0 := Aside0.mk (Kd.R_types hv hT.blk (by decide)); have HSF := Aside0.mk AX.out.fr.size; have HSG := Aside0.mk hF.size; replace AX := Aside0.mk (AX.out.call hT hF); have k8 : w2.cell? ⟨gx, 8, none⟩ = some (.int .i64 0) := (blk_cell AX.out.c 8).trans rfl; have f8 := blk_frozen AX.out.c 8; have k9 : w2.cell? ⟨gx, 9, none⟩ = some (.slice none 0 0) := (blk_cell AX.out.c 9).trans rfl; have f9 := blk_frozen AX.out.c 9; clear hv hT hF q2 m0)
        refine Take.hide_ (fun W => Aw T 40 wr w g gx sF #[.int .i64 9, .int .i64 x1, .int .i64 x2, .int .i64 x3, .int .i64 x4, .int .i64 x5, .bool b1, .string (T.extract p (p + n)), .int .i64 c8.f0, .slice V9 ln9 c9_] W ∧ Kd.R k63 63 W w5.heap.size (fun _ => True) (.slice V9 ln9 c9_) c8.f1) ⟨(AX.out.put 8 (.int .i64 c8.f0) (cs1 := #[.int .i64 9, .int .i64 x1, .int .i64 x2, .int .i64 x3, .int .i64 x4, .int .i64 x5, .bool b1, .string (T.extract p (p + n)), .int .i64 c8.f0, .slice none 0 0]) rfl).put 9 (.slice V9 ln9 c9_) rfl, ?_⟩ ?_
        · exact Kd.R_mono (Kd.R_set (Kd.R_set HV0.out AX.out.c (by decide) 8 _) (blk_put AX.out.c 8 _ rfl) (by decide) 9 _) (fun _ _ => trivial)
        intro w6 ⟨hax_, hv_⟩
        replace AX := Aside0.mk hax_
        have HV := Aside0.mk hv_
        clear hax_ hv_ k8 f8 k9 f9
        have HRW := Aside0.mk (Kd.R_mono (Kd.R_step (Kd.R_types HRW0.out HTK.out.blk (by decide)) (fun k hk hlt => AX.out.fr.blk k hlt hk.2)) (fun _ _ => trivial) : Kd.R k40 40 w6 wE.heap.size (fun _ => True) (.slice A xs.length cc) xs)
        have HSZ := Aside0.mk (Nat.le_trans HSZ0.out AX.out.fr.size)
        have y0_ : w6.cell? ⟨gx, 0, none⟩ = some (.int .i64 9) := (blk_cell AX.out.c 0).trans rfl
        have y1_ : w6.cell? ⟨gx, 1, none⟩ = some (.int .i64 x1) := (blk_cell AX.out.c 1).trans rfl
        have y2_ : w6.cell? ⟨gx, 2, none⟩ = some (.int .i64 x2) := (blk_cell AX.out.c 2).trans rfl
        have y3_ : w6.cell? ⟨gx, 3, none⟩ = some (.int .i64 x3) := (blk_cell AX.out.c 3).trans rfl
        have y4_ : w6.cell? ⟨gx, 4, none⟩ = some (.int .i64 x4) := (blk_cell AX.out.c 4).trans rfl
        have y5_ : w6.cell? ⟨gx, 5, none⟩ = some (.int .i64 x5) := (blk_cell AX.out.c 5).trans rfl
        have y6_ : w6.cell? ⟨gx, 6, none⟩ = some (.bool b1) := (blk_cell AX.out.c 6).trans rfl
        have y7_ : w6.cell? ⟨gx, 7, none⟩ = some (.string (T.extract p (p + n))) := (blk_cell AX.out.c 7).trans rfl
        have y8_ : w6.cell? ⟨gx, 8, none⟩ = some (.int .i64 c8.f0) := (blk_cell AX.out.c 8).trans rfl
        have y9_ : w6.cell? ⟨gx, 9, none⟩ = some (.slice V9 ln9 c9_) := (blk_cell AX.out.c 9).trans rfl
        go_wp2_with ((with_reducible refine gate_builtin (b := .append) (xs := #[.tmp 98, .tmp 100]) rfl ?_); at_builtin; refine Kd.R_append k40 (w0 := w6) wE.heap.size rfl (.tmp 98) (.tmp 100) 22 40 (.agg #[.int .i64 0, .int .i64 0, .int .i64 0, .int .i64 0, .int .i64 0, .int .i64 0, .bool false, .string ⟨#[]⟩, .int .i64 0, .slice none 0 0]) 104 rfl Tryd.underlying22 wharfageref19_ParseActs.info rfl (by decide) (by omega) (.slice A xs.length cc) xs (⟨9, x1, x2, x3, x4, x5, b1, T.extract p (p + n), c8⟩ : S40) [.int .i64 9, .int .i64 x1, .int .i64 x2, .int .i64 x3, .int .i64 x4, .int .i64 x5, .bool b1, .string (T.extract p (p + n)), .int .i64 c8.f0, .slice V9 ln9 c9_] (fun _ => True) (fun k => True ∧ some k ≠ (.slice A xs.length cc : Value).ownBlock) rfl rfl ?aP (fun _ hk => ⟨trivial, hk.2⟩) ?aF ?aO ?aB ?aS ?aL ?_; (case aP => exact k40_mkM _ _ _ (⟨9, x1, x2, x3, x4, x5, b1, T.extract p (p + n), c8⟩ : S40) (Kd.R_apartR (Kd.R_lower HV.out (Nat.le_trans HSZ0.out HSF.out)) (Kd.R_mono (Kd.R_step (Kd.R_types HRW0.out HTK.out.blk (by decide)) (fun k hk hlt => AX.out.fr.blk k hlt hk.2)) (fun _ _ => trivial)) (by decide))); (case aB => exact Below.refl _ _); (case aF => exact (fun _ _ => trivial)); (case aO => exact HRW.out); (case aS => exact HSZ.out); (case aL => have := HX3.out; omega); intro vN w7 ho hb hg hat; have HRW2 := Aside0.mk ho; have T7 := Aside0.mk (AX.out.tk.lowN hb HGE.out HW0.out); have S7 := Aside0.mk (Nat.le_trans HSZ.out hb.size); clear ho hb hg hat)
        go_roundg k1
        case measure => have := HX.out; omega
        case rel =>
          have h1 := HX.out
          have h2 := HX3.out
          exact ⟨_, xs ++ [(⟨9, x1, x2, x3, x4, x5, b1, T.extract p (p + n), c8⟩ : S40)], sF, rfl, ⟨by rw [List.length_append, List.length_singleton]; omega, by rw [List.length_append, List.length_singleton]; omega⟩, ⟨T7.out.mono (by omega)⟩, S7, HRW2, HR2⟩
      case neg =>
        rw [if_neg j9] at hr
        replace HR2 := Aside0.mk hr
        have j9b : (x0 == 9) = false := beq_eq_false_iff_ne.2 j9
        have j9c : decide (x0 = 9) = false := decide_eq_false j9
        clear hr j9
        have HRW := Aside0.mk (Kd.R_mono (Kd.R_step (Kd.R_types HRW0.out HTK.out.blk (by decide)) (fun k hk hlt => AX.out.fr.blk k hlt hk.2)) (fun _ _ => trivial) : Kd.R k40 40 w5 wE.heap.size (fun _ => True) (.slice A xs.length cc) xs)
        have HSZ := Aside0.mk (Nat.le_trans HSZ0.out AX.out.fr.size)
        have y0_ : w5.cell? ⟨gx, 0, none⟩ = some (.int .i64 x0) := (blk_cell AX.out.c 0).trans rfl
        have y1_ : w5.cell? ⟨gx, 1, none⟩ = some (.int .i64 x1) := (blk_cell AX.out.c 1).trans rfl
        have y2_ : w5.cell? ⟨gx, 2, none⟩ = some (.int .i64 x2) := (blk_cell AX.out.c 2).trans rfl
        have y3_ : w5.cell? ⟨gx, 3, none⟩ = some (.int .i64 x3) := (blk_cell AX.out.c 3).trans rfl
        have y4_ : w5.cell? ⟨gx, 4, none⟩ = some (.int .i64 x4) := (blk_cell AX.out.c 4).trans rfl
        have y5_ : w5.cell? ⟨gx, 5, none⟩ = some (.int .i64 x5) := (blk_cell AX.out.c 5).trans rfl
        have y6_ : w5.cell? ⟨gx, 6, none⟩ = some (.bool b1) := (blk_cell AX.out.c 6).trans rfl
        have y7_ : w5.cell? ⟨gx, 7, none⟩ = some (.string (T.extract p (p + n))) := (blk_cell AX.out.c 7).trans rfl
        have y8_ : w5.cell? ⟨gx, 8, none⟩ = some (.int .i64 0) := (blk_cell AX.out.c 8).trans rfl
        have y9_ : w5.cell? ⟨gx, 9, none⟩ = some (.slice none 0 0) := (blk_cell AX.out.c 9).trans rfl
        go_wp2_with ((with_reducible refine gate_builtin (b := .append) (xs := #[.tmp 98, .tmp 100]) rfl ?_); at_builtin; refine Kd.R_append k40 (w0 := w5) wE.heap.size rfl (.tmp 98) (.tmp 100) 22 40 (.agg #[.int .i64 0, .int .i64 0, .int .i64 0, .int .i64 0, .int .i64 0, .int .i64 0, .bool false, .string ⟨#[]⟩, .int .i64 0, .slice none 0 0]) 104 rfl Tryd.underlying22 wharfageref19_ParseActs.info rfl (by decide) (by omega) (.slice A xs.length cc) xs (⟨x0, x1, x2, x3, x4, x5, b1, T.extract p (p + n), ⟨0, []⟩⟩ : S40) [.int .i64 x0, .int .i64 x1, .int .i64 x2, .int .i64 x3, .int .i64 x4, .int .i64 x5, .bool b1, .string (T.extract p (p + n)), .int .i64 0, .slice none 0 0] (fun _ => True) (fun k => True ∧ some k ≠ (.slice A xs.length cc : Value).ownBlock) rfl rfl ?aP (fun _ hk => ⟨trivial, hk.2⟩) ?aF ?aO ?aB ?aS ?aL ?_; (case aP => exact k40_mkM _ _ _ (⟨x0, x1, x2, x3, x4, x5, b1, T.extract p (p + n), ⟨0, []⟩⟩ : S40) (Kd.R_nil _ _ _ _ _)); (case aB => exact Below.refl _ _); (case aF => exact (fun _ _ => trivial)); (case aO => exact HRW.out); (case aS => exact HSZ.out); (case aL => have := HX3.out; omega); intro vN w7 ho hb hg hat; have HRW2 := Aside0.mk ho; have T7 := Aside0.mk (AX.out.tk.lowN hb HGE.out HW0.out); have S7 := Aside0.mk (Nat.le_trans HSZ.out hb.size); clear ho hb hg hat)
        go_roundg k1
        case measure => have := HX.out; omega
        case rel =>
          have h1 := HX.out
          have h2 := HX3.out
          exact ⟨_, xs ++ [(⟨x0, x1, x2, x3, x4, x5, b1, T.extract p (p + n), ⟨0, []⟩⟩ : S40)], (((p + n : Nat) : Int), false), rfl, ⟨by rw [List.length_append, List.length_singleton]; omega, by rw [List.length_append, List.length_singleton]; omega⟩, ⟨(T7.out.zero rfl).mono (by omega)⟩, S7, HRW2, HR2⟩


end Go.Proofs.YtnojgkiaolmoeaaDoor.PSc
end
section
/- Contracts: what calls of these functions of the program do, each as a plain function; written by a program of this session. -/
namespace Go.Proofs.YtnojgkiaolmoeaaDoor.PSc
open Go.RowKit Go.Proofs.YtnojgkiaolmoeaaDoorW.PrintWords Go.Proofs.YtnojgkiaolmoeaaDoorW.PrintLast Go.Proofs.YtnojgkiaolmoeaaDoorW.PrintMore
attribute [local go_sem] max2_int min2_int max_two min_two max_three min_three max_four min_four   -- for this text's walks alone
set_option linter.unusedVariables false
set_option linter.unusedSimpArgs false

attribute [local go_sem high] eqA65
/-! ### wharfagelaw0_Num: function 12 -/
def wharfagelaw0_Num.f (a0 : Int) : Option (Int) := some a0
set_option maxHeartbeats 8000000 in
set_option maxRecDepth 100000 in
theorem wharfagelaw0_Num.calls (a0 : Int) (r : Int) (w : World) (h : wharfagelaw0_Num.f a0 = some r) :
  Calls Tryd.prog 12 #[.int .i64 a0] w fun e w' => e = .returned (.int .i64 r) ∧ Drawn0 w w' := by
 have H : (some a0) = some r := h
 clear h
 obtain rfl := Option.some.inj H
 go_enter Tryd.func12, Tryd.ntmps12
 go_wp2
 go_ret
 exact ⟨by first | rfl | (simp; done) | (simp [*]; done), by repeat (first | exact Drawn0.refl _ | apply Drawn0.step)⟩

/-! ### wharfagelaw0_SameBacks: function 47 -/
def wharfagelaw0_SameBacks.l0 : Nat → List (S65) → List (S65) → Int → Option (Bool)
 | 0, _, _, _ => none
 | k + 1, x0, x1, x5 => if x5 < (x0.length : Int) then (if 0 ≤ x5 then (if x5 < (x1.length : Int) then (if (!(((rd_T65 x0 x5).f0) == ((rd_T65 x1 x5).f0)) || (!(((rd_T65 x0 x5).f1) == ((rd_T65 x1 x5).f1)))) = true then (none) else (wharfagelaw0_SameBacks.l0 k x0 x1 (wrap64 (x5 + 1)))) else (none)) else (none)) else (some true)
def wharfagelaw0_SameBacks.f (k : Nat) (l0 : List (S65)) (l1 : List (S65)) : Option (Bool) := if (l0.length : Int) = (l1.length : Int) then (wharfagelaw0_SameBacks.l0 k l0 l1 0) else (none)
theorem wharfagelaw0_SameBacks.mono_l : ∀ k, (∀ y0 y1 y2, LeO (wharfagelaw0_SameBacks.l0 k y0 y1 y2) (wharfagelaw0_SameBacks.l0 (k + 1) y0 y1 y2))
 | 0 => fun _ _ _ r h => by simp [wharfagelaw0_SameBacks.l0] at h
 | k + 1 => by
  have ih0 := wharfagelaw0_SameBacks.mono_l k
  ·intro y0 y1 y2
   unfold wharfagelaw0_SameBacks.l0
   repeat' first
   | (with_reducible exact ih0 _ _ _)
   | (with_reducible exact LeO.refl _)
   | (with_reducible exact LeO.none _)
   | (with_reducible refine LeO.ite ?_ ?_)
   | (with_reducible refine LeO.bind ?_ (fun _ => ?_))
   | exact ih0 _ _ _
   | exact LeO.none _
   | refine LeO.ite ?_ ?_
   | refine LeO.bind ?_ (fun _ => ?_)
theorem wharfagelaw0_SameBacks.mono : ∀ a0 a1 k, LeO (wharfagelaw0_SameBacks.f k a0 a1) (wharfagelaw0_SameBacks.f (k + 1) a0 a1) := by
 intro a0 a1 k
 have ih0 := wharfagelaw0_SameBacks.mono_l k
 unfold wharfagelaw0_SameBacks.f
 repeat' first
   | (with_reducible exact ih0 _ _ _)
   | (with_reducible exact LeO.refl _)
   | (with_reducible exact LeO.none _)
   | (with_reducible refine LeO.ite ?_ ?_)
   | (with_reducible refine LeO.bind ?_ (fun _ => ?_))
   | exact ih0 _ _ _
   | exact LeO.none _
   | refine LeO.ite ?_ ?_
   | refine LeO.bind ?_ (fun _ => ?_)
set_option maxHeartbeats 8000000 in
set_option maxRecDepth 100000 in
theorem wharfagelaw0_SameBacks.calls (k : Nat) (A0 : Option Addr) (c0 : Nat) (l0 : List (S65)) (A1 : Option Addr) (c1 : Nat) (l1 : List (S65)) (r : Bool) (w : World) (hr0 : Kd.C k65 w A0 l0.length l0) (hc0 : l0.length ≤ c0) (hr1 : Kd.C k65 w A1 l1.length l1) (hc1 : l1.length ≤ c1) (h : wharfagelaw0_SameBacks.f k l0 l1 = some r) :
  Calls Tryd.prog 47 #[.slice A0 l0.length c0, .slice A1 l1.length c1] w fun e w' => e = .returned (.bool r) ∧ Drawn0 w w' := by
 have hu65 := Tryd.underlying65
 have HR0 := Aside0.mk hr0
 have HC0 := Aside0.mk hc0
 clear hr0 hc0
 have HR1 := Aside0.mk hr1
 have HC1 := Aside0.mk hc1
 clear hr1 hc1
 have H : (if (l0.length : Int) = (l1.length : Int) then (wharfagelaw0_SameBacks.l0 k l0 l1 0) else (none)) = some r := h
 clear h
 by_cases c3 : (l0.length : Int) = (l1.length : Int)
 ·rw [if_pos c3] at H
  have c3b0 : ((l0.length : Int) == (l1.length : Int)) = true := beq_iff_eq.mpr c3
  have c3b1 : ((l0.length : Int) != (l1.length : Int)) = false := bne_eq_false_iff_eq.mpr c3
  have c3b2 : (l0.length == l1.length) = true := by first | simpa using c3 | (simp at c3 ⊢; omega)
  clear c3
  have H' := Aside0.mk H
  clear H
  go_enter Tryd.func47, Tryd.ntmps47
  go_wp2
  repeat (go_quiet (fail); try go_wp2)
  go_loopg [5] k (fun kq v5 w' => ∃ (x5_1 : Int), v5 = .int .i64 x5_1 ∧ Aside0 (wharfagelaw0_SameBacks.l0 kq l0 l1 x5_1 = some r) ∧ Aside0 (kq ≤ k) ∧ Drawn0 w w')
  case atStart => exact ⟨(0), (by first | rfl | (simp; done) | (simp [*]; done)), H', ⟨Nat.le_refl _⟩, by repeat (first | exact Drawn0.refl _ | apply Drawn0.step)⟩
  case round =>
   clear H'
   try clear c1
   try clear p2
   try clear c3
   try clear c3b0
   try clear c3b1
   try clear c3b2
   obtain ⟨x5_1, rfl, HA, HK1, ⟨m1, rfl⟩⟩ := hrel
   cases gk with
   | zero => exact absurd HA.out (by simp [wharfagelaw0_SameBacks.l0])
   | succ k1 =>
    have H := HA.out
    clear HA
    simp only [wharfagelaw0_SameBacks.l0] at H
    by_cases c4 : x5_1 < (l0.length : Int)
    ·rw [if_pos c4] at H
     have c4b0 : decide (x5_1 < (l0.length : Int)) = true := decide_eq_true c4
     clear c4
     by_cases c5 : 0 ≤ x5_1
     ·rw [if_pos c5] at H
      have c5b0 : decide (0 ≤ x5_1) = true := decide_eq_true c5
      clear c5
      by_cases c6 : x5_1 < (l1.length : Int)
      ·rw [if_pos c6] at H
       have c6b0 : decide (x5_1 < (l1.length : Int)) = true := decide_eq_true c6
       clear c6
       by_cases c7 : (!(((rd_T65 l0 x5_1).f0) == ((rd_T65 l1 x5_1).f0)) || (!(((rd_T65 l0 x5_1).f1) == ((rd_T65 l1 x5_1).f1)))) = true
       ·rw [if_pos c7] at H
        exact absurd H (by simp)
       ·rw [if_neg c7] at H
        have c7b0 : (!(((rd_T65 l0 x5_1).f0) == ((rd_T65 l1 x5_1).f0)) || (!(((rd_T65 l0 x5_1).f1) == ((rd_T65 l1 x5_1).f1)))) = false := by simpa using c7
        clear c7
        have H' := Aside0.mk H
        clear H
        have p184 : 0 ≤ (x5_1 : Int) := of_decide_eq_true (by first | (with_reducible assumption) | assumption)
        have q184 : x5_1 < (l0.length : Int) := of_decide_eq_true (by first | (with_reducible assumption) | assumption)
        obtain ⟨ad184, e184, hx184_0, hx184_1⟩ := at_T65 HR0.out x5_1 p184 q184
        cases e184
        replace p184 := eq_true p184
        replace q184 := eq_true q184
        have p185 : 0 ≤ (x5_1 : Int) := of_decide_eq_true (by first | (with_reducible assumption) | assumption)
        have q185 : x5_1 < (l1.length : Int) := of_decide_eq_true (by first | (with_reducible assumption) | assumption)
        obtain ⟨ad185, e185, hx185_0, hx185_1⟩ := at_T65 HR1.out x5_1 p185 q185
        cases e185
        replace p185 := eq_true p185
        replace q185 := eq_true q185
        go_wp2
        repeat (go_quiet (fail); try go_wp2)
        go_roundg k1
        case measure => have := HK1.out; omega
        case rel => exact ⟨(wrap64 (x5_1 + 1)), (by first | rfl | (simp; done) | (simp [*]; done)), H', ⟨by have := HK1.out; omega⟩, by repeat (first | exact Drawn0.refl _ | apply Drawn0.step)⟩
      ·rw [if_neg c6] at H
       exact absurd H (by simp)
     ·rw [if_neg c5] at H
      exact absurd H (by simp)
    ·rw [if_neg c4] at H
     have c4b0 : decide (x5_1 < (l0.length : Int)) = false := decide_eq_false c4
     clear c4
     obtain rfl := Option.some.inj H
     go_wp2
     repeat (go_quiet (fail); try go_wp2)
     go_ret
     exact ⟨by first | rfl | (simp; done) | (simp [*]; done), by repeat (first | exact Drawn0.refl _ | apply Drawn0.step)⟩
 ·rw [if_neg c3] at H
  exact absurd H (by simp)

end Go.Proofs.YtnojgkiaolmoeaaDoor.PSc
end
section
/- Contracts: what calls of these functions of the program do, each as a plain function; written by a program of this session. -/
namespace Go.Proofs.YtnojgkiaolmoeaaDoor.PSc
open Go.RowKit Go.Proofs.YtnojgkiaolmoeaaDoorW.PrintWords Go.Proofs.YtnojgkiaolmoeaaDoorW.PrintLast Go.Proofs.YtnojgkiaolmoeaaDoorW.PrintMore
attribute [local go_sem] max2_int min2_int max_two min_two max_three min_three max_four min_four   -- for this text's walks alone
set_option linter.unusedVariables false
set_option linter.unusedSimpArgs false

/-! ### wharfagelaw0_SameConfig: function 29, by hand -/
instance wharfagelaw0_SameConfig.decB : DecidableEq S65 := fun a b => decidable_of_iff (a.f0 = b.f0 ∧ a.f1 = b.f1) (by cases a; cases b; simp)
instance wharfagelaw0_SameConfig.decS : DecidableEq S63 := fun a b => decidable_of_iff (a.f0 = b.f0 ∧ a.f1 = b.f1 ∧ a.f2 = b.f2 ∧ a.f3 = b.f3) (by cases a; cases b; simp)
def wharfagelaw0_SameConfig.f (k : Nat) (a0 : Int) (l0 : List S63) (a1 : Int) (l1 : List S63) : Option Bool := if a0 = a1 ∧ l0 = l1 ∧ l0.length < 2932031007402 ∧ (∀ x ∈ l0, x.f3.length < k ∧ x.f3.length < 8796093022208) then some true else none
theorem wharfagelaw0_SameConfig.mono : ∀ a0 a1 a2 a3 k, LeO (wharfagelaw0_SameConfig.f k a0 a1 a2 a3) (wharfagelaw0_SameConfig.f (k + 1) a0 a1 a2 a3) := by
 intro a0 a1 a2 a3 k
 unfold wharfagelaw0_SameConfig.f
 by_cases h : a0 = a2 ∧ a1 = a3 ∧ a1.length < 2932031007402 ∧ (∀ x ∈ a1, x.f3.length < k ∧ x.f3.length < 8796093022208)
 ·rw [if_pos h, if_pos ⟨h.1, h.2.1, h.2.2.1, fun x hx => ⟨Nat.lt_succ_of_lt (h.2.2.2 x hx).1, (h.2.2.2 x hx).2⟩⟩]
  exact LeO.refl _
 ·rw [if_neg h]
  exact LeO.none _
theorem wharfagelaw0_SameConfig.backs (l : List S65) (hl : l.length ≤ 9223372036854775806) (d : Nat) : ∀ (k i : Nat), l.length - i ≤ d → d < k → i ≤ l.length → wharfagelaw0_SameBacks.l0 k l l (i : Int) = some true := by
 induction d with
 | zero =>
  intro k i hd hk hi
  obtain ⟨k, rfl⟩ : ∃ m, k = m + 1 := ⟨k - 1, by omega⟩
  simp only [wharfagelaw0_SameBacks.l0]
  rw [if_neg (by omega)]
 | succ d ih =>
  intro k i hd hk hi
  obtain ⟨k, rfl⟩ : ∃ m, k = m + 1 := ⟨k - 1, by omega⟩
  simp only [wharfagelaw0_SameBacks.l0]
  by_cases h : (i : Int) < (l.length : Int)
  ·rw [if_pos h, if_pos (by omega), if_pos h, if_neg (by simp), show wrap64 ((i : Int) + 1) = ((i + 1 : Nat) : Int) by unfold wrap64; omega]
   exact ih k (i + 1) (by omega) (by omega) (by omega)
  ·rw [if_neg h]
theorem wharfagelaw0_SameConfig.backs_f (l : List S65) (hl : l.length ≤ 9223372036854775806) (k : Nat) (hk : l.length < k) : wharfagelaw0_SameBacks.f k l l = some true := by
 unfold wharfagelaw0_SameBacks.f
 rw [if_pos rfl]
 exact wharfagelaw0_SameConfig.backs l hl l.length k 0 (by omega) hk (by omega)
theorem wharfagelaw0_SameConfig.cn_lt {w : World} {b : Nat} {o : Obj} (h : w.heap[b]? = some o) : b < w.heap.size := (Array.getElem?_eq_some_iff.1 h).1
theorem wharfagelaw0_SameConfig.cn_below {w w1 : World} {b : Nat} {o : Obj} (h : w.heap[b]? = some o) (hb : Below w.heap.size w w1) : w1.heap[b]? = some o := (hb.block b (wharfagelaw0_SameConfig.cn_lt h)).trans h
theorem wharfagelaw0_SameConfig.cn_alloc {w : World} {b : Nat} {o : Obj} (h : w.heap[b]? = some o) (o2 : Obj) : (w.alloc o2).heap[b]? = some o := (Below.heap_alloc w o2 _ (wharfagelaw0_SameConfig.cn_lt h)).trans h
theorem wharfagelaw0_SameConfig.cn_cell {w : World} {b j : Nat} {cs : Array Value} {t : TypeId} {m : Nat × Nat} (h : w.heap[b]? = some (.cells cs t m)) : w.cell? ⟨b, j, none⟩ = cs[j]? := by simp [World.cell?, h]
theorem wharfagelaw0_SameConfig.cn_free {w : World} {b j : Nat} {cs : Array Value} {t : TypeId} (h : w.heap[b]? = some (.cells cs t (0, 0))) : w.frozen? ⟨b, j, none⟩ = false := by simp [World.frozen?, h]
theorem wharfagelaw0_SameConfig.tab6 : rtab .any (opsOf Tryd.f29 6) = rtab .any (opsOf Tryd.f29 6) := rfl
def wharfagelaw0_SameConfig.B6 : List Nat := [0, 1, 0, 7, 15, 0, 32, 0, 224, 480, 0, 0, 3103, 8191]
theorem wharfagelaw0_SameConfig.bits6 : waitsOk (rtab .any (opsOf Tryd.f29 6)).2 wharfagelaw0_SameConfig.B6 = true := by kernel_rfl
set_option maxHeartbeats 8000000 in
set_option maxRecDepth 100000 in
theorem wharfagelaw0_SameConfig.calls (k : Nat) (a0 : Int) (A0 : Option Addr) (c0 : Nat) (l : List S63) (a1 : Int) (A1 : Option Addr) (c1 : Nat) (l1 : List S63) (r : Bool) (w : World) (hr0 : Kd.C k63 w A0 l.length l) (hc0 : l.length ≤ c0) (hr1 : Kd.C k63 w A1 l1.length l1) (hc1 : l1.length ≤ c1) (h : wharfagelaw0_SameConfig.f k a0 l a1 l1 = some r) :
    Calls Tryd.prog 29 #[.agg #[.int .i64 a0, .slice A0 l.length c0], .agg #[.int .i64 a1, .slice A1 l1.length c1]] w fun e w' => e = .returned (.bool r) ∧ Below w.heap.size w w' := by
  unfold wharfagelaw0_SameConfig.f at h
  by_cases hh : a0 = a1 ∧ l = l1 ∧ l.length < 2932031007402 ∧ (∀ x ∈ l, x.f3.length < k ∧ x.f3.length < 8796093022208)
  case neg => rw [if_neg hh] at h; cases h
  rw [if_pos hh] at h
  obtain rfl : true = r := Option.some.inj h
  obtain ⟨rfl, rfl, hll, hk⟩ := hh
  have HLL := Aside0.mk hll
  have hu24 := Tryd.underlying38
  have hu53 := Tryd.underlying63
  have HR0 := Aside0.mk hr0
  have HR1 := Aside0.mk hr1
  have HC0 := Aside0.mk hc0
  have HC1 := Aside0.mk hc1
  have HK := Aside0.mk hk
  clear hr0 hr1 h hk hc0 hc1 hll
  have ea : (a0 != a0) = false := bne_self_eq_false a0
  have eb : (a0 == a0) = true := beq_self_eq_true a0
  have ec : ((l.length : Int) != (l.length : Int)) = false := bne_self_eq_false _
  have ed : ((l.length : Int) == (l.length : Int)) = true := beq_self_eq_true _
  go_enter Tryd.func29, Tryd.ntmps29
  go_upto_region 3 with fail
  obtain ⟨n1, hn1⟩ : ∃ n, n = w.heap.size + 1 := ⟨_, rfl⟩
  obtain ⟨n0, hn0⟩ : ∃ n, n = w.heap.size := ⟨_, rfl⟩
  obtain ⟨wb, hwb⟩ : ∃ x_, x_ = (w.alloc (.cells #[.int .i64 a0, .slice A0 l.length c0] 38)).alloc (.cells #[.int .i64 a0, .slice A1 l.length c1] 38) := ⟨_, rfl⟩
  have H0 := Aside0.mk (show wb.heap[n0]? = some (.cells #[.int .i64 a0, .slice A0 l.length c0] 38 (0, 0)) by rw [hwb, hn0]; exact wharfagelaw0_SameConfig.cn_alloc (heap_alloc_new w _) _)
  have H1 := Aside0.mk (show wb.heap[n1]? = some (.cells #[.int .i64 a0, .slice A1 l.length c1] 38 (0, 0)) by rw [hwb, hn1]; simpa only [World.size_alloc] using heap_alloc_new (w.alloc (.cells #[.int .i64 a0, .slice A0 l.length c0] 38)) (.cells #[.int .i64 a0, .slice A1 l.length c1] 38 (0, 0)))
  have HB := Aside0.mk (show Below w.heap.size w wb by rw [hwb]; exact below_alloc (below_alloc (Below.refl _ _) _) _)
  rw [← hwb, ← hn1, ← hn0]
  clear hwb hn0 hn1 ea eb ec ed
  go_wp2_with fail
  go_loopg [5] (l.length + 1) (fun kq v5 w' => ∃ (i : Nat), v5 = .int .i64 (i : Int) ∧ Aside0 (i ≤ l.length ∧ (kq : Int) + i = l.length + 1) ∧ Aside0 (Below wb.heap.size wb w'))
  case atStart => exact ⟨0, rfl, ⟨by omega⟩, ⟨Below.refl _ _⟩⟩
  case round =>
    obtain ⟨i, rfl, HX, HBW⟩ := hrel
    cases gk with
    | zero => have := HX.out; omega
    | succ k1 =>
      have m0 : wr.cell? ⟨n0, 1, none⟩ = some (.slice A0 l.length c0) := (wharfagelaw0_SameConfig.cn_cell (wharfagelaw0_SameConfig.cn_below H0.out HBW.out)).trans rfl
      by_cases c3 : (i : Int) < (l.length : Int)
      · have c3b := decide_eq_true c3
        have p1 : (0 : Int) ≤ (i : Int) := by omega
        have p1b := decide_eq_true p1
        obtain ⟨ad, A9, c9, ea, hx0, hx1, hx2, hx3, hlx, hix⟩ := at_T63 (Kd.C_below HR0.out (below_step HB.out HBW.out)) (i : Int) p1 c3
        obtain ⟨bd, B9, d9, eb, hy0, hy1, hy2, hy3, hly, hiy⟩ := at_T63 (Kd.C_below HR1.out (below_step HB.out HBW.out)) (i : Int) p1 c3
        cases ea
        cases eb
        obtain ⟨x, hx⟩ : ∃ x, rd_T63 l (i : Int) = x := ⟨_, rfl⟩
        have HXK := Aside0.mk (show x.f3.length < k ∧ x.f3.length < 8796093022208 by
          have hlt : i < l.length := by omega
          have e9 : rd_T63 l (i : Int) = l[i] := by simp [rd_T63, hlt]
          rw [← hx, e9]
          exact HK.out _ (List.getElem_mem hlt))
        rw [hx] at hx0 hx1 hx2 hx3 hlx hix hy0 hy1 hy2 hy3 hly hiy
        rw [Int.toNat_natCast] at hx0 hx1 hx2 hx3 hy0 hy1 hy2 hy3
        have HX0 := Aside0.mk hx0
        have HX1 := Aside0.mk hx1
        have HX2 := Aside0.mk hx2
        have HX3 := Aside0.mk hx3
        have HY0 := Aside0.mk hy0
        have HY1 := Aside0.mk hy1
        have HY2 := Aside0.mk hy2
        have HY3 := Aside0.mk hy3
        have HLX := Aside0.mk hlx
        have HIX := Aside0.mk hix
        have HLY := Aside0.mk hly
        have HIY := Aside0.mk hiy
        have c3' := eq_true c3
        have p1' := eq_true p1
        have hlen := hix.1
        clear hx hx0 hx1 hx2 hx3 hy0 hy1 hy2 hy3 hlx hix hly hiy
        go_upto_region 6 with fail
        refine start_ (n := 14) (S := fun w' => True) (ds := []) #[false, false, false, false, false, false, false, false, false, false, false, false, false, false] (by kernel_rfl) rfl rfl trivial (fun hHeld => ?_); refine with_tabW wharfagelaw0_SameConfig.tab6 wharfagelaw0_SameConfig.bits6 (fun HT_ HW_ => ?_)
        refine inv_at [0, 1, 2, 3, 4, 5, 6, 7, 8, 9, 10, 11, 12, 13] (fun a0_ b a w' => ∃ (gx gy : Nat), a = putSel a0_ b [(0, 29, .pointer (some ⟨n0, 1, none⟩)), (1, 30, .slice (some ad) l.length c0), (2, 31, .int .i64 (i : Int)), (3, 32, .pointer (some (ad.add (i * 4)))), (4, 33, .agg #[.int .i64 x.f0, .bool x.f1, .int .i64 x.f2, .slice A9 x.f3.length c9]), (5, 34, .pointer (some ⟨n1, 1, none⟩)), (6, 35, .slice (some bd) l.length c1), (7, 36, .int .i64 (i : Int)), (8, 37, .pointer (some (bd.add (i * 4)))), (9, 38, .agg #[.int .i64 x.f0, .bool x.f1, .int .i64 x.f2, .slice B9 x.f3.length d9]), (10, 6, .pointer (some ⟨gx, 0, none⟩)), (11, 7, .pointer (some ⟨gy, 0, none⟩))] ∧ Below wr.heap.size wr w' ∧ (b 10 = true → wr.heap.size ≤ gx) ∧ (b 11 = true → wr.heap.size ≤ gy) ∧ (b 10 = true → b 11 = true → gx ≠ gy) ∧ (b 10 = true → b 12 = false → w'.heap[gx]? = some (.cells #[.int .i64 0, .bool false, .int .i64 0, .slice none 0 0] 63 (0, 0))) ∧ (b 12 = true → w'.heap[gx]? = some (.cells #[.int .i64 x.f0, .bool x.f1, .int .i64 x.f2, .slice A9 x.f3.length c9] 63 (0, 0))) ∧ (b 11 = true → b 13 = false → w'.heap[gy]? = some (.cells #[.int .i64 0, .bool false, .int .i64 0, .slice none 0 0] 63 (0, 0))) ∧ (b 13 = true → w'.heap[gy]? = some (.cells #[.int .i64 x.f0, .bool x.f1, .int .i64 x.f2, .slice B9 x.f3.length d9] 63 (0, 0)))) HT_.out HW_.out (by kernel_rfl) (by kernel_rfl) ?_ ?_ ?_
        · exact ⟨0, 0, by simp only [putSel, Bool.false_eq_true, if_false], below_drew1 (Below.refl _ _), fun h_ => absurd h_ (by decide), fun h_ => absurd h_ (by decide), fun h_ => absurd h_ (by decide), fun h_ => absurd h_ (by decide), fun h_ => absurd h_ (by decide), fun h_ => absurd h_ (by decide), fun h_ => absurd h_ (by decide)⟩
        · skip
          refine steps_cons ?_ ?_
          · rintro b a w' ⟨gx, gy, ha, QB, GX, GY, NE, X0, X1, Y0, Y1⟩ hb_ hon hoff
            refine ⟨_, rfl, fun K hK => ?_⟩
            have e2 : a.tmps[2]? = some (.pointer (some ⟨n0, 0, none⟩)) := by rw [ha]; exact (putSel_off rfl).trans rfl
            replace ha := Aside0.mk ha
            refine value_ (w1 := w') (v := .pointer (some ⟨n0, 1, none⟩)) (by rfl) rfl ?_ ?_
            · go_simp
              try rfl
            exact hK.out _ _ ⟨gx, gy, (by rw [ha.out]; exact putSel_upk 0 hb_ rfl rfl rfl), QB, GX, GY, NE, X0, X1, Y0, Y1⟩
          refine steps_cons ?_ ?_
          · rintro b a w' ⟨gx, gy, ha, QB, GX, GY, NE, X0, X1, Y0, Y1⟩ hb_ hon hoff
            refine ⟨_, rfl, fun K hK => ?_⟩
            have e29 : a.tmps[29]? = some (.pointer (some ⟨n0, 1, none⟩)) := by rw [ha]; exact putSel_on (e := (0, 29, .pointer (some ⟨n0, 1, none⟩))) 0 rfl rfl (hon 0 (by kernel_rfl)) rfl
            have q1 : w'.cell? ⟨n0, 1, none⟩ = some (.slice (some ad) l.length c0) := (wharfagelaw0_SameConfig.cn_cell (wharfagelaw0_SameConfig.cn_below H0.out (below_step HBW.out QB))).trans rfl
            replace ha := Aside0.mk ha
            refine value_ (w1 := w') (v := .slice (some ad) l.length c0) (by rfl) rfl ?_ ?_
            · go_simp
              try rfl
            exact hK.out _ _ ⟨gx, gy, (by rw [ha.out]; exact putSel_upk 1 hb_ rfl rfl rfl), QB, GX, GY, NE, X0, X1, Y0, Y1⟩
          refine steps_cons ?_ ?_
          · rintro b a w' ⟨gx, gy, ha, QB, GX, GY, NE, X0, X1, Y0, Y1⟩ hb_ hon hoff
            refine ⟨_, rfl, fun K hK => ?_⟩
            have e5 : a.tmps[5]? = some (.int .i64 (i : Int)) := by rw [ha]; exact (putSel_off rfl).trans rfl
            replace ha := Aside0.mk ha
            refine value_ (w1 := w') (v := .int .i64 (i : Int)) (by rfl) rfl ?_ ?_
            · go_simp
              try rfl
            exact hK.out _ _ ⟨gx, gy, (by rw [ha.out]; exact putSel_upk 2 hb_ rfl rfl rfl), QB, GX, GY, NE, X0, X1, Y0, Y1⟩
          refine steps_cons ?_ ?_
          · rintro b a w' ⟨gx, gy, ha, QB, GX, GY, NE, X0, X1, Y0, Y1⟩ hb_ hon hoff
            refine ⟨_, rfl, fun K hK => ?_⟩
            have e30 : a.tmps[30]? = some (.slice (some ad) l.length c0) := by rw [ha]; exact putSel_on (e := (1, 30, .slice (some ad) l.length c0)) 1 rfl rfl (hon 1 (by kernel_rfl)) rfl
            have e31 : a.tmps[31]? = some (.int .i64 (i : Int)) := by rw [ha]; exact putSel_on (e := (2, 31, .int .i64 (i : Int))) 2 rfl rfl (hon 2 (by kernel_rfl)) rfl
            replace ha := Aside0.mk ha
            refine value_ (w1 := w') (v := .pointer (some (ad.add (i * 4)))) (by rfl) rfl ?_ ?_
            · go_simp
              try rfl
            exact hK.out _ _ ⟨gx, gy, (by rw [ha.out]; exact putSel_upk 3 hb_ rfl rfl rfl), QB, GX, GY, NE, X0, X1, Y0, Y1⟩
          refine steps_cons ?_ ?_
          · rintro b a w' ⟨gx, gy, ha, QB, GX, GY, NE, X0, X1, Y0, Y1⟩ hb_ hon hoff
            refine ⟨_, rfl, fun K hK => ?_⟩
            have e32 : a.tmps[32]? = some (.pointer (some (ad.add (i * 4)))) := by rw [ha]; exact putSel_on (e := (3, 32, .pointer (some (ad.add (i * 4))))) 3 rfl rfl (hon 3 (by kernel_rfl)) rfl
            have hx0 := pw_cell_below QB HX0.out
            have hx1 := pw_cell_below QB HX1.out
            have hx2 := pw_cell_below QB HX2.out
            have hx3 := pw_cell_below QB HX3.out
            replace ha := Aside0.mk ha
            refine value_ (w1 := w') (v := .agg #[.int .i64 x.f0, .bool x.f1, .int .i64 x.f2, .slice A9 x.f3.length c9]) (by rfl) rfl ?_ ?_
            · go_simp
              try rfl
            exact hK.out _ _ ⟨gx, gy, (by rw [ha.out]; exact putSel_upk 4 hb_ rfl rfl rfl), QB, GX, GY, NE, X0, X1, Y0, Y1⟩
          refine steps_cons ?_ ?_
          · rintro b a w' ⟨gx, gy, ha, QB, GX, GY, NE, X0, X1, Y0, Y1⟩ hb_ hon hoff
            refine ⟨_, rfl, fun K hK => ?_⟩
            have e3 : a.tmps[3]? = some (.pointer (some ⟨n1, 0, none⟩)) := by rw [ha]; exact (putSel_off rfl).trans rfl
            replace ha := Aside0.mk ha
            refine value_ (w1 := w') (v := .pointer (some ⟨n1, 1, none⟩)) (by rfl) rfl ?_ ?_
            · go_simp
              try rfl
            exact hK.out _ _ ⟨gx, gy, (by rw [ha.out]; exact putSel_upk 5 hb_ rfl rfl rfl), QB, GX, GY, NE, X0, X1, Y0, Y1⟩
          refine steps_cons ?_ ?_
          · rintro b a w' ⟨gx, gy, ha, QB, GX, GY, NE, X0, X1, Y0, Y1⟩ hb_ hon hoff
            refine ⟨_, rfl, fun K hK => ?_⟩
            have e34 : a.tmps[34]? = some (.pointer (some ⟨n1, 1, none⟩)) := by rw [ha]; exact putSel_on (e := (5, 34, .pointer (some ⟨n1, 1, none⟩))) 5 rfl rfl (hon 5 (by kernel_rfl)) rfl
            have q1 : w'.cell? ⟨n1, 1, none⟩ = some (.slice (some bd) l.length c1) := (wharfagelaw0_SameConfig.cn_cell (wharfagelaw0_SameConfig.cn_below H1.out (below_step HBW.out QB))).trans rfl
            replace ha := Aside0.mk ha
            refine value_ (w1 := w') (v := .slice (some bd) l.length c1) (by rfl) rfl ?_ ?_
            · go_simp
              try rfl
            exact hK.out _ _ ⟨gx, gy, (by rw [ha.out]; exact putSel_upk 6 hb_ rfl rfl rfl), QB, GX, GY, NE, X0, X1, Y0, Y1⟩
          refine steps_cons ?_ ?_
          · rintro b a w' ⟨gx, gy, ha, QB, GX, GY, NE, X0, X1, Y0, Y1⟩ hb_ hon hoff
            refine ⟨_, rfl, fun K hK => ?_⟩
            have e5 : a.tmps[5]? = some (.int .i64 (i : Int)) := by rw [ha]; exact (putSel_off rfl).trans rfl
            replace ha := Aside0.mk ha
            refine value_ (w1 := w') (v := .int .i64 (i : Int)) (by rfl) rfl ?_ ?_
            · go_simp
              try rfl
            exact hK.out _ _ ⟨gx, gy, (by rw [ha.out]; exact putSel_upk 7 hb_ rfl rfl rfl), QB, GX, GY, NE, X0, X1, Y0, Y1⟩
          refine steps_cons ?_ ?_
          · rintro b a w' ⟨gx, gy, ha, QB, GX, GY, NE, X0, X1, Y0, Y1⟩ hb_ hon hoff
            refine ⟨_, rfl, fun K hK => ?_⟩
            have e35 : a.tmps[35]? = some (.slice (some bd) l.length c1) := by rw [ha]; exact putSel_on (e := (6, 35, .slice (some bd) l.length c1)) 6 rfl rfl (hon 6 (by kernel_rfl)) rfl
            have e36 : a.tmps[36]? = some (.int .i64 (i : Int)) := by rw [ha]; exact putSel_on (e := (7, 36, .int .i64 (i : Int))) 7 rfl rfl (hon 7 (by kernel_rfl)) rfl
            replace ha := Aside0.mk ha
            refine value_ (w1 := w') (v := .pointer (some (bd.add (i * 4)))) (by rfl) rfl ?_ ?_
            · go_simp
              try rfl
            exact hK.out _ _ ⟨gx, gy, (by rw [ha.out]; exact putSel_upk 8 hb_ rfl rfl rfl), QB, GX, GY, NE, X0, X1, Y0, Y1⟩
          refine steps_cons ?_ ?_
          · rintro b a w' ⟨gx, gy, ha, QB, GX, GY, NE, X0, X1, Y0, Y1⟩ hb_ hon hoff
            refine ⟨_, rfl, fun K hK => ?_⟩
            have e37 : a.tmps[37]? = some (.pointer (some (bd.add (i * 4)))) := by rw [ha]; exact putSel_on (e := (8, 37, .pointer (some (bd.add (i * 4))))) 8 rfl rfl (hon 8 (by kernel_rfl)) rfl
            have hx0 := pw_cell_below QB HY0.out
            have hx1 := pw_cell_below QB HY1.out
            have hx2 := pw_cell_below QB HY2.out
            have hx3 := pw_cell_below QB HY3.out
            replace ha := Aside0.mk ha
            refine value_ (w1 := w') (v := .agg #[.int .i64 x.f0, .bool x.f1, .int .i64 x.f2, .slice B9 x.f3.length d9]) (by rfl) rfl ?_ ?_
            · go_simp
              try rfl
            exact hK.out _ _ ⟨gx, gy, (by rw [ha.out]; exact putSel_upk 9 hb_ rfl rfl rfl), QB, GX, GY, NE, X0, X1, Y0, Y1⟩
          refine steps_cons ?_ ?_
          · rintro b a w' ⟨gx, gy, ha, QB, GX, GY, NE, X0, X1, Y0, Y1⟩ hb_ hon hoff
            refine ⟨_, rfl, fun K hK => ?_⟩
            replace ha := Aside0.mk ha
            refine value_ (w1 := w'.alloc (.cells #[.int .i64 0, .bool false, .int .i64 0, .slice none 0 0] 63)) (v := .pointer (some ⟨w'.heap.size, 0, none⟩)) (by rfl) rfl ?_ ?_
            · go_simp
              try rfl
            exact hK.out _ _ ⟨w'.heap.size, gy, (by rw [ha.out]; exact putSel_upk 10 hb_ rfl rfl rfl), below_alloc QB _, fun _ => below_size QB, GY, fun _ h2_ => Nat.ne_of_gt (wharfagelaw0_SameConfig.cn_lt (Y0 h2_ (hoff 13 (by kernel_rfl)))), fun _ _ => heap_alloc_new w' _, fun h_ => absurd ((hoff 12 (by kernel_rfl)).symm.trans h_) (by decide), fun h1_ h2_ => wharfagelaw0_SameConfig.cn_alloc (Y0 h1_ h2_) _, fun h_ => absurd ((hoff 13 (by kernel_rfl)).symm.trans h_) (by decide)⟩
          refine steps_cons ?_ ?_
          · rintro b a w' ⟨gx, gy, ha, QB, GX, GY, NE, X0, X1, Y0, Y1⟩ hb_ hon hoff
            refine ⟨_, rfl, fun K hK => ?_⟩
            replace ha := Aside0.mk ha
            refine value_ (w1 := w'.alloc (.cells #[.int .i64 0, .bool false, .int .i64 0, .slice none 0 0] 63)) (v := .pointer (some ⟨w'.heap.size, 0, none⟩)) (by rfl) rfl ?_ ?_
            · go_simp
              try rfl
            exact hK.out _ _ ⟨gx, w'.heap.size, (by rw [ha.out]; exact putSel_upk 11 hb_ rfl rfl rfl), below_alloc QB _, GX, fun _ => below_size QB, fun h1_ _ => Nat.ne_of_lt (wharfagelaw0_SameConfig.cn_lt (X0 h1_ (hoff 12 (by kernel_rfl)))), fun h1_ h2_ => wharfagelaw0_SameConfig.cn_alloc (X0 h1_ h2_) _, fun h_ => absurd ((hoff 12 (by kernel_rfl)).symm.trans h_) (by decide), fun _ _ => heap_alloc_new w' _, fun h_ => absurd ((hoff 13 (by kernel_rfl)).symm.trans h_) (by decide)⟩
          refine steps_cons ?_ ?_
          · rintro b a w' ⟨gx, gy, ha, QB, GX, GY, NE, X0, X1, Y0, Y1⟩ hb_ hon hoff
            refine ⟨_, rfl, fun K hK => ?_⟩
            have e33 : a.tmps[33]? = some (.agg #[.int .i64 x.f0, .bool x.f1, .int .i64 x.f2, .slice A9 x.f3.length c9]) := by rw [ha]; exact putSel_on (e := (4, 33, .agg #[.int .i64 x.f0, .bool x.f1, .int .i64 x.f2, .slice A9 x.f3.length c9])) 4 rfl rfl (hon 4 (by kernel_rfl)) rfl
            have e6 : a.tmps[6]? = some (.pointer (some ⟨gx, 0, none⟩)) := by rw [ha]; exact putSel_on (e := (10, 6, .pointer (some ⟨gx, 0, none⟩))) 10 rfl rfl (hon 10 (by kernel_rfl)) rfl
            replace ha := Aside0.mk ha
            have g0 := X0 (hon 10 (by kernel_rfl)) hb_
            have o0 := Y0 (hon 11 (by kernel_rfl)) (hoff 13 (by kernel_rfl))
            have ne := NE (hon 10 (by kernel_rfl)) (hon 11 (by kernel_rfl))
            have ge := GX (hon 10 (by kernel_rfl))
            have z0 : w'.cell? ⟨gx, 0, none⟩ = some (.int .i64 0) := (wharfagelaw0_SameConfig.cn_cell g0).trans rfl
            have y0 : w'.frozen? ⟨gx, 0, none⟩ = false := wharfagelaw0_SameConfig.cn_free g0
            have z1 : w'.cell? ⟨gx, 1, none⟩ = some (.bool false) := (wharfagelaw0_SameConfig.cn_cell g0).trans rfl
            have y1 : w'.frozen? ⟨gx, 1, none⟩ = false := wharfagelaw0_SameConfig.cn_free g0
            have z2 : w'.cell? ⟨gx, 2, none⟩ = some (.int .i64 0) := (wharfagelaw0_SameConfig.cn_cell g0).trans rfl
            have y2 : w'.frozen? ⟨gx, 2, none⟩ = false := wharfagelaw0_SameConfig.cn_free g0
            have z3 : w'.cell? ⟨gx, 3, none⟩ = some (.slice none 0 0) := (wharfagelaw0_SameConfig.cn_cell g0).trans rfl
            have y3 : w'.frozen? ⟨gx, 3, none⟩ = false := wharfagelaw0_SameConfig.cn_free g0
            have hgo := Aside0.mk (And.intro g0 (And.intro o0 (And.intro ne ge)))
            clear g0 o0 ne ge
            refine skip_ (w1 := ((((w'.setCell ⟨gx, 0, none⟩ (.int .i64 x.f0)).setCell ⟨gx, 1, none⟩ (.bool x.f1)).setCell ⟨gx, 2, none⟩ (.int .i64 x.f2)).setCell ⟨gx, 3, none⟩ (.slice A9 x.f3.length c9))) (by rfl) rfl ?_ ?_
            · go_simp
              try rfl
            obtain ⟨g0, o0, ne, ge⟩ := hgo.out
            exact hK.out _ _ ⟨gx, gy, (by rw [ha.out]; exact (putSel_same rfl).symm), below_set (below_set (below_set (below_set QB ge) ge) ge) ge, GX, GY, NE, fun _ h_ => absurd ((up_self b 12).symm.trans h_) (by decide), fun _ => (by refine blk_put (cs := #[.int .i64 x.f0, .bool x.f1, .int .i64 x.f2, .slice none 0 0]) ?_ 3 _ rfl; refine blk_put (cs := #[.int .i64 x.f0, .bool x.f1, .int .i64 0, .slice none 0 0]) ?_ 2 _ rfl; refine blk_put (cs := #[.int .i64 x.f0, .bool false, .int .i64 0, .slice none 0 0]) ?_ 1 _ rfl; refine blk_put (cs := #[.int .i64 0, .bool false, .int .i64 0, .slice none 0 0]) ?_ 0 _ rfl; exact g0), fun _ _ => (blk_far (blk_far (blk_far (blk_far (o0) (Ne.symm ne) _) (Ne.symm ne) _) (Ne.symm ne) _) (Ne.symm ne) _), fun h_ => absurd ((hoff 13 (by kernel_rfl)).symm.trans h_) (by decide)⟩
          refine steps_cons ?_ ?_
          · rintro b a w' ⟨gx, gy, ha, QB, GX, GY, NE, X0, X1, Y0, Y1⟩ hb_ hon hoff
            refine ⟨_, rfl, fun K hK => ?_⟩
            have e38 : a.tmps[38]? = some (.agg #[.int .i64 x.f0, .bool x.f1, .int .i64 x.f2, .slice B9 x.f3.length d9]) := by rw [ha]; exact putSel_on (e := (9, 38, .agg #[.int .i64 x.f0, .bool x.f1, .int .i64 x.f2, .slice B9 x.f3.length d9])) 9 rfl rfl (hon 9 (by kernel_rfl)) rfl
            have e7 : a.tmps[7]? = some (.pointer (some ⟨gy, 0, none⟩)) := by rw [ha]; exact putSel_on (e := (11, 7, .pointer (some ⟨gy, 0, none⟩))) 11 rfl rfl (hon 11 (by kernel_rfl)) rfl
            replace ha := Aside0.mk ha
            have g0 := Y0 (hon 11 (by kernel_rfl)) hb_
            have o0 := X1 (hon 12 (by kernel_rfl))
            have ne := NE (hon 10 (by kernel_rfl)) (hon 11 (by kernel_rfl))
            have ge := GY (hon 11 (by kernel_rfl))
            have z0 : w'.cell? ⟨gy, 0, none⟩ = some (.int .i64 0) := (wharfagelaw0_SameConfig.cn_cell g0).trans rfl
            have y0 : w'.frozen? ⟨gy, 0, none⟩ = false := wharfagelaw0_SameConfig.cn_free g0
            have z1 : w'.cell? ⟨gy, 1, none⟩ = some (.bool false) := (wharfagelaw0_SameConfig.cn_cell g0).trans rfl
            have y1 : w'.frozen? ⟨gy, 1, none⟩ = false := wharfagelaw0_SameConfig.cn_free g0
            have z2 : w'.cell? ⟨gy, 2, none⟩ = some (.int .i64 0) := (wharfagelaw0_SameConfig.cn_cell g0).trans rfl
            have y2 : w'.frozen? ⟨gy, 2, none⟩ = false := wharfagelaw0_SameConfig.cn_free g0
            have z3 : w'.cell? ⟨gy, 3, none⟩ = some (.slice none 0 0) := (wharfagelaw0_SameConfig.cn_cell g0).trans rfl
            have y3 : w'.frozen? ⟨gy, 3, none⟩ = false := wharfagelaw0_SameConfig.cn_free g0
            have hgo := Aside0.mk (And.intro g0 (And.intro o0 (And.intro ne ge)))
            clear g0 o0 ne ge
            refine skip_ (w1 := ((((w'.setCell ⟨gy, 0, none⟩ (.int .i64 x.f0)).setCell ⟨gy, 1, none⟩ (.bool x.f1)).setCell ⟨gy, 2, none⟩ (.int .i64 x.f2)).setCell ⟨gy, 3, none⟩ (.slice B9 x.f3.length d9))) (by rfl) rfl ?_ ?_
            · go_simp
              try rfl
            obtain ⟨g0, o0, ne, ge⟩ := hgo.out
            exact hK.out _ _ ⟨gx, gy, (by rw [ha.out]; exact (putSel_same rfl).symm), below_set (below_set (below_set (below_set QB ge) ge) ge) ge, GX, GY, NE, fun _ h_ => absurd ((hon 12 (by kernel_rfl)).symm.trans h_) (by decide), fun _ => (blk_far (blk_far (blk_far (blk_far (o0) ne _) ne _) ne _) ne _), fun _ h_ => absurd ((up_self b 13).symm.trans h_) (by decide), fun _ => (by refine blk_put (cs := #[.int .i64 x.f0, .bool x.f1, .int .i64 x.f2, .slice none 0 0]) ?_ 3 _ rfl; refine blk_put (cs := #[.int .i64 x.f0, .bool x.f1, .int .i64 0, .slice none 0 0]) ?_ 2 _ rfl; refine blk_put (cs := #[.int .i64 x.f0, .bool false, .int .i64 0, .slice none 0 0]) ?_ 1 _ rfl; refine blk_put (cs := #[.int .i64 0, .bool false, .int .i64 0, .slice none 0 0]) ?_ 0 _ rfl; exact g0)⟩
          exact steps_nil
        rintro b a wx hall ⟨gx, gy, ha, QB, GX, GY, NE, X0, X1, Y0, Y1⟩
        have hb0_ := hall 0 (by kernel_rfl)
        have hb1_ := hall 1 (by kernel_rfl)
        have hb2_ := hall 2 (by kernel_rfl)
        have hb3_ := hall 3 (by kernel_rfl)
        have hb4_ := hall 4 (by kernel_rfl)
        have hb5_ := hall 5 (by kernel_rfl)
        have hb6_ := hall 6 (by kernel_rfl)
        have hb7_ := hall 7 (by kernel_rfl)
        have hb8_ := hall 8 (by kernel_rfl)
        have hb9_ := hall 9 (by kernel_rfl)
        have hb10_ := hall 10 (by kernel_rfl)
        have hb11_ := hall 11 (by kernel_rfl)
        have hb12_ := hall 12 (by kernel_rfl)
        have hb13_ := hall 13 (by kernel_rfl)
        subst ha
        simp only [putSel, hb0_, hb1_, hb2_, hb3_, hb4_, hb5_, hb6_, hb7_, hb8_, hb9_, hb10_, hb11_, if_true, Act.put, List.setIfInBounds_toArray, List.set_cons_zero, List.set_cons_succ]
        have BXX := Aside0.mk (X1 hb12_)
        have BYY := Aside0.mk (Y1 hb13_)
        have HBX := Aside0.mk (below_step HBW.out QB)
        have u0 : wx.cell? ⟨gx, 0, none⟩ = some (.int .i64 x.f0) := (blk_cell BXX.out 0).trans rfl
        have v0 : wx.cell? ⟨gy, 0, none⟩ = some (.int .i64 x.f0) := (blk_cell BYY.out 0).trans rfl
        have u1 : wx.cell? ⟨gx, 1, none⟩ = some (.bool x.f1) := (blk_cell BXX.out 1).trans rfl
        have v1 : wx.cell? ⟨gy, 1, none⟩ = some (.bool x.f1) := (blk_cell BYY.out 1).trans rfl
        have u2 : wx.cell? ⟨gx, 2, none⟩ = some (.int .i64 x.f2) := (blk_cell BXX.out 2).trans rfl
        have v2 : wx.cell? ⟨gy, 2, none⟩ = some (.int .i64 x.f2) := (blk_cell BYY.out 2).trans rfl
        have u3 : wx.cell? ⟨gx, 3, none⟩ = some (.slice A9 x.f3.length c9) := (blk_cell BXX.out 3).trans rfl
        have v3 : wx.cell? ⟨gy, 3, none⟩ = some (.slice B9 x.f3.length d9) := (blk_cell BYY.out 3).trans rfl
        have e1 : (x.f0 != x.f0) = false := bne_self_eq_false _
        have e2 : (x.f0 == x.f0) = true := beq_self_eq_true _
        have e3 : (x.f1 != x.f1) = false := bne_self_eq_false _
        have e4 : (x.f1 == x.f1) = true := beq_self_eq_true _
        have e5 : (x.f2 != x.f2) = false := bne_self_eq_false _
        have e6 : (x.f2 == x.f2) = true := beq_self_eq_true _
        have HQB := Aside0.mk QB
        clear GX GY NE X0 X1 Y0 Y1 QB
        go_wp2_with (go_at_call 47; refine (wharfagelaw0_SameBacks.calls k A9 c9 x.f3 B9 d9 x.f3 true _ (Kd.C_below HIX.out HQB.out) HLX.out (Kd.C_below HIY.out HQB.out) HLY.out (wharfagelaw0_SameConfig.backs_f x.f3 (by have h2 := HXK.out.2; omega) k HXK.out.1)).mono ?_; rintro e w5 ⟨rfl, hn⟩; have hb := Go.Proofs.YtnojgkiaolmoeaaDoor.Hand.hk_drawn hn; clear hn; replace HBX := Aside0.mk (below_step HBX.out hb); clear hb u0 u1 u2 u3 v0 v1 v2 v3)
        go_roundg k1
        case measure => have := HX.out; omega
        case rel =>
          have h1 := HX.out
          have h2 := HLL.out
          exact ⟨i + 1, by rw [show wrap64 ((i : Int) + 1) = ((i + 1 : Nat) : Int) by unfold wrap64; omega], ⟨by omega⟩, HBX⟩
      · have c3b := decide_eq_false c3
        go_wp2_with fail
        go_ret
        exact ⟨rfl, below_step HB.out HBW.out⟩


end Go.Proofs.YtnojgkiaolmoeaaDoor.PSc
end
section
/- Contracts: what calls of these functions of the program do, each as a plain function; written by a program of this session. -/
namespace Go.Proofs.YtnojgkiaolmoeaaDoor.PSc
open Go.RowKit Go.Proofs.YtnojgkiaolmoeaaDoorW.PrintWords Go.Proofs.YtnojgkiaolmoeaaDoorW.PrintLast Go.Proofs.YtnojgkiaolmoeaaDoorW.PrintMore
attribute [local go_sem] max2_int min2_int max_two min_two max_three min_three max_four min_four   -- for this text's walks alone
set_option linter.unusedVariables false
set_option linter.unusedSimpArgs false

/-! ### wharfagelaw0_SameActs: function 13, by hand -/
instance wharfagelaw0_SameActs.decC : DecidableEq S38 := fun a b => decidable_of_iff (a.f0 = b.f0 ∧ a.f1 = b.f1) (by cases a; cases b; simp)
instance wharfagelaw0_SameActs.decA : DecidableEq S40 := fun a b => decidable_of_iff (a.f0 = b.f0 ∧ a.f1 = b.f1 ∧ a.f2 = b.f2 ∧ a.f3 = b.f3 ∧ a.f4 = b.f4 ∧ a.f5 = b.f5 ∧ a.f6 = b.f6 ∧ a.f7 = b.f7 ∧ a.f8 = b.f8) (by cases a; cases b; simp)
def wharfagelaw0_SameActs.f (k : Nat) (l0 l1 : List S40) : Option Bool := if l0 = l1 ∧ l0.length < 2000000000000 ∧ (∀ x ∈ l0, x.f8.f1.length < 2932031007402 ∧ ∀ s ∈ x.f8.f1, s.f3.length < k ∧ s.f3.length < 8796093022208) then some true else none
theorem wharfagelaw0_SameActs.mono : ∀ a0 a1 k, LeO (wharfagelaw0_SameActs.f k a0 a1) (wharfagelaw0_SameActs.f (k + 1) a0 a1) := by
 intro a0 a1 k
 unfold wharfagelaw0_SameActs.f
 by_cases h : a0 = a1 ∧ a0.length < 2000000000000 ∧ (∀ x ∈ a0, x.f8.f1.length < 2932031007402 ∧ ∀ s ∈ x.f8.f1, s.f3.length < k ∧ s.f3.length < 8796093022208)
 ·rw [if_pos h, if_pos ⟨h.1, h.2.1, fun x hx => ⟨(h.2.2 x hx).1, fun s hs => ⟨Nat.lt_succ_of_lt ((h.2.2 x hx).2 s hs).1, ((h.2.2 x hx).2 s hs).2⟩⟩⟩]
  exact LeO.refl _
 ·rw [if_neg h]
  exact LeO.none _
theorem wharfagelaw0_SameActs.cn_lt {w : World} {b : Nat} {o : Obj} (h : w.heap[b]? = some o) : b < w.heap.size := (Array.getElem?_eq_some_iff.1 h).1
theorem wharfagelaw0_SameActs.cn_below {w w1 : World} {b : Nat} {o : Obj} (h : w.heap[b]? = some o) (hb : Below w.heap.size w w1) : w1.heap[b]? = some o := (hb.block b (wharfagelaw0_SameActs.cn_lt h)).trans h
theorem wharfagelaw0_SameActs.cn_alloc {w : World} {b : Nat} {o : Obj} (h : w.heap[b]? = some o) (o2 : Obj) : (w.alloc o2).heap[b]? = some o := (Below.heap_alloc w o2 _ (wharfagelaw0_SameActs.cn_lt h)).trans h
theorem wharfagelaw0_SameActs.cn_cell {w : World} {b j : Nat} {cs : Array Value} {t : TypeId} {m : Nat × Nat} (h : w.heap[b]? = some (.cells cs t m)) : w.cell? ⟨b, j, none⟩ = cs[j]? := by simp [World.cell?, h]
theorem wharfagelaw0_SameActs.cn_free {w : World} {b j : Nat} {cs : Array Value} {t : TypeId} (h : w.heap[b]? = some (.cells cs t (0, 0))) : w.frozen? ⟨b, j, none⟩ = false := by simp [World.frozen?, h]
theorem wharfagelaw0_SameActs.tab6 : rtab .any (opsOf Tryd.f13 6) = rtab .any (opsOf Tryd.f13 6) := rfl
def wharfagelaw0_SameActs.B6 : List Nat := [0, 0, 3, 7, 0, 0, 48, 112, 0, 0, 783, 2047]
theorem wharfagelaw0_SameActs.bits6 : waitsOk (rtab .any (opsOf Tryd.f13 6)).2 wharfagelaw0_SameActs.B6 = true := by kernel_rfl
set_option maxHeartbeats 8000000 in
set_option maxRecDepth 100000 in
theorem wharfagelaw0_SameActs.calls (k : Nat) (A0 : Option Addr) (c0 : Nat) (l : List S40) (A1 : Option Addr) (c1 : Nat) (l1 : List S40) (r : Bool) (w : World) (hr0 : Kd.C k40 w A0 l.length l) (hc0 : l.length ≤ c0) (hr1 : Kd.C k40 w A1 l1.length l1) (hc1 : l1.length ≤ c1) (h : wharfagelaw0_SameActs.f k l l1 = some r) :
    Calls Tryd.prog 13 #[.slice A0 l.length c0, .slice A1 l1.length c1] w fun e w' => e = .returned (.bool r) ∧ Below w.heap.size w w' := by
  unfold wharfagelaw0_SameActs.f at h
  by_cases hh : l = l1 ∧ l.length < 2000000000000 ∧ (∀ x ∈ l, x.f8.f1.length < 2932031007402 ∧ ∀ s ∈ x.f8.f1, s.f3.length < k ∧ s.f3.length < 8796093022208)
  case neg => rw [if_neg hh] at h; cases h
  rw [if_pos hh] at h
  obtain rfl : true = r := Option.some.inj h
  obtain ⟨rfl, hll, hk⟩ := hh
  have hu := Tryd.underlying40
  have hu2 := Tryd.underlying38
  have HLL := Aside0.mk hll
  have HR0 := Aside0.mk hr0
  have HR1 := Aside0.mk hr1
  have HK := Aside0.mk hk
  clear hr0 hr1 h hk hc0 hc1 hll
  have ec : ((l.length : Int) != (l.length : Int)) = false := bne_self_eq_false _
  have ed : ((l.length : Int) == (l.length : Int)) = true := beq_self_eq_true _
  go_enter Tryd.func13, Tryd.ntmps13
  go_wp2_with fail
  go_loopg [5] (l.length + 1) (fun kq v5 w' => ∃ (i : Nat), v5 = .int .i64 (i : Int) ∧ Aside0 (i ≤ l.length ∧ (kq : Int) + i = l.length + 1) ∧ Aside0 (Below w.heap.size w w'))
  case atStart => exact ⟨0, rfl, ⟨by omega⟩, ⟨Below.refl _ _⟩⟩
  case round =>
    obtain ⟨i, rfl, HX, HBW⟩ := hrel
    cases gk with
    | zero => have := HX.out; omega
    | succ k1 =>
      by_cases c3 : (i : Int) < (l.length : Int)
      · have c3b := decide_eq_true c3
        have p1 : (0 : Int) ≤ (i : Int) := by omega
        have p1b := decide_eq_true p1
        obtain ⟨ad, A9, c9, ea, hx0, hx1, hx2, hx3, hx4, hx5, hx6, hx7, hx8, hx9, hlx, hix⟩ := at_T40 (Kd.C_below HR0.out HBW.out) (i : Int) p1 c3
        obtain ⟨bd, B9, d9, eb, hy0, hy1, hy2, hy3, hy4, hy5, hy6, hy7, hy8, hy9, hly, hiy⟩ := at_T40 (Kd.C_below HR1.out HBW.out) (i : Int) p1 c3
        cases ea
        cases eb
        obtain ⟨x, hx⟩ : ∃ x, rd_T40 l (i : Int) = x := ⟨_, rfl⟩
        have HXK := Aside0.mk (show x.f8.f1.length < 2932031007402 ∧ ∀ s ∈ x.f8.f1, s.f3.length < k ∧ s.f3.length < 8796093022208 by
          have hlt : i < l.length := by omega
          have e9 : rd_T40 l (i : Int) = l[i] := by simp [rd_T40, hlt]
          rw [← hx, e9]
          exact HK.out _ (List.getElem_mem hlt))
        rw [hx] at hx0 hx1 hx2 hx3 hx4 hx5 hx6 hx7 hx8 hx9 hlx hix hy0 hy1 hy2 hy3 hy4 hy5 hy6 hy7 hy8 hy9 hly hiy
        rw [Int.toNat_natCast] at hx0 hx1 hx2 hx3 hx4 hx5 hx6 hx7 hx8 hx9 hy0 hy1 hy2 hy3 hy4 hy5 hy6 hy7 hy8 hy9
        have HX0 := Aside0.mk hx0
        have HY0 := Aside0.mk hy0
        have HX1 := Aside0.mk hx1
        have HY1 := Aside0.mk hy1
        have HX2 := Aside0.mk hx2
        have HY2 := Aside0.mk hy2
        have HX3 := Aside0.mk hx3
        have HY3 := Aside0.mk hy3
        have HX4 := Aside0.mk hx4
        have HY4 := Aside0.mk hy4
        have HX5 := Aside0.mk hx5
        have HY5 := Aside0.mk hy5
        have HX6 := Aside0.mk hx6
        have HY6 := Aside0.mk hy6
        have HX7 := Aside0.mk hx7
        have HY7 := Aside0.mk hy7
        have HX8 := Aside0.mk hx8
        have HY8 := Aside0.mk hy8
        have HX9 := Aside0.mk hx9
        have HY9 := Aside0.mk hy9
        have HLX := Aside0.mk hlx
        have HIX := Aside0.mk hix
        have HLY := Aside0.mk hly
        have HIY := Aside0.mk hiy
        have c3' := eq_true c3
        have p1' := eq_true p1
        clear hx hx0 hx1 hx2 hx3 hx4 hx5 hx6 hx7 hx8 hx9 hy0 hy1 hy2 hy3 hy4 hy5 hy6 hy7 hy8 hy9 hlx hix hly hiy
        go_upto_region 6 with fail
        refine start_ (n := 12) (S := fun w' => True) (ds := []) #[false, false, false, false, false, false, false, false, false, false, false, false] (by kernel_rfl) rfl rfl trivial (fun hHeld => ?_); refine with_tabW wharfagelaw0_SameActs.tab6 wharfagelaw0_SameActs.bits6 (fun HT_ HW_ => ?_)
        refine inv_at [0, 1, 2, 3, 4, 5, 6, 7, 8, 9, 10, 11] (fun a0_ b a w' => ∃ (gx gy : Nat), a = putSel a0_ b [(0, 19, .slice (some ad) l.length c0), (1, 20, .int .i64 (i : Int)), (2, 21, .pointer (some (ad.add (i * 10)))), (3, 22, .agg #[.int .i64 x.f0, .int .i64 x.f1, .int .i64 x.f2, .int .i64 x.f3, .int .i64 x.f4, .int .i64 x.f5, .bool x.f6, .string x.f7, .int .i64 x.f8.f0, .slice A9 x.f8.f1.length c9]), (4, 23, .slice (some bd) l.length c1), (5, 24, .int .i64 (i : Int)), (6, 25, .pointer (some (bd.add (i * 10)))), (7, 26, .agg #[.int .i64 x.f0, .int .i64 x.f1, .int .i64 x.f2, .int .i64 x.f3, .int .i64 x.f4, .int .i64 x.f5, .bool x.f6, .string x.f7, .int .i64 x.f8.f0, .slice B9 x.f8.f1.length d9]), (8, 6, .pointer (some ⟨gx, 0, none⟩)), (9, 7, .pointer (some ⟨gy, 0, none⟩))] ∧ Below wr.heap.size wr w' ∧ (b 8 = true → wr.heap.size ≤ gx) ∧ (b 9 = true → wr.heap.size ≤ gy) ∧ (b 8 = true → b 9 = true → gx ≠ gy) ∧ (b 8 = true → b 10 = false → w'.heap[gx]? = some (.cells #[.int .i64 0, .int .i64 0, .int .i64 0, .int .i64 0, .int .i64 0, .int .i64 0, .bool false, .string ⟨#[]⟩, .int .i64 0, .slice none 0 0] 40 (0, 0))) ∧ (b 10 = true → w'.heap[gx]? = some (.cells #[.int .i64 x.f0, .int .i64 x.f1, .int .i64 x.f2, .int .i64 x.f3, .int .i64 x.f4, .int .i64 x.f5, .bool x.f6, .string x.f7, .int .i64 x.f8.f0, .slice A9 x.f8.f1.length c9] 40 (0, 0))) ∧ (b 9 = true → b 11 = false → w'.heap[gy]? = some (.cells #[.int .i64 0, .int .i64 0, .int .i64 0, .int .i64 0, .int .i64 0, .int .i64 0, .bool false, .string ⟨#[]⟩, .int .i64 0, .slice none 0 0] 40 (0, 0))) ∧ (b 11 = true → w'.heap[gy]? = some (.cells #[.int .i64 x.f0, .int .i64 x.f1, .int .i64 x.f2, .int .i64 x.f3, .int .i64 x.f4, .int .i64 x.f5, .bool x.f6, .string x.f7, .int .i64 x.f8.f0, .slice B9 x.f8.f1.length d9] 40 (0, 0)))) HT_.out HW_.out (by kernel_rfl) (by kernel_rfl) ?_ ?_ ?_
        · exact ⟨0, 0, by simp only [putSel, Bool.false_eq_true, if_false], below_drew1 (Below.refl _ _), fun h_ => absurd h_ (by decide), fun h_ => absurd h_ (by decide), fun h_ => absurd h_ (by decide), fun h_ => absurd h_ (by decide), fun h_ => absurd h_ (by decide), fun h_ => absurd h_ (by decide), fun h_ => absurd h_ (by decide)⟩
        · skip
          refine steps_cons ?_ ?_
          · rintro b a w' ⟨gx, gy, ha, QB, GX, GY, NE, X0, X1, Y0, Y1⟩ hb_ hon hoff
            refine ⟨_, rfl, fun K hK => ?_⟩
            have e0 : a.tmps[0]? = some (.slice (some ad) l.length c0) := by rw [ha]; exact (putSel_off rfl).trans rfl
            replace ha := Aside0.mk ha
            refine value_ (w1 := w') (v := .slice (some ad) l.length c0) (by rfl) rfl ?_ ?_
            · go_simp
              try rfl
            exact hK.out _ _ ⟨gx, gy, (by rw [ha.out]; exact putSel_upk 0 hb_ rfl rfl rfl), QB, GX, GY, NE, X0, X1, Y0, Y1⟩
          refine steps_cons ?_ ?_
          · rintro b a w' ⟨gx, gy, ha, QB, GX, GY, NE, X0, X1, Y0, Y1⟩ hb_ hon hoff
            refine ⟨_, rfl, fun K hK => ?_⟩
            have e5 : a.tmps[5]? = some (.int .i64 (i : Int)) := by rw [ha]; exact (putSel_off rfl).trans rfl
            replace ha := Aside0.mk ha
            refine value_ (w1 := w') (v := .int .i64 (i : Int)) (by rfl) rfl ?_ ?_
            · go_simp
              try rfl
            exact hK.out _ _ ⟨gx, gy, (by rw [ha.out]; exact putSel_upk 1 hb_ rfl rfl rfl), QB, GX, GY, NE, X0, X1, Y0, Y1⟩
          refine steps_cons ?_ ?_
          · rintro b a w' ⟨gx, gy, ha, QB, GX, GY, NE, X0, X1, Y0, Y1⟩ hb_ hon hoff
            refine ⟨_, rfl, fun K hK => ?_⟩
            have e19 : a.tmps[19]? = some (.slice (some ad) l.length c0) := by rw [ha]; exact putSel_on (e := (0, 19, .slice (some ad) l.length c0)) 0 rfl rfl (hon 0 (by kernel_rfl)) rfl
            have e20 : a.tmps[20]? = some (.int .i64 (i : Int)) := by rw [ha]; exact putSel_on (e := (1, 20, .int .i64 (i : Int))) 1 rfl rfl (hon 1 (by kernel_rfl)) rfl
            replace ha := Aside0.mk ha
            refine value_ (w1 := w') (v := .pointer (some (ad.add (i * 10)))) (by rfl) rfl ?_ ?_
            · go_simp
              try rfl
            exact hK.out _ _ ⟨gx, gy, (by rw [ha.out]; exact putSel_upk 2 hb_ rfl rfl rfl), QB, GX, GY, NE, X0, X1, Y0, Y1⟩
          refine steps_cons ?_ ?_
          · rintro b a w' ⟨gx, gy, ha, QB, GX, GY, NE, X0, X1, Y0, Y1⟩ hb_ hon hoff
            refine ⟨_, rfl, fun K hK => ?_⟩
            have e21 : a.tmps[21]? = some (.pointer (some (ad.add (i * 10)))) := by rw [ha]; exact putSel_on (e := (2, 21, .pointer (some (ad.add (i * 10))))) 2 rfl rfl (hon 2 (by kernel_rfl)) rfl
            have hx0 := pw_cell_below QB HX0.out
            have hx1 := pw_cell_below QB HX1.out
            have hx2 := pw_cell_below QB HX2.out
            have hx3 := pw_cell_below QB HX3.out
            have hx4 := pw_cell_below QB HX4.out
            have hx5 := pw_cell_below QB HX5.out
            have hx6 := pw_cell_below QB HX6.out
            have hx7 := pw_cell_below QB HX7.out
            have hx8 := pw_cell_below QB HX8.out
            have hx9 := pw_cell_below QB HX9.out
            replace ha := Aside0.mk ha
            refine value_ (w1 := w') (v := .agg #[.int .i64 x.f0, .int .i64 x.f1, .int .i64 x.f2, .int .i64 x.f3, .int .i64 x.f4, .int .i64 x.f5, .bool x.f6, .string x.f7, .int .i64 x.f8.f0, .slice A9 x.f8.f1.length c9]) (by rfl) rfl ?_ ?_
            · go_simp
              try rfl
            exact hK.out _ _ ⟨gx, gy, (by rw [ha.out]; exact putSel_upk 3 hb_ rfl rfl rfl), QB, GX, GY, NE, X0, X1, Y0, Y1⟩
          refine steps_cons ?_ ?_
          · rintro b a w' ⟨gx, gy, ha, QB, GX, GY, NE, X0, X1, Y0, Y1⟩ hb_ hon hoff
            refine ⟨_, rfl, fun K hK => ?_⟩
            have e1 : a.tmps[1]? = some (.slice (some bd) l.length c1) := by rw [ha]; exact (putSel_off rfl).trans rfl
            replace ha := Aside0.mk ha
            refine value_ (w1 := w') (v := .slice (some bd) l.length c1) (by rfl) rfl ?_ ?_
            · go_simp
              try rfl
            exact hK.out _ _ ⟨gx, gy, (by rw [ha.out]; exact putSel_upk 4 hb_ rfl rfl rfl), QB, GX, GY, NE, X0, X1, Y0, Y1⟩
          refine steps_cons ?_ ?_
          · rintro b a w' ⟨gx, gy, ha, QB, GX, GY, NE, X0, X1, Y0, Y1⟩ hb_ hon hoff
            refine ⟨_, rfl, fun K hK => ?_⟩
            have e5 : a.tmps[5]? = some (.int .i64 (i : Int)) := by rw [ha]; exact (putSel_off rfl).trans rfl
            replace ha := Aside0.mk ha
            refine value_ (w1 := w') (v := .int .i64 (i : Int)) (by rfl) rfl ?_ ?_
            · go_simp
              try rfl
            exact hK.out _ _ ⟨gx, gy, (by rw [ha.out]; exact putSel_upk 5 hb_ rfl rfl rfl), QB, GX, GY, NE, X0, X1, Y0, Y1⟩
          refine steps_cons ?_ ?_
          · rintro b a w' ⟨gx, gy, ha, QB, GX, GY, NE, X0, X1, Y0, Y1⟩ hb_ hon hoff
            refine ⟨_, rfl, fun K hK => ?_⟩
            have e23 : a.tmps[23]? = some (.slice (some bd) l.length c1) := by rw [ha]; exact putSel_on (e := (4, 23, .slice (some bd) l.length c1)) 4 rfl rfl (hon 4 (by kernel_rfl)) rfl
            have e24 : a.tmps[24]? = some (.int .i64 (i : Int)) := by rw [ha]; exact putSel_on (e := (5, 24, .int .i64 (i : Int))) 5 rfl rfl (hon 5 (by kernel_rfl)) rfl
            replace ha := Aside0.mk ha
            refine value_ (w1 := w') (v := .pointer (some (bd.add (i * 10)))) (by rfl) rfl ?_ ?_
            · go_simp
              try rfl
            exact hK.out _ _ ⟨gx, gy, (by rw [ha.out]; exact putSel_upk 6 hb_ rfl rfl rfl), QB, GX, GY, NE, X0, X1, Y0, Y1⟩
          refine steps_cons ?_ ?_
          · rintro b a w' ⟨gx, gy, ha, QB, GX, GY, NE, X0, X1, Y0, Y1⟩ hb_ hon hoff
            refine ⟨_, rfl, fun K hK => ?_⟩
            have e25 : a.tmps[25]? = some (.pointer (some (bd.add (i * 10)))) := by rw [ha]; exact putSel_on (e := (6, 25, .pointer (some (bd.add (i * 10))))) 6 rfl rfl (hon 6 (by kernel_rfl)) rfl
            have hx0 := pw_cell_below QB HY0.out
            have hx1 := pw_cell_below QB HY1.out
            have hx2 := pw_cell_below QB HY2.out
            have hx3 := pw_cell_below QB HY3.out
            have hx4 := pw_cell_below QB HY4.out
            have hx5 := pw_cell_below QB HY5.out
            have hx6 := pw_cell_below QB HY6.out
            have hx7 := pw_cell_below QB HY7.out
            have hx8 := pw_cell_below QB HY8.out
            have hx9 := pw_cell_below QB HY9.out
            replace ha := Aside0.mk ha
            refine value_ (w1 := w') (v := .agg #[.int .i64 x.f0, .int .i64 x.f1, .int .i64 x.f2, .int .i64 x.f3, .int .i64 x.f4, .int .i64 x.f5, .bool x.f6, .string x.f7, .int .i64 x.f8.f0, .slice B9 x.f8.f1.length d9]) (by rfl) rfl ?_ ?_
            · go_simp
              try rfl
            exact hK.out _ _ ⟨gx, gy, (by rw [ha.out]; exact putSel_upk 7 hb_ rfl rfl rfl), QB, GX, GY, NE, X0, X1, Y0, Y1⟩
          refine steps_cons ?_ ?_
          · rintro b a w' ⟨gx, gy, ha, QB, GX, GY, NE, X0, X1, Y0, Y1⟩ hb_ hon hoff
            refine ⟨_, rfl, fun K hK => ?_⟩
            replace ha := Aside0.mk ha
            refine value_ (w1 := w'.alloc (.cells #[.int .i64 0, .int .i64 0, .int .i64 0, .int .i64 0, .int .i64 0, .int .i64 0, .bool false, .string ⟨#[]⟩, .int .i64 0, .slice none 0 0] 40)) (v := .pointer (some ⟨w'.heap.size, 0, none⟩)) (by rfl) rfl ?_ ?_
            · go_simp
              try rfl
            exact hK.out _ _ ⟨w'.heap.size, gy, (by rw [ha.out]; exact putSel_upk 8 hb_ rfl rfl rfl), below_alloc QB _, fun _ => below_size QB, GY, fun _ h2_ => Nat.ne_of_gt (wharfagelaw0_SameActs.cn_lt (Y0 h2_ (hoff 11 (by kernel_rfl)))), fun _ _ => heap_alloc_new w' _, fun h_ => absurd ((hoff 10 (by kernel_rfl)).symm.trans h_) (by decide), fun h1_ h2_ => wharfagelaw0_SameActs.cn_alloc (Y0 h1_ h2_) _, fun h_ => absurd ((hoff 11 (by kernel_rfl)).symm.trans h_) (by decide)⟩
          refine steps_cons ?_ ?_
          · rintro b a w' ⟨gx, gy, ha, QB, GX, GY, NE, X0, X1, Y0, Y1⟩ hb_ hon hoff
            refine ⟨_, rfl, fun K hK => ?_⟩
            replace ha := Aside0.mk ha
            refine value_ (w1 := w'.alloc (.cells #[.int .i64 0, .int .i64 0, .int .i64 0, .int .i64 0, .int .i64 0, .int .i64 0, .bool false, .string ⟨#[]⟩, .int .i64 0, .slice none 0 0] 40)) (v := .pointer (some ⟨w'.heap.size, 0, none⟩)) (by rfl) rfl ?_ ?_
            · go_simp
              try rfl
            exact hK.out _ _ ⟨gx, w'.heap.size, (by rw [ha.out]; exact putSel_upk 9 hb_ rfl rfl rfl), below_alloc QB _, GX, fun _ => below_size QB, fun h1_ _ => Nat.ne_of_lt (wharfagelaw0_SameActs.cn_lt (X0 h1_ (hoff 10 (by kernel_rfl)))), fun h1_ h2_ => wharfagelaw0_SameActs.cn_alloc (X0 h1_ h2_) _, fun h_ => absurd ((hoff 10 (by kernel_rfl)).symm.trans h_) (by decide), fun _ _ => heap_alloc_new w' _, fun h_ => absurd ((hoff 11 (by kernel_rfl)).symm.trans h_) (by decide)⟩
          refine steps_cons ?_ ?_
          · rintro b a w' ⟨gx, gy, ha, QB, GX, GY, NE, X0, X1, Y0, Y1⟩ hb_ hon hoff
            refine ⟨_, rfl, fun K hK => ?_⟩
            have e22 : a.tmps[22]? = some (.agg #[.int .i64 x.f0, .int .i64 x.f1, .int .i64 x.f2, .int .i64 x.f3, .int .i64 x.f4, .int .i64 x.f5, .bool x.f6, .string x.f7, .int .i64 x.f8.f0, .slice A9 x.f8.f1.length c9]) := by rw [ha]; exact putSel_on (e := (3, 22, .agg #[.int .i64 x.f0, .int .i64 x.f1, .int .i64 x.f2, .int .i64 x.f3, .int .i64 x.f4, .int .i64 x.f5, .bool x.f6, .string x.f7, .int .i64 x.f8.f0, .slice A9 x.f8.f1.length c9])) 3 rfl rfl (hon 3 (by kernel_rfl)) rfl
            have e6 : a.tmps[6]? = some (.pointer (some ⟨gx, 0, none⟩)) := by rw [ha]; exact putSel_on (e := (8, 6, .pointer (some ⟨gx, 0, none⟩))) 8 rfl rfl (hon 8 (by kernel_rfl)) rfl
            replace ha := Aside0.mk ha
            have g0 := X0 (hon 8 (by kernel_rfl)) hb_
            have o0 := Y0 (hon 9 (by kernel_rfl)) (hoff 11 (by kernel_rfl))
            have ne := NE (hon 8 (by kernel_rfl)) (hon 9 (by kernel_rfl))
            have ge := GX (hon 8 (by kernel_rfl))
            have z0 : w'.cell? ⟨gx, 0, none⟩ = some (.int .i64 0) := (wharfagelaw0_SameActs.cn_cell g0).trans rfl
            have y0 : w'.frozen? ⟨gx, 0, none⟩ = false := wharfagelaw0_SameActs.cn_free g0
            have z1 : w'.cell? ⟨gx, 1, none⟩ = some (.int .i64 0) := (wharfagelaw0_SameActs.cn_cell g0).trans rfl
            have y1 : w'.frozen? ⟨gx, 1, none⟩ = false := wharfagelaw0_SameActs.cn_free g0
            have z2 : w'.cell? ⟨gx, 2, none⟩ = some (.int .i64 0) := (wharfagelaw0_SameActs.cn_cell g0).trans rfl
            have y2 : w'.frozen? ⟨gx, 2, none⟩ = false := wharfagelaw0_SameActs.cn_free g0
            have z3 : w'.cell? ⟨gx, 3, none⟩ = some (.int .i64 0) := (wharfagelaw0_SameActs.cn_cell g0).trans rfl
            have y3 : w'.frozen? ⟨gx, 3, none⟩ = false := wharfagelaw0_SameActs.cn_free g0
            have z4 : w'.cell? ⟨gx, 4, none⟩ = some (.int .i64 0) := (wharfagelaw0_SameActs.cn_cell g0).trans rfl
            have y4 : w'.frozen? ⟨gx, 4, none⟩ = false := wharfagelaw0_SameActs.cn_free g0
            have z5 : w'.cell? ⟨gx, 5, none⟩ = some (.int .i64 0) := (wharfagelaw0_SameActs.cn_cell g0).trans rfl
            have y5 : w'.frozen? ⟨gx, 5, none⟩ = false := wharfagelaw0_SameActs.cn_free g0
            have z6 : w'.cell? ⟨gx, 6, none⟩ = some (.bool false) := (wharfagelaw0_SameActs.cn_cell g0).trans rfl
            have y6 : w'.frozen? ⟨gx, 6, none⟩ = false := wharfagelaw0_SameActs.cn_free g0
            have z7 : w'.cell? ⟨gx, 7, none⟩ = some (.string ⟨#[]⟩) := (wharfagelaw0_SameActs.cn_cell g0).trans rfl
            have y7 : w'.frozen? ⟨gx, 7, none⟩ = false := wharfagelaw0_SameActs.cn_free g0
            have z8 : w'.cell? ⟨gx, 8, none⟩ = some (.int .i64 0) := (wharfagelaw0_SameActs.cn_cell g0).trans rfl
            have y8 : w'.frozen? ⟨gx, 8, none⟩ = false := wharfagelaw0_SameActs.cn_free g0
            have z9 : w'.cell? ⟨gx, 9, none⟩ = some (.slice none 0 0) := (wharfagelaw0_SameActs.cn_cell g0).trans rfl
            have y9 : w'.frozen? ⟨gx, 9, none⟩ = false := wharfagelaw0_SameActs.cn_free g0
            have hgo := Aside0.mk (And.intro g0 (And.intro o0 (And.intro ne ge)))
            clear g0 o0 ne ge
            refine skip_ (w1 := ((((((((((w'.setCell ⟨gx, 0, none⟩ (.int .i64 x.f0)).setCell ⟨gx, 1, none⟩ (.int .i64 x.f1)).setCell ⟨gx, 2, none⟩ (.int .i64 x.f2)).setCell ⟨gx, 3, none⟩ (.int .i64 x.f3)).setCell ⟨gx, 4, none⟩ (.int .i64 x.f4)).setCell ⟨gx, 5, none⟩ (.int .i64 x.f5)).setCell ⟨gx, 6, none⟩ (.bool x.f6)).setCell ⟨gx, 7, none⟩ (.string x.f7)).setCell ⟨gx, 8, none⟩ (.int .i64 x.f8.f0)).setCell ⟨gx, 9, none⟩ (.slice A9 x.f8.f1.length c9))) (by rfl) rfl ?_ ?_
            · go_simp
              try rfl
            obtain ⟨g0, o0, ne, ge⟩ := hgo.out
            exact hK.out _ _ ⟨gx, gy, (by rw [ha.out]; exact (putSel_same rfl).symm), (below_set (below_set (below_set (below_set (below_set (below_set (below_set (below_set (below_set (below_set QB ge) ge) ge) ge) ge) ge) ge) ge) ge) ge), GX, GY, NE, fun _ h_ => absurd ((up_self b 10).symm.trans h_) (by decide), fun _ => (by refine blk_put (cs := #[.int .i64 x.f0, .int .i64 x.f1, .int .i64 x.f2, .int .i64 x.f3, .int .i64 x.f4, .int .i64 x.f5, .bool x.f6, .string x.f7, .int .i64 x.f8.f0, .slice none 0 0]) ?_ 9 _ rfl; refine blk_put (cs := #[.int .i64 x.f0, .int .i64 x.f1, .int .i64 x.f2, .int .i64 x.f3, .int .i64 x.f4, .int .i64 x.f5, .bool x.f6, .string x.f7, .int .i64 0, .slice none 0 0]) ?_ 8 _ rfl; refine blk_put (cs := #[.int .i64 x.f0, .int .i64 x.f1, .int .i64 x.f2, .int .i64 x.f3, .int .i64 x.f4, .int .i64 x.f5, .bool x.f6, .string ⟨#[]⟩, .int .i64 0, .slice none 0 0]) ?_ 7 _ rfl; refine blk_put (cs := #[.int .i64 x.f0, .int .i64 x.f1, .int .i64 x.f2, .int .i64 x.f3, .int .i64 x.f4, .int .i64 x.f5, .bool false, .string ⟨#[]⟩, .int .i64 0, .slice none 0 0]) ?_ 6 _ rfl; refine blk_put (cs := #[.int .i64 x.f0, .int .i64 x.f1, .int .i64 x.f2, .int .i64 x.f3, .int .i64 x.f4, .int .i64 0, .bool false, .string ⟨#[]⟩, .int .i64 0, .slice none 0 0]) ?_ 5 _ rfl; refine blk_put (cs := #[.int .i64 x.f0, .int .i64 x.f1, .int .i64 x.f2, .int .i64 x.f3, .int .i64 0, .int .i64 0, .bool false, .string ⟨#[]⟩, .int .i64 0, .slice none 0 0]) ?_ 4 _ rfl; refine blk_put (cs := #[.int .i64 x.f0, .int .i64 x.f1, .int .i64 x.f2, .int .i64 0, .int .i64 0, .int .i64 0, .bool false, .string ⟨#[]⟩, .int .i64 0, .slice none 0 0]) ?_ 3 _ rfl; refine blk_put (cs := #[.int .i64 x.f0, .int .i64 x.f1, .int .i64 0, .int .i64 0, .int .i64 0, .int .i64 0, .bool false, .string ⟨#[]⟩, .int .i64 0, .slice none 0 0]) ?_ 2 _ rfl; refine blk_put (cs := #[.int .i64 x.f0, .int .i64 0, .int .i64 0, .int .i64 0, .int .i64 0, .int .i64 0, .bool false, .string ⟨#[]⟩, .int .i64 0, .slice none 0 0]) ?_ 1 _ rfl; refine blk_put (cs := #[.int .i64 0, .int .i64 0, .int .i64 0, .int .i64 0, .int .i64 0, .int .i64 0, .bool false, .string ⟨#[]⟩, .int .i64 0, .slice none 0 0]) ?_ 0 _ rfl; exact g0), fun _ _ => (blk_far (blk_far (blk_far (blk_far (blk_far (blk_far (blk_far (blk_far (blk_far (blk_far o0 (Ne.symm ne) _) (Ne.symm ne) _) (Ne.symm ne) _) (Ne.symm ne) _) (Ne.symm ne) _) (Ne.symm ne) _) (Ne.symm ne) _) (Ne.symm ne) _) (Ne.symm ne) _) (Ne.symm ne) _), fun h_ => absurd ((hoff 11 (by kernel_rfl)).symm.trans h_) (by decide)⟩
          refine steps_cons ?_ ?_
          · rintro b a w' ⟨gx, gy, ha, QB, GX, GY, NE, X0, X1, Y0, Y1⟩ hb_ hon hoff
            refine ⟨_, rfl, fun K hK => ?_⟩
            have e26 : a.tmps[26]? = some (.agg #[.int .i64 x.f0, .int .i64 x.f1, .int .i64 x.f2, .int .i64 x.f3, .int .i64 x.f4, .int .i64 x.f5, .bool x.f6, .string x.f7, .int .i64 x.f8.f0, .slice B9 x.f8.f1.length d9]) := by rw [ha]; exact putSel_on (e := (7, 26, .agg #[.int .i64 x.f0, .int .i64 x.f1, .int .i64 x.f2, .int .i64 x.f3, .int .i64 x.f4, .int .i64 x.f5, .bool x.f6, .string x.f7, .int .i64 x.f8.f0, .slice B9 x.f8.f1.length d9])) 7 rfl rfl (hon 7 (by kernel_rfl)) rfl
            have e7 : a.tmps[7]? = some (.pointer (some ⟨gy, 0, none⟩)) := by rw [ha]; exact putSel_on (e := (9, 7, .pointer (some ⟨gy, 0, none⟩))) 9 rfl rfl (hon 9 (by kernel_rfl)) rfl
            replace ha := Aside0.mk ha
            have g0 := Y0 (hon 9 (by kernel_rfl)) hb_
            have o0 := X1 (hon 10 (by kernel_rfl))
            have ne := NE (hon 8 (by kernel_rfl)) (hon 9 (by kernel_rfl))
            have ge := GY (hon 9 (by kernel_rfl))
            have z0 : w'.cell? ⟨gy, 0, none⟩ = some (.int .i64 0) := (wharfagelaw0_SameActs.cn_cell g0).trans rfl
            have y0 : w'.frozen? ⟨gy, 0, none⟩ = false := wharfagelaw0_SameActs.cn_free g0
            have z1 : w'.cell? ⟨gy, 1, none⟩ = some (.int .i64 0) := (wharfagelaw0_SameActs.cn_cell g0).trans rfl
            have y1 : w'.frozen? ⟨gy, 1, none⟩ = false := wharfagelaw0_SameActs.cn_free g0
            have z2 : w'.cell? ⟨gy, 2, none⟩ = some (.int .i64 0) := (wharfagelaw0_SameActs.cn_cell g0).trans rfl
            have y2 : w'.frozen? ⟨gy, 2, none⟩ = false := wharfagelaw0_SameActs.cn_free g0
            have z3 : w'.cell? ⟨gy, 3, none⟩ = some (.int .i64 0) := (wharfagelaw0_SameActs.cn_cell g0).trans rfl
            have y3 : w'.frozen? ⟨gy, 3, none⟩ = false := wharfagelaw0_SameActs.cn_free g0
            have z4 : w'.cell? ⟨gy, 4, none⟩ = some (.int .i64 0) := (wharfagelaw0_SameActs.cn_cell g0).trans rfl
            have y4 : w'.frozen? ⟨gy, 4, none⟩ = false := wharfagelaw0_SameActs.cn_free g0
            have z5 : w'.cell? ⟨gy, 5, none⟩ = some (.int .i64 0) := (wharfagelaw0_SameActs.cn_cell g0).trans rfl
            have y5 : w'.frozen? ⟨gy, 5, none⟩ = false := wharfagelaw0_SameActs.cn_free g0
            have z6 : w'.cell? ⟨gy, 6, none⟩ = some (.bool false) := (wharfagelaw0_SameActs.cn_cell g0).trans rfl
            have y6 : w'.frozen? ⟨gy, 6, none⟩ = false := wharfagelaw0_SameActs.cn_free g0
            have z7 : w'.cell? ⟨gy, 7, none⟩ = some (.string ⟨#[]⟩) := (wharfagelaw0_SameActs.cn_cell g0).trans rfl
            have y7 : w'.frozen? ⟨gy, 7, none⟩ = false := wharfagelaw0_SameActs.cn_free g0
            have z8 : w'.cell? ⟨gy, 8, none⟩ = some (.int .i64 0) := (wharfagelaw0_SameActs.cn_cell g0).trans rfl
            have y8 : w'.frozen? ⟨gy, 8, none⟩ = false := wharfagelaw0_SameActs.cn_free g0
            have z9 : w'.cell? ⟨gy, 9, none⟩ = some (.slice none 0 0) := (wharfagelaw0_SameActs.cn_cell g0).trans rfl
            have y9 : w'.frozen? ⟨gy, 9, none⟩ = false := wharfagelaw0_SameActs.cn_free g0
            have hgo := Aside0.mk (And.intro g0 (And.intro o0 (And.intro ne ge)))
            clear g0 o0 ne ge
            refine skip_ (w1 := ((((((((((w'.setCell ⟨gy, 0, none⟩ (.int .i64 x.f0)).setCell ⟨gy, 1, none⟩ (.int .i64 x.f1)).setCell ⟨gy, 2, none⟩ (.int .i64 x.f2)).setCell ⟨gy, 3, none⟩ (.int .i64 x.f3)).setCell ⟨gy, 4, none⟩ (.int .i64 x.f4)).setCell ⟨gy, 5, none⟩ (.int .i64 x.f5)).setCell ⟨gy, 6, none⟩ (.bool x.f6)).setCell ⟨gy, 7, none⟩ (.string x.f7)).setCell ⟨gy, 8, none⟩ (.int .i64 x.f8.f0)).setCell ⟨gy, 9, none⟩ (.slice B9 x.f8.f1.length d9))) (by rfl) rfl ?_ ?_
            · go_simp
              try rfl
            obtain ⟨g0, o0, ne, ge⟩ := hgo.out
            exact hK.out _ _ ⟨gx, gy, (by rw [ha.out]; exact (putSel_same rfl).symm), (below_set (below_set (below_set (below_set (below_set (below_set (below_set (below_set (below_set (below_set QB ge) ge) ge) ge) ge) ge) ge) ge) ge) ge), GX, GY, NE, fun _ h_ => absurd ((hon 10 (by kernel_rfl)).symm.trans h_) (by decide), fun _ => (blk_far (blk_far (blk_far (blk_far (blk_far (blk_far (blk_far (blk_far (blk_far (blk_far o0 ne _) ne _) ne _) ne _) ne _) ne _) ne _) ne _) ne _) ne _), fun _ h_ => absurd ((up_self b 11).symm.trans h_) (by decide), fun _ => (by refine blk_put (cs := #[.int .i64 x.f0, .int .i64 x.f1, .int .i64 x.f2, .int .i64 x.f3, .int .i64 x.f4, .int .i64 x.f5, .bool x.f6, .string x.f7, .int .i64 x.f8.f0, .slice none 0 0]) ?_ 9 _ rfl; refine blk_put (cs := #[.int .i64 x.f0, .int .i64 x.f1, .int .i64 x.f2, .int .i64 x.f3, .int .i64 x.f4, .int .i64 x.f5, .bool x.f6, .string x.f7, .int .i64 0, .slice none 0 0]) ?_ 8 _ rfl; refine blk_put (cs := #[.int .i64 x.f0, .int .i64 x.f1, .int .i64 x.f2, .int .i64 x.f3, .int .i64 x.f4, .int .i64 x.f5, .bool x.f6, .string ⟨#[]⟩, .int .i64 0, .slice none 0 0]) ?_ 7 _ rfl; refine blk_put (cs := #[.int .i64 x.f0, .int .i64 x.f1, .int .i64 x.f2, .int .i64 x.f3, .int .i64 x.f4, .int .i64 x.f5, .bool false, .string ⟨#[]⟩, .int .i64 0, .slice none 0 0]) ?_ 6 _ rfl; refine blk_put (cs := #[.int .i64 x.f0, .int .i64 x.f1, .int .i64 x.f2, .int .i64 x.f3, .int .i64 x.f4, .int .i64 0, .bool false, .string ⟨#[]⟩, .int .i64 0, .slice none 0 0]) ?_ 5 _ rfl; refine blk_put (cs := #[.int .i64 x.f0, .int .i64 x.f1, .int .i64 x.f2, .int .i64 x.f3, .int .i64 0, .int .i64 0, .bool false, .string ⟨#[]⟩, .int .i64 0, .slice none 0 0]) ?_ 4 _ rfl; refine blk_put (cs := #[.int .i64 x.f0, .int .i64 x.f1, .int .i64 x.f2, .int .i64 0, .int .i64 0, .int .i64 0, .bool false, .string ⟨#[]⟩, .int .i64 0, .slice none 0 0]) ?_ 3 _ rfl; refine blk_put (cs := #[.int .i64 x.f0, .int .i64 x.f1, .int .i64 0, .int .i64 0, .int .i64 0, .int .i64 0, .bool false, .string ⟨#[]⟩, .int .i64 0, .slice none 0 0]) ?_ 2 _ rfl; refine blk_put (cs := #[.int .i64 x.f0, .int .i64 0, .int .i64 0, .int .i64 0, .int .i64 0, .int .i64 0, .bool false, .string ⟨#[]⟩, .int .i64 0, .slice none 0 0]) ?_ 1 _ rfl; refine blk_put (cs := #[.int .i64 0, .int .i64 0, .int .i64 0, .int .i64 0, .int .i64 0, .int .i64 0, .bool false, .string ⟨#[]⟩, .int .i64 0, .slice none 0 0]) ?_ 0 _ rfl; exact g0)⟩
          exact steps_nil
        rintro b a wx hall ⟨gx, gy, ha, QB, GX, GY, NE, X0, X1, Y0, Y1⟩
        have hb0_ := hall 0 (by kernel_rfl)
        have hb1_ := hall 1 (by kernel_rfl)
        have hb2_ := hall 2 (by kernel_rfl)
        have hb3_ := hall 3 (by kernel_rfl)
        have hb4_ := hall 4 (by kernel_rfl)
        have hb5_ := hall 5 (by kernel_rfl)
        have hb6_ := hall 6 (by kernel_rfl)
        have hb7_ := hall 7 (by kernel_rfl)
        have hb8_ := hall 8 (by kernel_rfl)
        have hb9_ := hall 9 (by kernel_rfl)
        have hb10_ := hall 10 (by kernel_rfl)
        have hb11_ := hall 11 (by kernel_rfl)
        subst ha
        simp only [putSel, hb0_, hb1_, hb2_, hb3_, hb4_, hb5_, hb6_, hb7_, hb8_, hb9_, if_true, Act.put, List.setIfInBounds_toArray, List.set_cons_zero, List.set_cons_succ]
        have BXX := Aside0.mk (X1 hb10_)
        have BYY := Aside0.mk (Y1 hb11_)
        have HBX := Aside0.mk (below_step HBW.out QB)
        have u0 : wx.cell? ⟨gx, 0, none⟩ = some (.int .i64 x.f0) := (blk_cell BXX.out 0).trans rfl
        have v0 : wx.cell? ⟨gy, 0, none⟩ = some (.int .i64 x.f0) := (blk_cell BYY.out 0).trans rfl
        have u1 : wx.cell? ⟨gx, 1, none⟩ = some (.int .i64 x.f1) := (blk_cell BXX.out 1).trans rfl
        have v1 : wx.cell? ⟨gy, 1, none⟩ = some (.int .i64 x.f1) := (blk_cell BYY.out 1).trans rfl
        have u2 : wx.cell? ⟨gx, 2, none⟩ = some (.int .i64 x.f2) := (blk_cell BXX.out 2).trans rfl
        have v2 : wx.cell? ⟨gy, 2, none⟩ = some (.int .i64 x.f2) := (blk_cell BYY.out 2).trans rfl
        have u3 : wx.cell? ⟨gx, 3, none⟩ = some (.int .i64 x.f3) := (blk_cell BXX.out 3).trans rfl
        have v3 : wx.cell? ⟨gy, 3, none⟩ = some (.int .i64 x.f3) := (blk_cell BYY.out 3).trans rfl
        have u4 : wx.cell? ⟨gx, 4, none⟩ = some (.int .i64 x.f4) := (blk_cell BXX.out 4).trans rfl
        have v4 : wx.cell? ⟨gy, 4, none⟩ = some (.int .i64 x.f4) := (blk_cell BYY.out 4).trans rfl
        have u5 : wx.cell? ⟨gx, 5, none⟩ = some (.int .i64 x.f5) := (blk_cell BXX.out 5).trans rfl
        have v5 : wx.cell? ⟨gy, 5, none⟩ = some (.int .i64 x.f5) := (blk_cell BYY.out 5).trans rfl
        have u6 : wx.cell? ⟨gx, 6, none⟩ = some (.bool x.f6) := (blk_cell BXX.out 6).trans rfl
        have v6 : wx.cell? ⟨gy, 6, none⟩ = some (.bool x.f6) := (blk_cell BYY.out 6).trans rfl
        have u7 : wx.cell? ⟨gx, 7, none⟩ = some (.string x.f7) := (blk_cell BXX.out 7).trans rfl
        have v7 : wx.cell? ⟨gy, 7, none⟩ = some (.string x.f7) := (blk_cell BYY.out 7).trans rfl
        have u8 : wx.cell? ⟨gx, 8, none⟩ = some (.int .i64 x.f8.f0) := (blk_cell BXX.out 8).trans rfl
        have v8 : wx.cell? ⟨gy, 8, none⟩ = some (.int .i64 x.f8.f0) := (blk_cell BYY.out 8).trans rfl
        have u9 : wx.cell? ⟨gx, 9, none⟩ = some (.slice A9 x.f8.f1.length c9) := (blk_cell BXX.out 9).trans rfl
        have v9 : wx.cell? ⟨gy, 9, none⟩ = some (.slice B9 x.f8.f1.length d9) := (blk_cell BYY.out 9).trans rfl
        have q0 : (x.f0 != x.f0) = false := bne_self_eq_false _
        have s0 : (x.f0 == x.f0) = true := beq_self_eq_true _
        have q1 : (x.f1 != x.f1) = false := bne_self_eq_false _
        have s1 : (x.f1 == x.f1) = true := beq_self_eq_true _
        have q2 : (x.f2 != x.f2) = false := bne_self_eq_false _
        have s2 : (x.f2 == x.f2) = true := beq_self_eq_true _
        have q3 : (x.f3 != x.f3) = false := bne_self_eq_false _
        have s3 : (x.f3 == x.f3) = true := beq_self_eq_true _
        have q4 : (x.f4 != x.f4) = false := bne_self_eq_false _
        have s4 : (x.f4 == x.f4) = true := beq_self_eq_true _
        have q5 : (x.f5 != x.f5) = false := bne_self_eq_false _
        have s5 : (x.f5 == x.f5) = true := beq_self_eq_true _
        have q6 : (x.f6 != x.f6) = false := bne_self_eq_false _
        have s6 : (x.f6 == x.f6) = true := beq_self_eq_true _
        have s7 : (x.f7.toList == x.f7.toList) = true := beq_self_eq_true _
        have HQB := Aside0.mk QB
        have HSM := Aside0.mk (show wharfagelaw0_SameConfig.f k x.f8.f0 x.f8.f1 x.f8.f0 x.f8.f1 = some true by unfold wharfagelaw0_SameConfig.f; rw [if_pos ⟨rfl, rfl, HXK.out.1, HXK.out.2⟩])
        clear GX GY NE X0 X1 Y0 Y1 QB
        go_wp2_with (go_at_call 29; refine (wharfagelaw0_SameConfig.calls k x.f8.f0 A9 c9 x.f8.f1 x.f8.f0 B9 d9 x.f8.f1 true _ (Kd.C_below HIX.out HQB.out) HLX.out (Kd.C_below HIY.out HQB.out) HLY.out HSM.out).mono ?_; rintro e w5 ⟨rfl, hb⟩; replace HBX := Aside0.mk (below_step HBX.out hb); clear hb u0 v0 u1 v1 u2 v2 u3 v3 u4 v4 u5 v5 u6 v6 u7 v7 u8 v8 u9 v9)
        go_roundg k1
        case measure => have := HX.out; omega
        case rel =>
          have h1 := HX.out
          have h2 := HLL.out
          exact ⟨i + 1, by rw [show wrap64 ((i : Int) + 1) = ((i + 1 : Nat) : Int) by unfold wrap64; omega], ⟨by omega⟩, HBX⟩
      · have c3b := decide_eq_false c3
        go_wp2_with fail
        go_ret
        exact ⟨rfl, HBW.out⟩


end Go.Proofs.YtnojgkiaolmoeaaDoor.PSc
end
section
/- Contracts: what calls of these functions of the program do, each as a plain function; written by a program of this session. -/
namespace Go.Proofs.YtnojgkiaolmoeaaDoor.PSc
open Go.RowKit Go.Proofs.YtnojgkiaolmoeaaDoorW.PrintWords Go.Proofs.YtnojgkiaolmoeaaDoorW.PrintLast Go.Proofs.YtnojgkiaolmoeaaDoorW.PrintMore
attribute [local go_sem] max2_int min2_int max_two min_two max_three min_three max_four min_four   -- for this text's walks alone
set_option linter.unusedVariables false
set_option linter.unusedSimpArgs false

/-! ### wharfagelaw23_awake: function 17 -/
def wharfagelaw23_awake.f (k : Nat)  : Option (Bool) := (some (([(⟨0, 1, 2, 0, 0, 0, false, (⟨#[49, 58, 120]⟩ : ByteArray), (⟨0, ([] : List (S63))⟩ : S38)⟩ : S40), (⟨5, 0, 0, 0, 3, 0, true, (⟨#[]⟩ : ByteArray), (⟨0, ([] : List (S63))⟩ : S38)⟩ : S40), (⟨9, 0, 0, 0, 0, 0, false, (⟨#[]⟩ : ByteArray), (⟨9, (([(⟨2, true, 1, (([(⟨5, false⟩ : S65)] : List (S65)))⟩ : S63)] : List (S63)))⟩ : S38)⟩ : S40)] : List (S40)) : List (S40))).bind fun y196 => ((script_Show.f k y196).bind fun bt199 => ((script_Parse.f k bt199.1).bind fun bt201 => ((script_Parse.f k (⟨#[48, 32]⟩ : ByteArray)).bind fun bt205 => ((script_Show.f k (([(⟨4, 0, 0, 0, 0, 1, false, (⟨#[]⟩ : ByteArray), (⟨0, ([] : List (S63))⟩ : S38)⟩ : S40)] : List (S40)))).bind fun bt212 => (if bt199.1.toList = ([48, 32, 49, 32, 50, 32, 48, 32, 48, 32, 48, 32, 98, 51, 58, 49, 58, 120, 53, 32, 48, 32, 48, 32, 48, 32, 51, 32, 48, 32, 103, 48, 58, 57, 32, 48, 32, 48, 32, 48, 32, 48, 32, 48, 32, 98, 48, 58, 57, 32, 49, 32, 50, 32, 100, 49, 32, 49, 32, 53, 32, 117] : List UInt8) then ((wharfagelaw0_Num.f bt199.2).bind fun t214 => (if t214 = 0 then ((wharfagelaw0_SameActs.f k y196 bt201.1).bind fun t215 => (if t215 = true then ((wharfagelaw0_Num.f bt201.2).bind fun t216 => (if t216 = 0 then ((wharfagelaw0_Num.f bt205.2).bind fun t217 => (if t217 = 2300 then ((wharfagelaw0_Num.f bt212.2).bind fun t218 => (if t218 = 2300 then (if 0 < (y196.length : Int) then ((script_May.f k ((rd_T40 y196 0).f0) ((rd_T40 y196 0).f1) ((rd_T40 y196 0).f2) ((rd_T40 y196 0).f3) ((rd_T40 y196 0).f4) ((rd_T40 y196 0).f5) ((rd_T40 y196 0).f6) ((rd_T40 y196 0).f7) ((rd_T40 y196 0).f8.f0) ((rd_T40 y196 0).f8.f1)).bind fun t220 => (some t220)) else (none)) else (none))) else (none))) else (none))) else (none))) else (none))) else (none))))))
theorem wharfagelaw23_awake.mono : ∀ k, LeO (wharfagelaw23_awake.f k ) (wharfagelaw23_awake.f (k + 1) ) := by
 intro  k
 unfold wharfagelaw23_awake.f
 repeat' first
   | (with_reducible exact script_May.mono _ _ _ _ _ _ _ _ _ _ _)
   | (with_reducible exact script_Parse.mono _ _)
   | (with_reducible exact script_Show.mono _ _)
   | (with_reducible exact wharfagelaw0_SameActs.mono _ _ _)
   | (with_reducible exact LeO.refl _)
   | (with_reducible exact LeO.none _)
   | (with_reducible refine LeO.ite ?_ ?_)
   | (with_reducible refine LeO.bind ?_ (fun _ => ?_))
   | exact script_May.mono _ _ _ _ _ _ _ _ _ _ _
   | exact script_Parse.mono _ _
   | exact script_Show.mono _ _
   | exact wharfagelaw0_SameActs.mono _ _ _
   | exact LeO.none _
   | refine LeO.ite ?_ ?_
   | refine LeO.bind ?_ (fun _ => ?_)
set_option maxHeartbeats 8000000 in
set_option maxRecDepth 100000 in
theorem wharfagelaw23_awake.calls (k : Nat)  (r : Bool) (w : World) (ht : Take.Laid w) (h : wharfagelaw23_awake.f k  = some r) :
  Calls Tryd.prog 17 #[] w fun e w' => e = .returned (.bool r) ∧ Below w.heap.size w w' := by
 have HT := Aside0.mk (show ∀ w_ : World, Below w.heap.size w w_ → Take.Laid w_ from fun w_ hb_ => ht.below hb_)
 clear ht
 have hu40 := Tryd.underlying40
 have hu65 := Tryd.underlying65
 have hu63 := Tryd.underlying63
 have hu38 := Tryd.underlying38
 have HB := Aside0.mk (Below.refl w.heap.size w)
 have H : ((some (([(⟨0, 1, 2, 0, 0, 0, false, (⟨#[49, 58, 120]⟩ : ByteArray), (⟨0, ([] : List (S63))⟩ : S38)⟩ : S40), (⟨5, 0, 0, 0, 3, 0, true, (⟨#[]⟩ : ByteArray), (⟨0, ([] : List (S63))⟩ : S38)⟩ : S40), (⟨9, 0, 0, 0, 0, 0, false, (⟨#[]⟩ : ByteArray), (⟨9, (([(⟨2, true, 1, (([(⟨5, false⟩ : S65)] : List (S65)))⟩ : S63)] : List (S63)))⟩ : S38)⟩ : S40)] : List (S40)) : List (S40))).bind fun y196 => ((script_Show.f k y196).bind fun bt199 => ((script_Parse.f k bt199.1).bind fun bt201 => ((script_Parse.f k (⟨#[48, 32]⟩ : ByteArray)).bind fun bt205 => ((script_Show.f k (([(⟨4, 0, 0, 0, 0, 1, false, (⟨#[]⟩ : ByteArray), (⟨0, ([] : List (S63))⟩ : S38)⟩ : S40)] : List (S40)))).bind fun bt212 => (if bt199.1.toList = ([48, 32, 49, 32, 50, 32, 48, 32, 48, 32, 48, 32, 98, 51, 58, 49, 58, 120, 53, 32, 48, 32, 48, 32, 48, 32, 51, 32, 48, 32, 103, 48, 58, 57, 32, 48, 32, 48, 32, 48, 32, 48, 32, 48, 32, 98, 48, 58, 57, 32, 49, 32, 50, 32, 100, 49, 32, 49, 32, 53, 32, 117] : List UInt8) then ((wharfagelaw0_Num.f bt199.2).bind fun t214 => (if t214 = 0 then ((wharfagelaw0_SameActs.f k y196 bt201.1).bind fun t215 => (if t215 = true then ((wharfagelaw0_Num.f bt201.2).bind fun t216 => (if t216 = 0 then ((wharfagelaw0_Num.f bt205.2).bind fun t217 => (if t217 = 2300 then ((wharfagelaw0_Num.f bt212.2).bind fun t218 => (if t218 = 2300 then (if 0 < (y196.length : Int) then ((script_May.f k ((rd_T40 y196 0).f0) ((rd_T40 y196 0).f1) ((rd_T40 y196 0).f2) ((rd_T40 y196 0).f3) ((rd_T40 y196 0).f4) ((rd_T40 y196 0).f5) ((rd_T40 y196 0).f6) ((rd_T40 y196 0).f7) ((rd_T40 y196 0).f8.f0) ((rd_T40 y196 0).f8.f1)).bind fun t220 => (some t220)) else (none)) else (none))) else (none))) else (none))) else (none))) else (none))) else (none))))))) = some r := h
 clear h
 obtain ⟨y190, hy190⟩ : ∃ y_ : List (S65), y_ = (([(⟨5, false⟩ : S65)] : List (S65))) := ⟨_, rfl⟩
 replace H : ((some (([(⟨0, 1, 2, 0, 0, 0, false, (⟨#[49, 58, 120]⟩ : ByteArray), (⟨0, ([] : List (S63))⟩ : S38)⟩ : S40), (⟨5, 0, 0, 0, 3, 0, true, (⟨#[]⟩ : ByteArray), (⟨0, ([] : List (S63))⟩ : S38)⟩ : S40), (⟨9, 0, 0, 0, 0, 0, false, (⟨#[]⟩ : ByteArray), (⟨9, (([(⟨2, true, 1, y190⟩ : S63)] : List (S63)))⟩ : S38)⟩ : S40)] : List (S40)) : List (S40))).bind fun y196 => ((script_Show.f k y196).bind fun bt199 => ((script_Parse.f k bt199.1).bind fun bt201 => ((script_Parse.f k (⟨#[48, 32]⟩ : ByteArray)).bind fun bt205 => ((script_Show.f k (([(⟨4, 0, 0, 0, 0, 1, false, (⟨#[]⟩ : ByteArray), (⟨0, ([] : List (S63))⟩ : S38)⟩ : S40)] : List (S40)))).bind fun bt212 => (if bt199.1.toList = ([48, 32, 49, 32, 50, 32, 48, 32, 48, 32, 48, 32, 98, 51, 58, 49, 58, 120, 53, 32, 48, 32, 48, 32, 48, 32, 51, 32, 48, 32, 103, 48, 58, 57, 32, 48, 32, 48, 32, 48, 32, 48, 32, 48, 32, 98, 48, 58, 57, 32, 49, 32, 50, 32, 100, 49, 32, 49, 32, 53, 32, 117] : List UInt8) then ((wharfagelaw0_Num.f bt199.2).bind fun t214 => (if t214 = 0 then ((wharfagelaw0_SameActs.f k y196 bt201.1).bind fun t215 => (if t215 = true then ((wharfagelaw0_Num.f bt201.2).bind fun t216 => (if t216 = 0 then ((wharfagelaw0_Num.f bt205.2).bind fun t217 => (if t217 = 2300 then ((wharfagelaw0_Num.f bt212.2).bind fun t218 => (if t218 = 2300 then (if 0 < (y196.length : Int) then ((script_May.f k ((rd_T40 y196 0).f0) ((rd_T40 y196 0).f1) ((rd_T40 y196 0).f2) ((rd_T40 y196 0).f3) ((rd_T40 y196 0).f4) ((rd_T40 y196 0).f5) ((rd_T40 y196 0).f6) ((rd_T40 y196 0).f7) ((rd_T40 y196 0).f8.f0) ((rd_T40 y196 0).f8.f1)).bind fun t220 => (some t220)) else (none)) else (none))) else (none))) else (none))) else (none))) else (none))) else (none))))))) = some r := by first | (rw [hy190]; with_reducible exact H) | (have H2_ := (Option.bind_some _ _).symm.trans H; rw [hy190]; with_reducible exact H2_) | (have H2_ := (Option.bind_some _ _).symm.trans H; with_reducible exact H2_) | with_reducible exact H | (rw [hy190]; exact H) | exact H
 have Ny190 := Aside0.mk hy190
 clear hy190
 obtain ⟨y193, hy193⟩ : ∃ y_ : List (S63), y_ = (([(⟨2, true, 1, y190⟩ : S63)] : List (S63))) := ⟨_, rfl⟩
 replace H : ((some (([(⟨0, 1, 2, 0, 0, 0, false, (⟨#[49, 58, 120]⟩ : ByteArray), (⟨0, ([] : List (S63))⟩ : S38)⟩ : S40), (⟨5, 0, 0, 0, 3, 0, true, (⟨#[]⟩ : ByteArray), (⟨0, ([] : List (S63))⟩ : S38)⟩ : S40), (⟨9, 0, 0, 0, 0, 0, false, (⟨#[]⟩ : ByteArray), (⟨9, y193⟩ : S38)⟩ : S40)] : List (S40)) : List (S40))).bind fun y196 => ((script_Show.f k y196).bind fun bt199 => ((script_Parse.f k bt199.1).bind fun bt201 => ((script_Parse.f k (⟨#[48, 32]⟩ : ByteArray)).bind fun bt205 => ((script_Show.f k (([(⟨4, 0, 0, 0, 0, 1, false, (⟨#[]⟩ : ByteArray), (⟨0, ([] : List (S63))⟩ : S38)⟩ : S40)] : List (S40)))).bind fun bt212 => (if bt199.1.toList = ([48, 32, 49, 32, 50, 32, 48, 32, 48, 32, 48, 32, 98, 51, 58, 49, 58, 120, 53, 32, 48, 32, 48, 32, 48, 32, 51, 32, 48, 32, 103, 48, 58, 57, 32, 48, 32, 48, 32, 48, 32, 48, 32, 48, 32, 98, 48, 58, 57, 32, 49, 32, 50, 32, 100, 49, 32, 49, 32, 53, 32, 117] : List UInt8) then ((wharfagelaw0_Num.f bt199.2).bind fun t214 => (if t214 = 0 then ((wharfagelaw0_SameActs.f k y196 bt201.1).bind fun t215 => (if t215 = true then ((wharfagelaw0_Num.f bt201.2).bind fun t216 => (if t216 = 0 then ((wharfagelaw0_Num.f bt205.2).bind fun t217 => (if t217 = 2300 then ((wharfagelaw0_Num.f bt212.2).bind fun t218 => (if t218 = 2300 then (if 0 < (y196.length : Int) then ((script_May.f k ((rd_T40 y196 0).f0) ((rd_T40 y196 0).f1) ((rd_T40 y196 0).f2) ((rd_T40 y196 0).f3) ((rd_T40 y196 0).f4) ((rd_T40 y196 0).f5) ((rd_T40 y196 0).f6) ((rd_T40 y196 0).f7) ((rd_T40 y196 0).f8.f0) ((rd_T40 y196 0).f8.f1)).bind fun t220 => (some t220)) else (none)) else (none))) else (none))) else (none))) else (none))) else (none))) else (none))))))) = some r := by first | (rw [hy193]; with_reducible exact H) | (have H2_ := (Option.bind_some _ _).symm.trans H; rw [hy193]; with_reducible exact H2_) | (have H2_ := (Option.bind_some _ _).symm.trans H; with_reducible exact H2_) | with_reducible exact H | (rw [hy193]; exact H) | exact H
 have Ny193 := Aside0.mk hy193
 clear hy193
 obtain ⟨y196, hy196⟩ : ∃ y_ : List (S40), y_ = (([(⟨0, 1, 2, 0, 0, 0, false, (⟨#[49, 58, 120]⟩ : ByteArray), (⟨0, ([] : List (S63))⟩ : S38)⟩ : S40), (⟨5, 0, 0, 0, 3, 0, true, (⟨#[]⟩ : ByteArray), (⟨0, ([] : List (S63))⟩ : S38)⟩ : S40), (⟨9, 0, 0, 0, 0, 0, false, (⟨#[]⟩ : ByteArray), (⟨9, y193⟩ : S38)⟩ : S40)] : List (S40))) := ⟨_, rfl⟩
 replace H : ((script_Show.f k y196).bind fun bt199 => ((script_Parse.f k bt199.1).bind fun bt201 => ((script_Parse.f k (⟨#[48, 32]⟩ : ByteArray)).bind fun bt205 => ((script_Show.f k (([(⟨4, 0, 0, 0, 0, 1, false, (⟨#[]⟩ : ByteArray), (⟨0, ([] : List (S63))⟩ : S38)⟩ : S40)] : List (S40)))).bind fun bt212 => (if bt199.1.toList = ([48, 32, 49, 32, 50, 32, 48, 32, 48, 32, 48, 32, 98, 51, 58, 49, 58, 120, 53, 32, 48, 32, 48, 32, 48, 32, 51, 32, 48, 32, 103, 48, 58, 57, 32, 48, 32, 48, 32, 48, 32, 48, 32, 48, 32, 98, 48, 58, 57, 32, 49, 32, 50, 32, 100, 49, 32, 49, 32, 53, 32, 117] : List UInt8) then ((wharfagelaw0_Num.f bt199.2).bind fun t214 => (if t214 = 0 then ((wharfagelaw0_SameActs.f k y196 bt201.1).bind fun t215 => (if t215 = true then ((wharfagelaw0_Num.f bt201.2).bind fun t216 => (if t216 = 0 then ((wharfagelaw0_Num.f bt205.2).bind fun t217 => (if t217 = 2300 then ((wharfagelaw0_Num.f bt212.2).bind fun t218 => (if t218 = 2300 then (if 0 < (y196.length : Int) then ((script_May.f k ((rd_T40 y196 0).f0) ((rd_T40 y196 0).f1) ((rd_T40 y196 0).f2) ((rd_T40 y196 0).f3) ((rd_T40 y196 0).f4) ((rd_T40 y196 0).f5) ((rd_T40 y196 0).f6) ((rd_T40 y196 0).f7) ((rd_T40 y196 0).f8.f0) ((rd_T40 y196 0).f8.f1)).bind fun t220 => (some t220)) else (none)) else (none))) else (none))) else (none))) else (none))) else (none))) else (none)))))) = some r := by first | (rw [hy196]; with_reducible exact H) | (have H2_ := (Option.bind_some _ _).symm.trans H; rw [hy196]; with_reducible exact H2_) | (have H2_ := (Option.bind_some _ _).symm.trans H; with_reducible exact H2_) | with_reducible exact H | (rw [hy196]; exact H) | exact H
 have Ny196 := Aside0.mk hy196
 clear hy196
 replace H := Option.bind_eq_some_iff.mp H
 obtain ⟨⟨t199, t200⟩, A10, H⟩ := H
 replace H : ((script_Parse.f k t199).bind fun bt201 => ((script_Parse.f k (⟨#[48, 32]⟩ : ByteArray)).bind fun bt205 => ((script_Show.f k (([(⟨4, 0, 0, 0, 0, 1, false, (⟨#[]⟩ : ByteArray), (⟨0, ([] : List (S63))⟩ : S38)⟩ : S40)] : List (S40)))).bind fun bt212 => (if t199.toList = ([48, 32, 49, 32, 50, 32, 48, 32, 48, 32, 48, 32, 98, 51, 58, 49, 58, 120, 53, 32, 48, 32, 48, 32, 48, 32, 51, 32, 48, 32, 103, 48, 58, 57, 32, 48, 32, 48, 32, 48, 32, 48, 32, 48, 32, 98, 48, 58, 57, 32, 49, 32, 50, 32, 100, 49, 32, 49, 32, 53, 32, 117] : List UInt8) then ((wharfagelaw0_Num.f t200).bind fun t214 => (if t214 = 0 then ((wharfagelaw0_SameActs.f k y196 bt201.1).bind fun t215 => (if t215 = true then ((wharfagelaw0_Num.f bt201.2).bind fun t216 => (if t216 = 0 then ((wharfagelaw0_Num.f bt205.2).bind fun t217 => (if t217 = 2300 then ((wharfagelaw0_Num.f bt212.2).bind fun t218 => (if t218 = 2300 then (if 0 < (y196.length : Int) then ((script_May.f k ((rd_T40 y196 0).f0) ((rd_T40 y196 0).f1) ((rd_T40 y196 0).f2) ((rd_T40 y196 0).f3) ((rd_T40 y196 0).f4) ((rd_T40 y196 0).f5) ((rd_T40 y196 0).f6) ((rd_T40 y196 0).f7) ((rd_T40 y196 0).f8.f0) ((rd_T40 y196 0).f8.f1)).bind fun t220 => (some t220)) else (none)) else (none))) else (none))) else (none))) else (none))) else (none))) else (none))))) = some r := H
 have A1 := Aside0.mk A10
 clear A10
 replace H := Option.bind_eq_some_iff.mp H
 obtain ⟨⟨t201, t202⟩, A20, H⟩ := H
 replace H : ((script_Parse.f k (⟨#[48, 32]⟩ : ByteArray)).bind fun bt205 => ((script_Show.f k (([(⟨4, 0, 0, 0, 0, 1, false, (⟨#[]⟩ : ByteArray), (⟨0, ([] : List (S63))⟩ : S38)⟩ : S40)] : List (S40)))).bind fun bt212 => (if t199.toList = ([48, 32, 49, 32, 50, 32, 48, 32, 48, 32, 48, 32, 98, 51, 58, 49, 58, 120, 53, 32, 48, 32, 48, 32, 48, 32, 51, 32, 48, 32, 103, 48, 58, 57, 32, 48, 32, 48, 32, 48, 32, 48, 32, 48, 32, 98, 48, 58, 57, 32, 49, 32, 50, 32, 100, 49, 32, 49, 32, 53, 32, 117] : List UInt8) then ((wharfagelaw0_Num.f t200).bind fun t214 => (if t214 = 0 then ((wharfagelaw0_SameActs.f k y196 t201).bind fun t215 => (if t215 = true then ((wharfagelaw0_Num.f t202).bind fun t216 => (if t216 = 0 then ((wharfagelaw0_Num.f bt205.2).bind fun t217 => (if t217 = 2300 then ((wharfagelaw0_Num.f bt212.2).bind fun t218 => (if t218 = 2300 then (if 0 < (y196.length : Int) then ((script_May.f k ((rd_T40 y196 0).f0) ((rd_T40 y196 0).f1) ((rd_T40 y196 0).f2) ((rd_T40 y196 0).f3) ((rd_T40 y196 0).f4) ((rd_T40 y196 0).f5) ((rd_T40 y196 0).f6) ((rd_T40 y196 0).f7) ((rd_T40 y196 0).f8.f0) ((rd_T40 y196 0).f8.f1)).bind fun t220 => (some t220)) else (none)) else (none))) else (none))) else (none))) else (none))) else (none))) else (none)))) = some r := H
 have A2 := Aside0.mk A20
 clear A20
 replace H := Option.bind_eq_some_iff.mp H
 obtain ⟨⟨t205, t206⟩, A30, H⟩ := H
 replace H : ((script_Show.f k (([(⟨4, 0, 0, 0, 0, 1, false, (⟨#[]⟩ : ByteArray), (⟨0, ([] : List (S63))⟩ : S38)⟩ : S40)] : List (S40)))).bind fun bt212 => (if t199.toList = ([48, 32, 49, 32, 50, 32, 48, 32, 48, 32, 48, 32, 98, 51, 58, 49, 58, 120, 53, 32, 48, 32, 48, 32, 48, 32, 51, 32, 48, 32, 103, 48, 58, 57, 32, 48, 32, 48, 32, 48, 32, 48, 32, 48, 32, 98, 48, 58, 57, 32, 49, 32, 50, 32, 100, 49, 32, 49, 32, 53, 32, 117] : List UInt8) then ((wharfagelaw0_Num.f t200).bind fun t214 => (if t214 = 0 then ((wharfagelaw0_SameActs.f k y196 t201).bind fun t215 => (if t215 = true then ((wharfagelaw0_Num.f t202).bind fun t216 => (if t216 = 0 then ((wharfagelaw0_Num.f t206).bind fun t217 => (if t217 = 2300 then ((wharfagelaw0_Num.f bt212.2).bind fun t218 => (if t218 = 2300 then (if 0 < (y196.length : Int) then ((script_May.f k ((rd_T40 y196 0).f0) ((rd_T40 y196 0).f1) ((rd_T40 y196 0).f2) ((rd_T40 y196 0).f3) ((rd_T40 y196 0).f4) ((rd_T40 y196 0).f5) ((rd_T40 y196 0).f6) ((rd_T40 y196 0).f7) ((rd_T40 y196 0).f8.f0) ((rd_T40 y196 0).f8.f1)).bind fun t220 => (some t220)) else (none)) else (none))) else (none))) else (none))) else (none))) else (none))) else (none))) = some r := H
 have A3 := Aside0.mk A30
 clear A30
 obtain ⟨y209, hy209⟩ : ∃ y_ : List (S40), y_ = (([(⟨4, 0, 0, 0, 0, 1, false, (⟨#[]⟩ : ByteArray), (⟨0, ([] : List (S63))⟩ : S38)⟩ : S40)] : List (S40))) := ⟨_, rfl⟩
 replace H : ((script_Show.f k y209).bind fun bt212 => (if t199.toList = ([48, 32, 49, 32, 50, 32, 48, 32, 48, 32, 48, 32, 98, 51, 58, 49, 58, 120, 53, 32, 48, 32, 48, 32, 48, 32, 51, 32, 48, 32, 103, 48, 58, 57, 32, 48, 32, 48, 32, 48, 32, 48, 32, 48, 32, 98, 48, 58, 57, 32, 49, 32, 50, 32, 100, 49, 32, 49, 32, 53, 32, 117] : List UInt8) then ((wharfagelaw0_Num.f t200).bind fun t214 => (if t214 = 0 then ((wharfagelaw0_SameActs.f k y196 t201).bind fun t215 => (if t215 = true then ((wharfagelaw0_Num.f t202).bind fun t216 => (if t216 = 0 then ((wharfagelaw0_Num.f t206).bind fun t217 => (if t217 = 2300 then ((wharfagelaw0_Num.f bt212.2).bind fun t218 => (if t218 = 2300 then (if 0 < (y196.length : Int) then ((script_May.f k ((rd_T40 y196 0).f0) ((rd_T40 y196 0).f1) ((rd_T40 y196 0).f2) ((rd_T40 y196 0).f3) ((rd_T40 y196 0).f4) ((rd_T40 y196 0).f5) ((rd_T40 y196 0).f6) ((rd_T40 y196 0).f7) ((rd_T40 y196 0).f8.f0) ((rd_T40 y196 0).f8.f1)).bind fun t220 => (some t220)) else (none)) else (none))) else (none))) else (none))) else (none))) else (none))) else (none))) = some r := by first | (rw [hy209]; with_reducible exact H) | (have H2_ := (Option.bind_some _ _).symm.trans H; rw [hy209]; with_reducible exact H2_) | (have H2_ := (Option.bind_some _ _).symm.trans H; with_reducible exact H2_) | with_reducible exact H | (rw [hy209]; exact H) | exact H
 have Ny209 := Aside0.mk hy209
 clear hy209
 replace H := Option.bind_eq_some_iff.mp H
 obtain ⟨⟨t212, t213⟩, A40, H⟩ := H
 replace H : (if t199.toList = ([48, 32, 49, 32, 50, 32, 48, 32, 48, 32, 48, 32, 98, 51, 58, 49, 58, 120, 53, 32, 48, 32, 48, 32, 48, 32, 51, 32, 48, 32, 103, 48, 58, 57, 32, 48, 32, 48, 32, 48, 32, 48, 32, 48, 32, 98, 48, 58, 57, 32, 49, 32, 50, 32, 100, 49, 32, 49, 32, 53, 32, 117] : List UInt8) then ((wharfagelaw0_Num.f t200).bind fun t214 => (if t214 = 0 then ((wharfagelaw0_SameActs.f k y196 t201).bind fun t215 => (if t215 = true then ((wharfagelaw0_Num.f t202).bind fun t216 => (if t216 = 0 then ((wharfagelaw0_Num.f t206).bind fun t217 => (if t217 = 2300 then ((wharfagelaw0_Num.f t213).bind fun t218 => (if t218 = 2300 then (if 0 < (y196.length : Int) then ((script_May.f k ((rd_T40 y196 0).f0) ((rd_T40 y196 0).f1) ((rd_T40 y196 0).f2) ((rd_T40 y196 0).f3) ((rd_T40 y196 0).f4) ((rd_T40 y196 0).f5) ((rd_T40 y196 0).f6) ((rd_T40 y196 0).f7) ((rd_T40 y196 0).f8.f0) ((rd_T40 y196 0).f8.f1)).bind fun t220 => (some t220)) else (none)) else (none))) else (none))) else (none))) else (none))) else (none))) else (none)) = some r := H
 have A4 := Aside0.mk A40
 clear A40
 by_cases c5 : t199.toList = ([48, 32, 49, 32, 50, 32, 48, 32, 48, 32, 48, 32, 98, 51, 58, 49, 58, 120, 53, 32, 48, 32, 48, 32, 48, 32, 51, 32, 48, 32, 103, 48, 58, 57, 32, 48, 32, 48, 32, 48, 32, 48, 32, 48, 32, 98, 48, 58, 57, 32, 49, 32, 50, 32, 100, 49, 32, 49, 32, 53, 32, 117] : List UInt8)
 ·rw [if_pos c5] at H
  have c5b0 : (t199.toList == ([48, 32, 49, 32, 50, 32, 48, 32, 48, 32, 48, 32, 98, 51, 58, 49, 58, 120, 53, 32, 48, 32, 48, 32, 48, 32, 51, 32, 48, 32, 103, 48, 58, 57, 32, 48, 32, 48, 32, 48, 32, 48, 32, 48, 32, 98, 48, 58, 57, 32, 49, 32, 50, 32, 100, 49, 32, 49, 32, 53, 32, 117] : List UInt8)) = true := beq_iff_eq.mpr c5
  have c5b1 : (t199.toList != ([48, 32, 49, 32, 50, 32, 48, 32, 48, 32, 48, 32, 98, 51, 58, 49, 58, 120, 53, 32, 48, 32, 48, 32, 48, 32, 51, 32, 48, 32, 103, 48, 58, 57, 32, 48, 32, 48, 32, 48, 32, 48, 32, 48, 32, 98, 48, 58, 57, 32, 49, 32, 50, 32, 100, 49, 32, 49, 32, 53, 32, 117] : List UInt8)) = false := bne_eq_false_iff_eq.mpr c5
  clear c5
  replace H := Option.bind_eq_some_iff.mp H
  obtain ⟨t214, A60, H⟩ := H
  replace H : (if t214 = 0 then ((wharfagelaw0_SameActs.f k y196 t201).bind fun t215 => (if t215 = true then ((wharfagelaw0_Num.f t202).bind fun t216 => (if t216 = 0 then ((wharfagelaw0_Num.f t206).bind fun t217 => (if t217 = 2300 then ((wharfagelaw0_Num.f t213).bind fun t218 => (if t218 = 2300 then (if 0 < (y196.length : Int) then ((script_May.f k ((rd_T40 y196 0).f0) ((rd_T40 y196 0).f1) ((rd_T40 y196 0).f2) ((rd_T40 y196 0).f3) ((rd_T40 y196 0).f4) ((rd_T40 y196 0).f5) ((rd_T40 y196 0).f6) ((rd_T40 y196 0).f7) ((rd_T40 y196 0).f8.f0) ((rd_T40 y196 0).f8.f1)).bind fun t220 => (some t220)) else (none)) else (none))) else (none))) else (none))) else (none))) else (none)) = some r := H
  have A6 := Aside0.mk A60
  clear A60
  by_cases c7 : t214 = 0
  ·rw [if_pos c7] at H
   have c7b0 : (t214 == 0) = true := beq_iff_eq.mpr c7
   have c7b1 : (t214 != 0) = false := bne_eq_false_iff_eq.mpr c7
   clear c7
   replace H := Option.bind_eq_some_iff.mp H
   obtain ⟨t215, A80, H⟩ := H
   replace H : (if t215 = true then ((wharfagelaw0_Num.f t202).bind fun t216 => (if t216 = 0 then ((wharfagelaw0_Num.f t206).bind fun t217 => (if t217 = 2300 then ((wharfagelaw0_Num.f t213).bind fun t218 => (if t218 = 2300 then (if 0 < (y196.length : Int) then ((script_May.f k ((rd_T40 y196 0).f0) ((rd_T40 y196 0).f1) ((rd_T40 y196 0).f2) ((rd_T40 y196 0).f3) ((rd_T40 y196 0).f4) ((rd_T40 y196 0).f5) ((rd_T40 y196 0).f6) ((rd_T40 y196 0).f7) ((rd_T40 y196 0).f8.f0) ((rd_T40 y196 0).f8.f1)).bind fun t220 => (some t220)) else (none)) else (none))) else (none))) else (none))) else (none)) = some r := H
   have A8 := Aside0.mk A80
   clear A80
   by_cases c9 : t215 = true
   ·subst c9
    have H1 : ((wharfagelaw0_Num.f t202).bind fun t216 => (if t216 = 0 then ((wharfagelaw0_Num.f t206).bind fun t217 => (if t217 = 2300 then ((wharfagelaw0_Num.f t213).bind fun t218 => (if t218 = 2300 then (if 0 < (y196.length : Int) then ((script_May.f k ((rd_T40 y196 0).f0) ((rd_T40 y196 0).f1) ((rd_T40 y196 0).f2) ((rd_T40 y196 0).f3) ((rd_T40 y196 0).f4) ((rd_T40 y196 0).f5) ((rd_T40 y196 0).f6) ((rd_T40 y196 0).f7) ((rd_T40 y196 0).f8.f0) ((rd_T40 y196 0).f8.f1)).bind fun t220 => (some t220)) else (none)) else (none))) else (none))) else (none))) = some r := by rw [if_pos rfl] at H; exact H
    clear H
    have H := H1
    clear H1
    replace H := Option.bind_eq_some_iff.mp H
    obtain ⟨t216, A100, H⟩ := H
    replace H : (if t216 = 0 then ((wharfagelaw0_Num.f t206).bind fun t217 => (if t217 = 2300 then ((wharfagelaw0_Num.f t213).bind fun t218 => (if t218 = 2300 then (if 0 < (y196.length : Int) then ((script_May.f k ((rd_T40 y196 0).f0) ((rd_T40 y196 0).f1) ((rd_T40 y196 0).f2) ((rd_T40 y196 0).f3) ((rd_T40 y196 0).f4) ((rd_T40 y196 0).f5) ((rd_T40 y196 0).f6) ((rd_T40 y196 0).f7) ((rd_T40 y196 0).f8.f0) ((rd_T40 y196 0).f8.f1)).bind fun t220 => (some t220)) else (none)) else (none))) else (none))) else (none)) = some r := H
    have A10 := Aside0.mk A100
    clear A100
    by_cases c11 : t216 = 0
    ·rw [if_pos c11] at H
     have c11b0 : (t216 == 0) = true := beq_iff_eq.mpr c11
     have c11b1 : (t216 != 0) = false := bne_eq_false_iff_eq.mpr c11
     clear c11
     replace H := Option.bind_eq_some_iff.mp H
     obtain ⟨t217, A120, H⟩ := H
     replace H : (if t217 = 2300 then ((wharfagelaw0_Num.f t213).bind fun t218 => (if t218 = 2300 then (if 0 < (y196.length : Int) then ((script_May.f k ((rd_T40 y196 0).f0) ((rd_T40 y196 0).f1) ((rd_T40 y196 0).f2) ((rd_T40 y196 0).f3) ((rd_T40 y196 0).f4) ((rd_T40 y196 0).f5) ((rd_T40 y196 0).f6) ((rd_T40 y196 0).f7) ((rd_T40 y196 0).f8.f0) ((rd_T40 y196 0).f8.f1)).bind fun t220 => (some t220)) else (none)) else (none))) else (none)) = some r := H
     have A12 := Aside0.mk A120
     clear A120
     by_cases c13 : t217 = 2300
     ·rw [if_pos c13] at H
      have c13b0 : (t217 == 2300) = true := beq_iff_eq.mpr c13
      have c13b1 : (t217 != 2300) = false := bne_eq_false_iff_eq.mpr c13
      clear c13
      replace H := Option.bind_eq_some_iff.mp H
      obtain ⟨t218, A140, H⟩ := H
      replace H : (if t218 = 2300 then (if 0 < (y196.length : Int) then ((script_May.f k ((rd_T40 y196 0).f0) ((rd_T40 y196 0).f1) ((rd_T40 y196 0).f2) ((rd_T40 y196 0).f3) ((rd_T40 y196 0).f4) ((rd_T40 y196 0).f5) ((rd_T40 y196 0).f6) ((rd_T40 y196 0).f7) ((rd_T40 y196 0).f8.f0) ((rd_T40 y196 0).f8.f1)).bind fun t220 => (some t220)) else (none)) else (none)) = some r := H
      have A14 := Aside0.mk A140
      clear A140
      by_cases c15 : t218 = 2300
      ·rw [if_pos c15] at H
       have c15b0 : (t218 == 2300) = true := beq_iff_eq.mpr c15
       have c15b1 : (t218 != 2300) = false := bne_eq_false_iff_eq.mpr c15
       clear c15
       by_cases c16 : 0 < (y196.length : Int)
       ·rw [if_pos c16] at H
        have c16b0 : decide (0 < (y196.length : Int)) = true := decide_eq_true c16
        have c16b1 : decide (0 < y196.length) = true := decide_eq_true (by omega)
        clear c16
        replace H := Option.bind_eq_some_iff.mp H
        obtain ⟨t220, A170, H⟩ := H
        replace H : (some t220) = some r := H
        have A17 := Aside0.mk A170
        clear A170
        obtain rfl := Option.some.inj H
        go_enter Tryd.func17, Tryd.ntmps17
        go_wp2_with (first | ((with_reducible refine gate_dst (N := 13) rfl ?_); refine Kd.R_lit k65 _ 65 ?hg (N := 13) ?hd (xs := ([(⟨5, false⟩ : S65)] : List (S65))) (inner := [.int .i64 5, .bool false]) (ok := fun _ => True) (okp := fun _ => True) ?hr ?hp (fun _ hk => hk) trivial (Below.refl _ _) (Nat.le_refl _) (by simp) ?_; (case hd => rfl); (case hg => rfl); (case hr => first | (go_simp; done) | (go_simp; rfl)); (case hp => exact (Reps.c2 (show Kd.M k65 _ _ _ (⟨5, false⟩ : S65) [.int .i64 5, .bool false] from (k65_mkM _ _ _ (⟨5, false⟩ : S65) )) (Reps.none _ _))); intro v191 w18 ho19 hb hg_ hnew_; clear hg_ hnew_; (first | rw [← Ny190.out] at ho19 | (simp only [Int.reduceToNat] at ho19; rw [← Ny190.out] at ho19)); have n0_ := Aside0.mk (Kd.R_lower ho19 (below_size (by repeat (first | (with_reducible first | exact HB.out | apply below_alloc | apply pw_below_drewN | apply below_drew1) | exact HB.out)))); have n1_ := Aside0.mk (below_step (by repeat (first | (with_reducible first | exact HB.out | apply below_alloc | apply pw_below_drewN | apply below_drew1) | exact HB.out)) hb); clear HB; have O4 := n0_; have HB := n1_; clear n0_ n1_; clear hb ho19; obtain ⟨Ao20, co20, eo20⟩ := Kd.R_slice O4.out; subst eo20) | ((with_reducible refine gate_dst (N := 15) rfl ?_); refine Kd.N_lit k63 _ 63 ?hg (N' := 15) ?hd (xs := ([(⟨2, true, 1, y190⟩ : S63)] : List (S63))) (inner := [.int .i64 2, .bool true, .int .i64 1, .slice Ao20 y190.length co20]) (ok := (fun _ => True)) (okp := (fun _ => True)) ?hr ?hp (fun _ hk => hk) ((show ∀ k_, w18.heap.size ≤ k_ → (fun _ => True) k_ from fun k_ hk => trivial) _ (Nat.le_refl _)) (Below.refl _ _) (Nat.le_refl _) (by simp) ?_; (case hd => rfl); (case hg => rfl); (case hr => first | (go_simp; done) | (go_simp; rfl)); (case hp => exact (Reps.c4 (show Kd.FK k63 _ _ (⟨2, true, 1, y190⟩ : S63) [.int .i64 2, .bool true, .int .i64 1, .slice Ao20 y190.length co20] from (k63_mkF _ _ (⟨2, true, 1, y190⟩ : S63) (Kd.R_reads' (Kd.R_mono (ok' := (fun _ => True)) (O4.out) (fun k_ hk => trivial))).2.1 (Kd.R_F (Kd.R_mono (ok' := (fun _ => True)) (O4.out) (fun k_ hk => trivial))))) (Reps.none _ _))); intro v194 w21 ho22 hb hg_ hnew_; clear hg_ hnew_; (first | rw [← Ny193.out] at ho22 | (simp only [Int.reduceToNat] at ho22; rw [← Ny193.out] at ho22)); have n0_ := Aside0.mk (Kd.N_lower ho22 (below_size (by repeat (first | (with_reducible first | exact HB.out | apply below_alloc | apply pw_below_drewN | apply below_drew1) | exact HB.out)))); have n1_ := Aside0.mk (below_step (by repeat (first | (with_reducible first | exact HB.out | apply below_alloc | apply pw_below_drewN | apply below_drew1) | exact HB.out)) hb); clear HB; clear O4; have O5 := n0_; have HB := n1_; clear n0_ n1_; clear hb ho22; obtain ⟨Ao23, co23, eo23⟩ := Kd.N_slice O5.out; subst eo23) | ((with_reducible refine gate_dst (N := 18) rfl ?_); refine Kd.N_lit k40 _ 40 ?hg (N' := 18) ?hd (xs := ([(⟨0, 1, 2, 0, 0, 0, false, (⟨#[49, 58, 120]⟩ : ByteArray), (⟨0, ([] : List (S63))⟩ : S38)⟩ : S40), (⟨5, 0, 0, 0, 3, 0, true, (⟨#[]⟩ : ByteArray), (⟨0, ([] : List (S63))⟩ : S38)⟩ : S40), (⟨9, 0, 0, 0, 0, 0, false, (⟨#[]⟩ : ByteArray), (⟨9, y193⟩ : S38)⟩ : S40)] : List (S40))) (inner := [.int .i64 0, .int .i64 1, .int .i64 2, .int .i64 0, .int .i64 0, .int .i64 0, .bool false, .string (⟨#[49, 58, 120]⟩ : ByteArray), .int .i64 0, .slice none 0 0, .int .i64 5, .int .i64 0, .int .i64 0, .int .i64 0, .int .i64 3, .int .i64 0, .bool true, .string (⟨#[]⟩ : ByteArray), .int .i64 0, .slice none 0 0, .int .i64 9, .int .i64 0, .int .i64 0, .int .i64 0, .int .i64 0, .int .i64 0, .bool false, .string (⟨#[]⟩ : ByteArray), .int .i64 9, .slice Ao23 y193.length co23]) (ok := (fun _ => True)) (okp := (fun _ => True)) ?hr ?hp (fun _ hk => hk) ((show ∀ k_, w21.heap.size ≤ k_ → (fun _ => True) k_ from fun k_ hk => trivial) _ (Nat.le_refl _)) (Below.refl _ _) (Nat.le_refl _) (by simp) ?_; (case hd => rfl); (case hg => rfl); (case hr => first | (go_simp; done) | (go_simp; rfl)); (case hp => exact (Reps.c10 (show Kd.FK k40 _ _ (⟨0, 1, 2, 0, 0, 0, false, (⟨#[49, 58, 120]⟩ : ByteArray), (⟨0, ([] : List (S63))⟩ : S38)⟩ : S40) [.int .i64 0, .int .i64 1, .int .i64 2, .int .i64 0, .int .i64 0, .int .i64 0, .bool false, .string (⟨#[49, 58, 120]⟩ : ByteArray), .int .i64 0, .slice none 0 0] from (k40_mkF _ _ (⟨0, 1, 2, 0, 0, 0, false, (⟨#[49, 58, 120]⟩ : ByteArray), (⟨0, ([] : List (S63))⟩ : S38)⟩ : S40) (Nat.le_refl _) (Kd.F_nil _ _ _))) (Reps.c10 (show Kd.FK k40 _ _ (⟨5, 0, 0, 0, 3, 0, true, (⟨#[]⟩ : ByteArray), (⟨0, ([] : List (S63))⟩ : S38)⟩ : S40) [.int .i64 5, .int .i64 0, .int .i64 0, .int .i64 0, .int .i64 3, .int .i64 0, .bool true, .string (⟨#[]⟩ : ByteArray), .int .i64 0, .slice none 0 0] from (k40_mkF _ _ (⟨5, 0, 0, 0, 3, 0, true, (⟨#[]⟩ : ByteArray), (⟨0, ([] : List (S63))⟩ : S38)⟩ : S40) (Nat.le_refl _) (Kd.F_nil _ _ _))) (Reps.c10 (show Kd.FK k40 _ _ (⟨9, 0, 0, 0, 0, 0, false, (⟨#[]⟩ : ByteArray), (⟨9, y193⟩ : S38)⟩ : S40) [.int .i64 9, .int .i64 0, .int .i64 0, .int .i64 0, .int .i64 0, .int .i64 0, .bool false, .string (⟨#[]⟩ : ByteArray), .int .i64 9, .slice Ao23 y193.length co23] from (k40_mkF _ _ (⟨9, 0, 0, 0, 0, 0, false, (⟨#[]⟩ : ByteArray), (⟨9, y193⟩ : S38)⟩ : S40) (Kd.N_reads' (Kd.N_mono (ok' := (fun _ => True)) (O5.out) (fun k_ hk => trivial))).2.1 (Kd.N_F (Kd.N_mono (ok' := (fun _ => True)) (O5.out) (fun k_ hk => trivial))))) (Reps.none _ _))))); intro v197 w24 ho25 hb hg_ hnew_; clear hg_ hnew_; (first | rw [← Ny196.out] at ho25 | (simp only [Int.reduceToNat] at ho25; rw [← Ny196.out] at ho25)); have n0_ := Aside0.mk (Kd.N_lower ho25 (below_size (by repeat (first | (with_reducible first | exact HB.out | apply below_alloc | apply pw_below_drewN | apply below_drew1) | exact HB.out)))); have n1_ := Aside0.mk (below_step (by repeat (first | (with_reducible first | exact HB.out | apply below_alloc | apply pw_below_drewN | apply below_drew1) | exact HB.out)) hb); clear HB; clear O5; have O0 := n0_; have HB := n1_; clear n0_ n1_; clear hb ho25; obtain ⟨Ao26, co26, eo26⟩ := Kd.N_slice O0.out; subst eo26) | ((with_reducible refine gate_callee (f := 8) rfl ?_); refine goesL_ (some 21) rfl rfl Tryd.func8 (by kernel_rfl) rfl #[.slice Ao26 y196.length co26] rfl (by (try simp only [List.map_toArray, List.map_cons, List.map_nil]); first | done | rfl | (simp only [List.length_drop, List.length_take]; rfl)) ?_; (with_reducible refine (script_Show.calls k _ _ y196 t199 t200 _ ?side1 ?side2 (HT.out _ (by repeat (first | (with_reducible first | exact HB.out | apply below_alloc | apply pw_below_drewN | apply below_drew1) | exact HB.out))) A1.out).mono ?_); (case side1 => repeat (first | exact (Kd.N_reads' O0.out).2.2 | (with_reducible refine Kd.C_alloc ?_ _) | (with_reducible refine Kd.C_drewN ?_ _) | (with_reducible refine Kd.C_drew ?_))); (case side2 => exact (Kd.N_reads' O0.out).2.1); rintro e w27 ⟨rfl, hb⟩; refine ⟨_, rfl, ?_⟩; have n0_ := Aside0.mk (Kd.N_below (by (with_reducible repeat (first | apply Kd.N_alloc | apply Kd.N_drewN | apply Kd.N_drew)); exact O0.out) hb); have n1_ := Aside0.mk (below_step (by repeat (first | (with_reducible first | exact HB.out | apply below_alloc | apply pw_below_drewN | apply below_drew1) | exact HB.out)) hb); clear O0; clear HB; have O0 := n0_; have HB := n1_; clear n0_ n1_; (try clear hb); (try clear hb2); (try clear hk); (try clear hi)) | ((with_reducible refine gate_callee (f := 10) rfl ?_); refine goesL_ (some 26) rfl rfl Tryd.func10 (by kernel_rfl) rfl #[.string t199] rfl (by (try simp only [List.map_toArray, List.map_cons, List.map_nil]); first | done | rfl | (simp only [List.length_drop, List.length_take]; rfl)) ?_; (with_reducible refine (script_Parse.calls k t199 t201 t202 _ (HT.out _ (by repeat (first | (with_reducible first | exact HB.out | apply below_alloc | apply pw_below_drewN | apply below_drew1) | exact HB.out))) A2.out).mono ?_); rintro e w28 ⟨v203, rfl, ho0, hb⟩; refine ⟨_, rfl, ?_⟩; have n0_ := Aside0.mk (Kd.N_elder' (by (with_reducible repeat (first | apply Kd.N_alloc | apply Kd.N_drewN | apply Kd.N_drew)); exact O0.out) (by first | exact Kd.N_base ho0 | exact Kd.R_base ho0) hb); have n1_ := Aside0.mk (Kd.N_lower (Kd.N_mono (ok' := fun k_ => some k_ ≠ (.slice Ao26 y196.length co26 : Value).ownBlock) (Kd.R_N (Kd.R_bound ho0)) (fun k_ hk_ => (Kd.fresh' (Kd.N_lt (by (with_reducible repeat (first | apply Kd.N_alloc | apply Kd.N_drewN | apply Kd.N_drew)); exact O0.out)) k_ hk_.2.1))) (below_size (by repeat (first | (with_reducible first | exact HB.out | apply below_alloc | apply pw_below_drewN | apply below_drew1) | exact HB.out)))); have n2_ := Aside0.mk (below_step (by repeat (first | (with_reducible first | exact HB.out | apply below_alloc | apply pw_below_drewN | apply below_drew1) | exact HB.out)) hb); clear O0; clear HB; have O0 := n0_; have O1 := n1_; have HB := n2_; clear n0_ n1_ n2_; (try clear hb); (try clear hb2); (try clear hk); (try clear hi); (try clear ho0)) | ((with_reducible refine gate_callee (f := 10) rfl ?_); refine goesL_ (some 30) rfl rfl Tryd.func10 (by kernel_rfl) rfl #[.string (⟨#[48, 32]⟩ : ByteArray)] rfl (by (try simp only [List.map_toArray, List.map_cons, List.map_nil]); first | done | rfl | (simp only [List.length_drop, List.length_take]; rfl)) ?_; (with_reducible refine (script_Parse.calls k (⟨#[48, 32]⟩ : ByteArray) t205 t206 _ (HT.out _ (by repeat (first | (with_reducible first | exact HB.out | apply below_alloc | apply pw_below_drewN | apply below_drew1) | exact HB.out))) A3.out).mono ?_); rintro e w29 ⟨v207, rfl, ho0, hb⟩; refine ⟨_, rfl, ?_⟩; have n0_ := Aside0.mk (Kd.N_elder' (by (with_reducible repeat (first | apply Kd.N_alloc | apply Kd.N_drewN | apply Kd.N_drew)); exact O0.out) (by first | exact Kd.N_base ho0 | exact Kd.R_base ho0) hb); have n1_ := Aside0.mk (Kd.N_elder' (by (with_reducible repeat (first | apply Kd.N_alloc | apply Kd.N_drewN | apply Kd.N_drew)); exact O1.out) (by first | exact Kd.N_base ho0 | exact Kd.R_base ho0) hb); have n2_ := Aside0.mk (Kd.N_lower (Kd.N_mono (ok' := fun k_ => some k_ ≠ (.slice Ao26 y196.length co26 : Value).ownBlock ∧ some k_ ≠ (v203 : Value).ownBlock) (Kd.R_N (Kd.R_bound ho0)) (fun k_ hk_ => ⟨(Kd.fresh' (Kd.N_lt (by (with_reducible repeat (first | apply Kd.N_alloc | apply Kd.N_drewN | apply Kd.N_drew)); exact O0.out)) k_ hk_.2.1), (Kd.fresh' (Kd.N_lt (by (with_reducible repeat (first | apply Kd.N_alloc | apply Kd.N_drewN | apply Kd.N_drew)); exact O1.out)) k_ hk_.2.1)⟩)) (below_size (by repeat (first | (with_reducible first | exact HB.out | apply below_alloc | apply pw_below_drewN | apply below_drew1) | exact HB.out)))); have n3_ := Aside0.mk (below_step (by repeat (first | (with_reducible first | exact HB.out | apply below_alloc | apply pw_below_drewN | apply below_drew1) | exact HB.out)) hb); clear O0; clear O1; clear HB; have O0 := n0_; have O1 := n1_; have O2 := n2_; have HB := n3_; clear n0_ n1_ n2_ n3_; (try clear hb); (try clear hb2); (try clear hk); (try clear hi); (try clear ho0)) | ((with_reducible refine gate_dst (N := 35) rfl ?_); refine Kd.N_lit k40 _ 40 ?hg (N' := 35) ?hd (xs := ([(⟨4, 0, 0, 0, 0, 1, false, (⟨#[]⟩ : ByteArray), (⟨0, ([] : List (S63))⟩ : S38)⟩ : S40)] : List (S40))) (inner := [.int .i64 4, .int .i64 0, .int .i64 0, .int .i64 0, .int .i64 0, .int .i64 1, .bool false, .string (⟨#[]⟩ : ByteArray), .int .i64 0, .slice none 0 0]) (ok := (fun k_ => some k_ ≠ (.slice Ao26 y196.length co26 : Value).ownBlock ∧ some k_ ≠ (v203 : Value).ownBlock ∧ some k_ ≠ (v207 : Value).ownBlock)) (okp := (fun k_ => some k_ ≠ (.slice Ao26 y196.length co26 : Value).ownBlock ∧ some k_ ≠ (v203 : Value).ownBlock ∧ some k_ ≠ (v207 : Value).ownBlock)) ?hr ?hp (fun _ hk => hk) ((show ∀ k_, w29.heap.size ≤ k_ → (fun k_ => some k_ ≠ (.slice Ao26 y196.length co26 : Value).ownBlock ∧ some k_ ≠ (v203 : Value).ownBlock ∧ some k_ ≠ (v207 : Value).ownBlock) k_ from fun k_ hk => ⟨Kd.fresh' (Kd.N_lt (by (with_reducible repeat (first | apply Kd.N_alloc | apply Kd.N_drewN | apply Kd.N_drew)); exact O0.out)) k_ hk, Kd.fresh' (Kd.N_lt (by (with_reducible repeat (first | apply Kd.N_alloc | apply Kd.N_drewN | apply Kd.N_drew)); exact O1.out)) k_ hk, Kd.fresh' (Kd.N_lt (by (with_reducible repeat (first | apply Kd.N_alloc | apply Kd.N_drewN | apply Kd.N_drew)); exact O2.out)) k_ hk⟩) _ (Nat.le_refl _)) (Below.refl _ _) (Nat.le_refl _) (by simp) ?_; (case hd => rfl); (case hg => rfl); (case hr => first | (go_simp; done) | (go_simp; rfl)); (case hp => exact (Reps.c10 (show Kd.FK k40 _ _ (⟨4, 0, 0, 0, 0, 1, false, (⟨#[]⟩ : ByteArray), (⟨0, ([] : List (S63))⟩ : S38)⟩ : S40) [.int .i64 4, .int .i64 0, .int .i64 0, .int .i64 0, .int .i64 0, .int .i64 1, .bool false, .string (⟨#[]⟩ : ByteArray), .int .i64 0, .slice none 0 0] from (k40_mkF _ _ (⟨4, 0, 0, 0, 0, 1, false, (⟨#[]⟩ : ByteArray), (⟨0, ([] : List (S63))⟩ : S38)⟩ : S40) (Nat.le_refl _) (Kd.F_nil _ _ _))) (Reps.none _ _))); intro v210 w30 ho31 hb hg_ hnew_; clear hg_ hnew_; (first | rw [← Ny209.out] at ho31 | (simp only [Int.reduceToNat] at ho31; rw [← Ny209.out] at ho31)); have n0_ := Aside0.mk (Kd.N_elder' (by (with_reducible repeat (first | apply Kd.N_alloc | apply Kd.N_drewN | apply Kd.N_drew)); exact O0.out) (Kd.N_base ho31) hb); have n1_ := Aside0.mk (Kd.N_elder' (by (with_reducible repeat (first | apply Kd.N_alloc | apply Kd.N_drewN | apply Kd.N_drew)); exact O1.out) (Kd.N_base ho31) hb); have n2_ := Aside0.mk (Kd.N_elder' (by (with_reducible repeat (first | apply Kd.N_alloc | apply Kd.N_drewN | apply Kd.N_drew)); exact O2.out) (Kd.N_base ho31) hb); have n3_ := Aside0.mk (Kd.N_lower ho31 (below_size (by repeat (first | (with_reducible first | exact HB.out | apply below_alloc | apply pw_below_drewN | apply below_drew1) | exact HB.out)))); have n4_ := Aside0.mk (below_step (by repeat (first | (with_reducible first | exact HB.out | apply below_alloc | apply pw_below_drewN | apply below_drew1) | exact HB.out)) hb); clear O0; clear O1; clear O2; clear HB; have O0 := n0_; have O1 := n1_; have O2 := n2_; have O3 := n3_; have HB := n4_; clear n0_ n1_ n2_ n3_ n4_; clear hb ho31; obtain ⟨Ao32, co32, eo32⟩ := Kd.N_slice O3.out; subst eo32) | ((with_reducible refine gate_callee (f := 8) rfl ?_); refine goesL_ (some 36) rfl rfl Tryd.func8 (by kernel_rfl) rfl #[.slice Ao32 y209.length co32] rfl (by (try simp only [List.map_toArray, List.map_cons, List.map_nil]); first | done | rfl | (simp only [List.length_drop, List.length_take]; rfl)) ?_; (with_reducible refine (script_Show.calls k _ _ y209 t212 t213 _ ?side1 ?side2 (HT.out _ (by repeat (first | (with_reducible first | exact HB.out | apply below_alloc | apply pw_below_drewN | apply below_drew1) | exact HB.out))) A4.out).mono ?_); (case side1 => repeat (first | exact (Kd.N_reads' O3.out).2.2 | (with_reducible refine Kd.C_alloc ?_ _) | (with_reducible refine Kd.C_drewN ?_ _) | (with_reducible refine Kd.C_drew ?_))); (case side2 => exact (Kd.N_reads' O3.out).2.1); rintro e w33 ⟨rfl, hb⟩; refine ⟨_, rfl, ?_⟩; have n0_ := Aside0.mk (Kd.N_below (by (with_reducible repeat (first | apply Kd.N_alloc | apply Kd.N_drewN | apply Kd.N_drew)); exact O0.out) hb); have n1_ := Aside0.mk (Kd.N_below (by (with_reducible repeat (first | apply Kd.N_alloc | apply Kd.N_drewN | apply Kd.N_drew)); exact O1.out) hb); have n2_ := Aside0.mk (Kd.N_below (by (with_reducible repeat (first | apply Kd.N_alloc | apply Kd.N_drewN | apply Kd.N_drew)); exact O2.out) hb); have n3_ := Aside0.mk (Kd.N_below (by (with_reducible repeat (first | apply Kd.N_alloc | apply Kd.N_drewN | apply Kd.N_drew)); exact O3.out) hb); have n4_ := Aside0.mk (below_step (by repeat (first | (with_reducible first | exact HB.out | apply below_alloc | apply pw_below_drewN | apply below_drew1) | exact HB.out)) hb); clear O0; clear O1; clear O2; clear O3; clear HB; have O0 := n0_; have O1 := n1_; have O2 := n2_; have O3 := n3_; have HB := n4_; clear n0_ n1_ n2_ n3_ n4_; (try clear hb); (try clear hb2); (try clear hk); (try clear hi)) | (go_at_call 12; (with_reducible refine (wharfagelaw0_Num.calls t200 t214 _ A6.out).mono ?_); rintro e w' ⟨rfl, ⟨nd, rfl⟩⟩; obtain ⟨Ao34, co34, eo34⟩ := Kd.N_slice O1.out; subst eo34) | (go_at_call 13; (with_reducible refine (wharfagelaw0_SameActs.calls k _ _ y196 _ _ t201 true _ ?side1 ?side2 ?side3 ?side4 A8.out).mono ?_); (case side1 => repeat (first | exact (Kd.N_reads' O0.out).2.2 | (with_reducible refine Kd.C_alloc ?_ _) | (with_reducible refine Kd.C_drewN ?_ _) | (with_reducible refine Kd.C_drew ?_))); (case side2 => exact (Kd.N_reads' O0.out).2.1); (case side3 => repeat (first | exact (Kd.N_reads' O1.out).2.2 | (with_reducible refine Kd.C_alloc ?_ _) | (with_reducible refine Kd.C_drewN ?_ _) | (with_reducible refine Kd.C_drew ?_))); (case side4 => exact (Kd.N_reads' O1.out).2.1); rintro e w35 ⟨rfl, hb⟩; have n0_ := Aside0.mk (Kd.N_below (by (with_reducible repeat (first | apply Kd.N_alloc | apply Kd.N_drewN | apply Kd.N_drew)); exact O0.out) hb); have n1_ := Aside0.mk (Kd.N_below (by (with_reducible repeat (first | apply Kd.N_alloc | apply Kd.N_drewN | apply Kd.N_drew)); exact O1.out) hb); have n2_ := Aside0.mk (Kd.N_below (by (with_reducible repeat (first | apply Kd.N_alloc | apply Kd.N_drewN | apply Kd.N_drew)); exact O2.out) hb); have n3_ := Aside0.mk (Kd.N_below (by (with_reducible repeat (first | apply Kd.N_alloc | apply Kd.N_drewN | apply Kd.N_drew)); exact O3.out) hb); have n4_ := Aside0.mk (below_step (by repeat (first | (with_reducible first | exact HB.out | apply below_alloc | apply pw_below_drewN | apply below_drew1) | exact HB.out)) hb); clear O0; clear O1; clear O2; clear O3; clear HB; have O0 := n0_; have O1 := n1_; have O2 := n2_; have O3 := n3_; have HB := n4_; clear n0_ n1_ n2_ n3_ n4_; (try clear hb); (try clear hb2); (try clear hk); (try clear hi)) | (go_at_call 12; (with_reducible refine (wharfagelaw0_Num.calls t202 t216 _ A10.out).mono ?_); rintro e w' ⟨rfl, ⟨nd, rfl⟩⟩) | (go_at_call 12; (with_reducible refine (wharfagelaw0_Num.calls t206 t217 _ A12.out).mono ?_); rintro e w' ⟨rfl, ⟨nd, rfl⟩⟩) | (go_at_call 12; (with_reducible refine (wharfagelaw0_Num.calls t213 t218 _ A14.out).mono ?_); rintro e w' ⟨rfl, ⟨nd, rfl⟩⟩; have p219 : 0 ≤ (0 : Int) := (by omega); have q219 : 0 < (y196.length : Int) := of_decide_eq_true (by first | (with_reducible assumption) | assumption); obtain ⟨ad219, A219_9, c219_9, e219, hx219_0, hx219_1, hx219_2, hx219_3, hx219_4, hx219_5, hx219_6, hx219_7, hx219_8, hx219_9, hl219_9, hi219_9⟩ := at_T40 (Kd.N_reads' O0.out).2.2 0 p219 q219; cases e219; obtain ⟨ce219, hce219, hMe219, hcc219⟩ := Kd.N_get O0.out z40 0 p219 (by first | exact q219 | exact of_decide_eq_true (by first | (with_reducible assumption) | assumption) | (have e_ := (Kd.N_reads' O0.out).1; omega)); obtain ⟨ua219_9, uc219_9, rfl, ul219_9, ge219_9⟩ := k40_openF hMe219; have hv219_9 := hcc219 9 _ rfl; rw [add_field _ _ 9 (by omega)] at hv219_9; replace hv219_9 := Option.some.inj (hv219_9.symm.trans hx219_9); injection hv219_9 with hva_ hvn_ hvc_; rw [hva_] at ge219_9; rw [hvc_] at ul219_9; have HL219_9 := Aside0.mk (show Kd.V k63 63 _ w.heap.size _ _ ((rd_T40 y196 0).f8.f1) from Kd.V_mk ul219_9 ge219_9); clear hva_ hvn_ hvc_ ge219_9 ul219_9; clear hcc219 hce219; have qi219 : (0 < y196.length) = True := eq_true (by omega); (try rw [show ((0 : Int)).toNat = 0 from rfl] at hx219_0); (try rw [show 0 * 10 = 0 from rfl] at hx219_0); (try rw [Addr.add_zero'] at hx219_0); (try rw [show ((0 : Int)).toNat = 0 from rfl] at hx219_1); (try rw [show 0 * 10 = 0 from rfl] at hx219_1); (try rw [Addr.add_zero'] at hx219_1); (try rw [show ((0 : Int)).toNat = 0 from rfl] at hx219_2); (try rw [show 0 * 10 = 0 from rfl] at hx219_2); (try rw [Addr.add_zero'] at hx219_2); (try rw [show ((0 : Int)).toNat = 0 from rfl] at hx219_3); (try rw [show 0 * 10 = 0 from rfl] at hx219_3); (try rw [Addr.add_zero'] at hx219_3); (try rw [show ((0 : Int)).toNat = 0 from rfl] at hx219_4); (try rw [show 0 * 10 = 0 from rfl] at hx219_4); (try rw [Addr.add_zero'] at hx219_4); (try rw [show ((0 : Int)).toNat = 0 from rfl] at hx219_5); (try rw [show 0 * 10 = 0 from rfl] at hx219_5); (try rw [Addr.add_zero'] at hx219_5); (try rw [show ((0 : Int)).toNat = 0 from rfl] at hx219_6); (try rw [show 0 * 10 = 0 from rfl] at hx219_6); (try rw [Addr.add_zero'] at hx219_6); (try rw [show ((0 : Int)).toNat = 0 from rfl] at hx219_7); (try rw [show 0 * 10 = 0 from rfl] at hx219_7); (try rw [Addr.add_zero'] at hx219_7); (try rw [show ((0 : Int)).toNat = 0 from rfl] at hx219_8); (try rw [show 0 * 10 = 0 from rfl] at hx219_8); (try rw [Addr.add_zero'] at hx219_8); (try rw [show ((0 : Int)).toNat = 0 from rfl] at hx219_9); (try rw [show 0 * 10 = 0 from rfl] at hx219_9); (try rw [Addr.add_zero'] at hx219_9); have HR219_9 := Aside0.mk hi219_9; have HC219_9 := Aside0.mk hl219_9; clear hi219_9 hl219_9; replace p219 := eq_true p219; replace q219 := eq_true q219) | (go_at_call 14; (with_reducible refine (script_May.calls k ((rd_T40 y196 0).f0) ((rd_T40 y196 0).f1) ((rd_T40 y196 0).f2) ((rd_T40 y196 0).f3) ((rd_T40 y196 0).f4) ((rd_T40 y196 0).f5) ((rd_T40 y196 0).f6) ((rd_T40 y196 0).f7) ((rd_T40 y196 0).f8.f0) _ _ ((rd_T40 y196 0).f8.f1) t220 _ ?side1 ?side2 A17.out).mono ?_); (case side1 => repeat (first | exact (by repeat (first | (with_reducible exact HR219_9.out) | (with_reducible refine Kd.C_alloc ?_ _) | (with_reducible refine Kd.C_drewN ?_ _) | (with_reducible refine Kd.C_drew ?_) | exact HR219_9.out)) | (with_reducible refine Kd.C_alloc ?_ _) | (with_reducible refine Kd.C_drewN ?_ _) | (with_reducible refine Kd.C_drew ?_))); (case side2 => exact HC219_9.out); rintro e w36 ⟨rfl, hb⟩; have n0_ := Aside0.mk (Kd.N_below (by (with_reducible repeat (first | apply Kd.N_alloc | apply Kd.N_drewN | apply Kd.N_drew)); exact O0.out) hb); have n1_ := Aside0.mk (Kd.N_below (by (with_reducible repeat (first | apply Kd.N_alloc | apply Kd.N_drewN | apply Kd.N_drew)); exact O1.out) hb); have n2_ := Aside0.mk (Kd.N_below (by (with_reducible repeat (first | apply Kd.N_alloc | apply Kd.N_drewN | apply Kd.N_drew)); exact O2.out) hb); have n3_ := Aside0.mk (Kd.N_below (by (with_reducible repeat (first | apply Kd.N_alloc | apply Kd.N_drewN | apply Kd.N_drew)); exact O3.out) hb); have n4_ := Aside0.mk (Kd.V_below (by (with_reducible repeat (first | apply Kd.V_alloc | apply Kd.V_drewN | apply Kd.V_drew)); exact HL219_9.out) hb); have n5_ := Aside0.mk (Kd.C_below (by repeat (first | (with_reducible exact HR219_9.out) | (with_reducible refine Kd.C_alloc ?_ _) | (with_reducible refine Kd.C_drewN ?_ _) | (with_reducible refine Kd.C_drew ?_) | exact HR219_9.out)) hb); have n6_ := Aside0.mk (below_step (by repeat (first | (with_reducible first | exact HB.out | apply below_alloc | apply pw_below_drewN | apply below_drew1) | exact HB.out)) hb); clear O0; clear O1; clear O2; clear O3; clear HL219_9; clear HR219_9; clear HB; have O0 := n0_; have O1 := n1_; have O2 := n2_; have O3 := n3_; have HL219_9 := n4_; have HR219_9 := n5_; have HB := n6_; clear n0_ n1_ n2_ n3_ n4_ n5_ n6_; (try clear hb); (try clear hb2); (try clear hk); (try clear hi)))
        go_ret
        exact ⟨by first | rfl | (simp [errW_none, errW_some] <;> rfl) | (simp [*, errW_none, errW_some] <;> rfl), by repeat (first | (with_reducible first | exact HB.out | apply below_alloc | apply pw_below_drewN | apply below_drew1) | exact HB.out)⟩
       ·rw [if_neg c16] at H
        exact absurd H (by simp)
      ·rw [if_neg c15] at H
       exact absurd H (by simp)
     ·rw [if_neg c13] at H
      exact absurd H (by simp)
    ·rw [if_neg c11] at H
     exact absurd H (by simp)
   ·replace c9 := Bool.eq_false_iff.mpr c9
    subst c9
    have H1 : (none) = some r := by rw [if_neg (show ¬ (false = true) by decide)] at H; exact H
    clear H
    have H := H1
    clear H1
    exact absurd H (by simp)
  ·rw [if_neg c7] at H
   exact absurd H (by simp)
 ·rw [if_neg c5] at H
  exact absurd H (by simp)

end Go.Proofs.YtnojgkiaolmoeaaDoor.PSc
end
