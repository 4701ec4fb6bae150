/- Contracts: what calls of these functions of the program do, each as a plain function; written by a program of this session. -/
import Derived.Test.YtnojgkiaolmoeaaDoorPenA
import Derived.Test.YtnojgkiaolmoeaaDoorTakeA
import Derived.Test.YtnojgkiaolmoeaaDoorPScx0
import Derived.Test.YtnojgkiaolmoeaaDoorPScx1
import Derived.Test.YtnojgkiaolmoeaaDoorPScx16
import Derived.Test.YtnojgkiaolmoeaaDoorPScx27
import Derived.Test.YtnojgkiaolmoeaaDoorPScx37
namespace Go.Proofs.YtnojgkiaolmoeaaDoor.PSc
open Go.RowKit Go.Proofs.YtnojgkiaolmoeaaDoorW.PrintWords Go.Proofs.YtnojgkiaolmoeaaDoorW.PrintLast Go.Proofs.YtnojgkiaolmoeaaDoorW.PrintMore
attribute [local go_sem] max2_int min2_int max_two min_two max_three min_three max_four min_four   -- for this text's walks alone
set_option linter.unusedVariables false
set_option linter.unusedSimpArgs false

/-! ### wharfagelaw23_Scripts: function 3, by hand -/
namespace SpA
/-- Blocks keep their form: a number stays a number, a row stays what it was. -/
def Kf (w w1 : World) : Prop := ∀ (b : Nat) (cur : Array Value) (t : TypeId), w.heap[b]? = some (.cells cur t (0, 0)) → ∃ cur1 : Array Value, w1.heap[b]? = some (.cells cur1 t (0, 0)) ∧ (∀ (i : Nat) (x : Int), cur[i]? = some (.int .i64 x) → ∃ x1 : Int, cur1[i]? = some (.int .i64 x1)) ∧ (∀ (i : Nat) A n c, cur[i]? = some (.slice A n c) → cur1[i]? = some (.slice A n c))
theorem Kf.refl_ (w : World) : Kf w w := fun b cur t h => ⟨cur, h, fun i x hx => ⟨x, hx⟩, fun i A n c h => h⟩
theorem Kf.trans_ {w w1 w2 : World} (h : Kf w w1) (h2 : Kf w1 w2) : Kf w w2 := fun b cur t hc => by
 obtain ⟨c1, e1, f1, g1⟩ := h b cur t hc
 obtain ⟨c2, e2, f2, g2⟩ := h2 b c1 t e1
 exact ⟨c2, e2, fun i x hx => by obtain ⟨x1, hx1⟩ := f1 i x hx; exact f2 i x1 hx1, fun i A n c h => g2 i A n c (g1 i A n c h)⟩
theorem Kf.drew_ {w w1 : World} (h : Kf w w1) : Kf w w1.drew := h
theorem Kf.below {w w1 : World} (h : Below w.heap.size w w1) : Kf w w1 := fun b cur t hc => ⟨cur, (h.block b (Array.getElem?_eq_some_iff.1 hc).1).trans hc, fun i x hx => ⟨x, hx⟩, fun i A n c h => h⟩
theorem Kf.store {w : World} {g i : Nat} {x0 : Int} (h0 : w.cell? ⟨g, i, none⟩ = some (.int .i64 x0)) (y : Int) : Kf w (w.setCell ⟨g, i, none⟩ (.int .i64 y)) := fun b cur t hc => by
 by_cases hb : b = g
 ·subst hb
  have hi : cur[i]? = some (.int .i64 x0) := by rw [World.cell?, hc] at h0; exact h0
  refine ⟨cur.setIfInBounds i (.int .i64 y), ?_, fun j x hx => ?_, fun j A n c hx => ?_⟩
  ·show (w.heap.modify b _)[b]? = _
   rw [Array.getElem?_modify, if_pos rfl, hc]
   rfl
  ·by_cases hj : j = i
   ·subst hj
    exact ⟨y, Array.getElem?_setIfInBounds_self_of_lt (Array.getElem?_eq_some_iff.1 hx).1⟩
   ·exact ⟨x, by rw [Array.getElem?_setIfInBounds_ne (by omega)]; exact hx⟩
  ·have hj : j ≠ i := fun e => by subst e; rw [hi] at hx; cases hx
   rw [Array.getElem?_setIfInBounds_ne (by omega)]; exact hx
 ·exact ⟨cur, (Below.heap_setCell w ⟨g, i, none⟩ _ b hb).trans hc, fun j x hx => ⟨x, hx⟩, fun j A n c h => h⟩
/-- A row from block base on, of which each element has a form. -/
def Row (t sz base : Nat) (el : World → Array Value → Nat → Prop) (w : World) (A : Option Addr) (n : Nat) : Prop := n ≤ 9223372036854775807 ∧ (n = 0 ∨ ∃ g o, A = some ⟨g, o, none⟩ ∧ base ≤ g ∧ ∃ cur : Array Value, w.heap[g]? = some (.cells cur t (0, 0)) ∧ ∀ j, j < n → el w cur (o + j * sz))
def elB (_ : World) (cur : Array Value) (i : Nat) : Prop := ∃ x : Int, cur[i]? = some (.int .i64 x)
def elS (base : Nat) (w : World) (cur : Array Value) (i : Nat) : Prop := (∃ x : Int, cur[i]? = some (.int .i64 x)) ∧ ∃ A n c, cur[i + 3]? = some (.slice A n c) ∧ Row 65 2 base elB w A n
def elA (base : Nat) (w : World) (cur : Array Value) (i : Nat) : Prop := (∃ x : Int, cur[i + 5]? = some (.int .i64 x)) ∧ (∃ x : Int, cur[i + 8]? = some (.int .i64 x)) ∧ ∃ A n c, cur[i + 9]? = some (.slice A n c) ∧ Row 63 4 base (elS base) w A n
def Cf (p : Nat) (A : Option Addr) (n c : Nat) (w : World) : Prop := ∃ cur : Array Value, w.heap[p]? = some (.cells cur 38 (0, 0)) ∧ cur[1]? = some (.slice A n c)
theorem Cf.kf {p : Nat} {A : Option Addr} {n c : Nat} {w w1 : World} (h : Cf p A n c w) (hk : Kf w w1) : Cf p A n c w1 := by
 obtain ⟨cur, hc, h1⟩ := h
 obtain ⟨c1, e1, _, g1⟩ := hk p cur _ hc
 exact ⟨c1, e1, g1 _ _ _ _ h1⟩
theorem Cf.cell {p : Nat} {A : Option Addr} {n c : Nat} {w : World} (h : Cf p A n c w) : w.cell? ⟨p, 1, none⟩ = some (.slice A n c) := by
 obtain ⟨cur, hc, h1⟩ := h
 rw [World.cell?, hc]; exact h1
theorem Row.kf {t sz base : Nat} {el : World → Array Value → Nat → Prop} {w w1 : World} {A : Option Addr} {n : Nat} (h : Row t sz base el w A n) (hk : Kf w w1) (hel : ∀ cur cur1 i, (∀ (i : Nat) (x : Int), cur[i]? = some (.int .i64 x) → ∃ x1 : Int, cur1[i]? = some (.int .i64 x1)) → (∀ (i : Nat) A n c, cur[i]? = some (.slice A n c) → cur1[i]? = some (.slice A n c)) → el w cur i → el w1 cur1 i) : Row t sz base el w1 A n := by
 obtain ⟨hn, h⟩ := h
 refine ⟨hn, ?_⟩
 rcases h with h | ⟨g, o, ha, hg, cur, hc, hf⟩
 ·exact .inl h
 ·obtain ⟨c1, e1, f1, g1⟩ := hk g cur t hc
  exact .inr ⟨g, o, ha, hg, c1, e1, fun j hj => hel cur c1 _ f1 g1 (hf j hj)⟩
theorem RowB.kf {base : Nat} {w w1 : World} {A : Option Addr} {n : Nat} (h : Row 65 2 base elB w A n) (hk : Kf w w1) : Row 65 2 base elB w1 A n := h.kf hk (fun _ _ i f _ h => by obtain ⟨x, hx⟩ := h; exact f i x hx)
theorem RowS.kf {base : Nat} {w w1 : World} {A : Option Addr} {n : Nat} (h : Row 63 4 base (elS base) w A n) (hk : Kf w w1) : Row 63 4 base (elS base) w1 A n := h.kf hk (fun _ _ i f g h => by
  obtain ⟨⟨x, hx⟩, A, n, c, hs, hr⟩ := h
  exact ⟨f i x hx, A, n, c, g _ _ _ _ hs, RowB.kf hr hk⟩)
theorem RowA.kf {base : Nat} {w w1 : World} {A : Option Addr} {n : Nat} (h : Row 40 10 base (elA base) w A n) (hk : Kf w w1) : Row 40 10 base (elA base) w1 A n := h.kf hk (fun _ _ i f g h => by
  obtain ⟨⟨x, hx⟩, ⟨y, hy⟩, A, n, c, hs, hr⟩ := h
  exact ⟨f _ x hx, f _ y hy, A, n, c, g _ _ _ _ hs, RowS.kf hr hk⟩)
theorem numAt {t sz base d : Nat} {el : World → Array Value → Nat → Prop} {w : World} {g o n i : Nat} (h : Row t sz base el w (some ⟨g, o, none⟩) n) (hi : i < n) (hd : ∀ cur k, el w cur k → ∃ x : Int, cur[k + d]? = some (.int .i64 x)) : ∃ x : Int, w.cell? ⟨g, o + i * sz + d, none⟩ = some (.int .i64 x) ∧ w.frozen? ⟨g, o + i * sz + d, none⟩ = false := by
 rcases h.2 with h0 | ⟨g2, o2, ha, _, cur, hc, hf⟩
 ·omega
 injection ha with ha
 injection ha with hg ho _
 subst hg ho
 obtain ⟨x, hx⟩ := hd _ _ (hf i hi)
 refine ⟨x, by rw [World.cell?, hc]; exact hx, ?_⟩
 show (match w.heap[g]? with | some (.cells _ _ (lo, hi)) => decide (lo ≤ o + i * sz + d) && decide (o + i * sz + d < hi) | _ => false) = false
 rw [hc]; simp
set_option maxHeartbeats 8000000 in
set_option maxRecDepth 100000 in
theorem spoilB (A : Option Addr) (n c : Nat) (w0 w : World) (hB : Below w0.heap.size w0 w) (hs : Row 65 2 w0.heap.size elB w A n) :
  Calls Tryd.prog 51 #[.slice A n c] w fun e w' => e = .returned (.tuple #[]) ∧ Below w0.heap.size w0 w' ∧ Kf w w' := by
 have hu := Tryd.underlying65
 have hu2 := Tryd.underlying38
 have HNN := Aside0.mk hs.1
 have HS := Aside0.mk hs
 have HB := Aside0.mk hB
 have HK := Aside0.mk (Kf.refl_ w)
 have HL := Aside0.mk hB.size
 clear hs hB
 go_enter Tryd.func51, Tryd.ntmps51
 go_wp2_with fail
 go_loopw [2] (fun vi wr => ∃ i : Nat, vi = .int .i64 (i : Int) ∧ i ≤ n ∧ Aside0 (Row 65 2 w0.heap.size elB wr A n) ∧ Aside0 (Below w0.heap.size w0 wr) ∧ Aside0 (Kf w wr)) (fun vi _ => n - (intOf vi).toNat)
 case atStart => exact ⟨0, rfl, Nat.zero_le _, HS, HB, HK⟩
 case round =>
  clear HS HB HK
  obtain ⟨i, rfl, hi, HS, HB, HK⟩ := hrel
  by_cases hlt : i < n
  ·rcases HS.out.2 with h0 | ⟨g, o, rfl, hg, cur, hc, hf⟩
   ·omega
   have hel := hf i hlt
   have HGB := Aside0.mk hg
   have p1 : (0 : Int) ≤ (i : Int) := by omega
   have p2 : ((i : Int) < (n : Int)) = True := eq_true (by omega)
   have p3 : decide ((i : Int) < (n : Int)) = true := decide_eq_true (by omega)
   obtain ⟨x2, hx⟩ := hel
   have y0 : wr.cell? ⟨g, o + i * 2, none⟩ = some (.int .i64 x2) := by rw [World.cell?, hc]; exact hx
   have y1 : wr.frozen? ⟨g, o + i * 2, none⟩ = false := by
    show (match wr.heap[g]? with | some (.cells _ _ (lo, hi)) => decide (lo ≤ o + i * 2) && decide (o + i * 2 < hi) | _ => false) = false
    rw [hc]; simp
   have HKS := Aside0.mk (fun y => Kf.store y0 y)
   clear hx hc hf hg
   go_wp2_with fail
   have hnn := HNN.out
   have hw : wrap64 ((i : Int) + 1) = ((i + 1 : Nat) : Int) := by unfold wrap64; omega
   go_roundw
   case rel => exact ⟨i + 1, by rw [hw], by omega, ⟨RowB.kf HS.out (HKS.out _)⟩, ⟨HB.out.setCell HGB.out _⟩, ⟨HK.out.trans_ (HKS.out _)⟩⟩
   case measure =>
    have e1 : (intOf (.int .i64 (wrap64 ((i : Int) + 1)))).toNat = i + 1 := by rw [hw]; rfl
    have e2 : (intOf (.int .i64 (i : Int))).toNat = i := rfl
    rw [e1, e2]
    omega
  ·go_wp2_with fail
   go_end0
   exact ⟨rfl, HB.out, HK.out⟩
set_option maxHeartbeats 8000000 in
set_option maxRecDepth 100000 in
theorem spoilS (v : Int) (A : Option Addr) (n c : Nat) (w0 w : World) (hB : Below w0.heap.size w0 w) (hs : Row 63 4 w0.heap.size (elS w0.heap.size) w A n) :
  Calls Tryd.prog 37 #[.agg #[.int .i64 v, .slice A n c]] w fun e w' => e = .returned (.tuple #[]) ∧ Below w0.heap.size w0 w' ∧ Kf w w' := by
 have hu := Tryd.underlying63
 have hu2 := Tryd.underlying38
 have HNN := Aside0.mk hs.1
 have HS := Aside0.mk hs
 have HB := Aside0.mk hB
 have HK := Aside0.mk (Kf.refl_ w)
 have HL := Aside0.mk hB.size
 clear hs hB
 go_enter Tryd.func37, Tryd.ntmps37
 go_wp2_with fail
 obtain ⟨wb, hwb⟩ : ∃ x_, x_ = w.alloc (.cells #[.int .i64 v, .slice A n c] 38) := ⟨_, rfl⟩
 have hbb : Below w.heap.size w wb := hwb ▸ below_alloc (Below.refl _ _) _
 obtain ⟨p, hp⟩ : ∃ p, p = w.heap.size := ⟨_, rfl⟩
 have HP := Aside0.mk (show Cf p A n c wb from ⟨#[.int .i64 v, .slice A n c], (show wb.heap[p]? = some (.cells #[.int .i64 v, .slice A n c] 38 (0, 0)) by rw [hwb, hp]; exact heap_alloc_new w _), rfl⟩)
 rw [← hwb, ← hp]
 replace HS := Aside0.mk (RowS.kf HS.out (Kf.below hbb))
 replace HB := Aside0.mk (below_step HB.out hbb)
 replace HK := Aside0.mk (Kf.below hbb)
 clear hbb hwb hp
 go_loopw [2] (fun vi wr => ∃ i : Nat, vi = .int .i64 (i : Int) ∧ i ≤ n ∧ Aside0 (Row 63 4 w0.heap.size (elS w0.heap.size) wr A n) ∧ Aside0 (Below w0.heap.size w0 wr) ∧ Aside0 (Kf w wr) ∧ Aside0 (Cf p A n c wr)) (fun vi _ => n - (intOf vi).toNat)
 case atStart => exact ⟨0, rfl, Nat.zero_le _, HS, HB, HK, HP⟩
 case round =>
  clear HS HB HK HP
  obtain ⟨i, rfl, hi, HS, HB, HK, HP⟩ := hrel
  have b1 := HP.out.cell
  by_cases hlt : i < n
  ·rcases HS.out.2 with h0 | ⟨g, o, rfl, hg, cur, hc, hf⟩
   ·omega
   have hel := hf i hlt
   have HGB := Aside0.mk hg
   have p1 : (0 : Int) ≤ (i : Int) := by omega
   have p2 : ((i : Int) < (n : Int)) = True := eq_true (by omega)
   have p3 : decide ((i : Int) < (n : Int)) = true := decide_eq_true (by omega)
   obtain ⟨⟨x0, hx0⟩, A3, n3, c3, hx3, hr3⟩ := hel
   have y3 : wr.cell? ⟨g, o + i * 4 + 3, none⟩ = some (.slice A3 n3 c3) := by rw [World.cell?, hc]; exact hx3
   have HR3 := Aside0.mk hr3
   clear hx0 hx3 hr3 hc hf hg
   go_wp2_with (go_at_call 51; refine (spoilB A3 n3 c3 w0 wr HB.out HR3.out).mono ?_; rintro e w1 ⟨rfl, hb, hk⟩; have HK1 := Aside0.mk hk; have HB1 := Aside0.mk hb; clear hb hk b1 y3)
   have HS1 := Aside0.mk (RowS.kf HS.out HK1.out)
   have HP1 := Aside0.mk (HP.out.kf HK1.out)
   have b1 := HP1.out.cell
   have HKK := Aside0.mk (HK.out.trans_ HK1.out)
   obtain ⟨x2, y0, z0⟩ := numAt (d := 0) HS1.out hlt (fun _ _ h => h.1)
   simp only [Nat.add_zero] at y0 z0
   go_still_tail 12, (by kernel_rfl)
   change wpList _ _ _ _ _ w1.drew
   obtain ⟨w2, hw2⟩ : ∃ w2, w2 = w1.drew := ⟨_, rfl⟩
   rw [← hw2]
   have HB2 := Aside0.mk (show Below w0.heap.size w0 w2 from hw2 ▸ below_drew1 HB1.out)
   have HK2 := Aside0.mk (show Kf w w2 from hw2 ▸ Kf.drew_ HKK.out)
   have HS2 := Aside0.mk (show Row 63 4 w0.heap.size (elS w0.heap.size) w2 (some ⟨g, o, none⟩) n from RowS.kf HS1.out (hw2 ▸ Kf.drew_ (Kf.refl_ w1)))
   have HP2 := Aside0.mk (show Cf p (some ⟨g, o, none⟩) n c w2 from HP1.out.kf (hw2 ▸ Kf.drew_ (Kf.refl_ w1)))
   clear y0 z0 b1 hw2
   obtain ⟨x2, y0, z0⟩ := numAt (d := 0) HS2.out hlt (fun _ _ h => h.1)
   simp only [Nat.add_zero] at y0 z0
   have HKS := Aside0.mk (fun y => Kf.store y0 y)
   go_wp2_with fail
   have hnn := HNN.out
   have hw : wrap64 ((i : Int) + 1) = ((i + 1 : Nat) : Int) := by unfold wrap64; omega
   go_roundw
   case rel => exact ⟨i + 1, by rw [hw], by omega, ⟨RowS.kf HS2.out (HKS.out _)⟩, ⟨HB2.out.setCell HGB.out _⟩, ⟨HK2.out.trans_ (HKS.out _)⟩, ⟨HP2.out.kf (HKS.out _)⟩⟩
   case measure =>
    have e1 : (intOf (.int .i64 (wrap64 ((i : Int) + 1)))).toNat = i + 1 := by rw [hw]; rfl
    have e2 : (intOf (.int .i64 (i : Int))).toNat = i := rfl
    rw [e1, e2]
    omega
  ·go_wp2_with fail
   go_end0
   exact ⟨rfl, HB.out, HK.out⟩
set_option maxHeartbeats 8000000 in
set_option maxRecDepth 100000 in
theorem spoilA (A : Option Addr) (n c : Nat) (w0 w : World) (hB : Below w0.heap.size w0 w) (hs : Row 40 10 w0.heap.size (elA w0.heap.size) w A n) :
  Calls Tryd.prog 16 #[.slice A n c] w fun e w' => e = .returned (.tuple #[]) ∧ Below w0.heap.size w0 w' ∧ Kf w w' := by
 have hu := Tryd.underlying40
 have hu2 := Tryd.underlying38
 have HNN := Aside0.mk hs.1
 have HS := Aside0.mk hs
 have HB := Aside0.mk hB
 have HK := Aside0.mk (Kf.refl_ w)
 have HL := Aside0.mk hB.size
 clear hs hB
 go_enter Tryd.func16, Tryd.ntmps16
 go_wp2_with fail
 go_loopw [2] (fun vi wr => ∃ i : Nat, vi = .int .i64 (i : Int) ∧ i ≤ n ∧ Aside0 (Row 40 10 w0.heap.size (elA w0.heap.size) wr A n) ∧ Aside0 (Below w0.heap.size w0 wr) ∧ Aside0 (Kf w wr)) (fun vi _ => n - (intOf vi).toNat)
 case atStart => exact ⟨0, rfl, Nat.zero_le _, HS, HB, HK⟩
 case round =>
  clear HS HB HK
  obtain ⟨i, rfl, hi, HS, HB, HK⟩ := hrel
  by_cases hlt : i < n
  ·rcases HS.out.2 with h0 | ⟨g, o, rfl, hg, cur, hc, hf⟩
   ·omega
   have hel := hf i hlt
   have HGB := Aside0.mk hg
   have p1 : (0 : Int) ≤ (i : Int) := by omega
   have p2 : ((i : Int) < (n : Int)) = True := eq_true (by omega)
   have p3 : decide ((i : Int) < (n : Int)) = true := decide_eq_true (by omega)
   obtain ⟨⟨x5, hx5⟩, ⟨x8, hx8⟩, A9, n9, c9, hx9, hr9⟩ := hel
   have y8 : wr.cell? ⟨g, o + i * 10 + 8, none⟩ = some (.int .i64 x8) := by rw [World.cell?, hc]; exact hx8
   have y9 : wr.cell? ⟨g, o + i * 10 + 9, none⟩ = some (.slice A9 n9 c9) := by rw [World.cell?, hc]; exact hx9
   have HR9 := Aside0.mk hr9
   clear hx5 hx8 hx9 hr9 hc hf hg
   go_upto_region 4 with (go_at_call 37; refine (spoilS x8 A9 n9 c9 w0 wr HB.out HR9.out).mono ?_; rintro e w1 ⟨rfl, hb, hk⟩; have HK1 := Aside0.mk hk; have HB1 := Aside0.mk hb; clear hb hk y8 y9)
   have HS1 := Aside0.mk (RowA.kf HS.out HK1.out)
   have HKK := Aside0.mk (HK.out.trans_ HK1.out)
   obtain ⟨x2, y0, z0⟩ := numAt (d := 5) HS1.out hlt (fun _ _ h => h.1)
   have HKS := Aside0.mk (fun y => Kf.store y0 y)
   go_wp2_with fail
   have hnn := HNN.out
   have hw : wrap64 ((i : Int) + 1) = ((i + 1 : Nat) : Int) := by unfold wrap64; omega
   go_roundw
   case rel => exact ⟨i + 1, by rw [hw], by omega, ⟨RowA.kf HS1.out (HKS.out _)⟩, ⟨HB1.out.setCell HGB.out _⟩, ⟨HKK.out.trans_ (HKS.out _)⟩⟩
   case measure =>
    have e1 : (intOf (.int .i64 (wrap64 ((i : Int) + 1)))).toNat = i + 1 := by rw [hw]; rfl
    have e2 : (intOf (.int .i64 (i : Int))).toNat = i := rfl
    rw [e1, e2]
    omega
  ·go_wp2_with fail
   go_end0
   exact ⟨rfl, HB.out, HK.out⟩
end SpA
namespace SpL
theorem ofB {w : World} {base b0 : Nat} {ok : Nat → Prop} {v : Value} {xs : List S65} (h : Kd.R k65 65 w base ok v xs) (hle : b0 ≤ base) (hl : xs.length ≤ 1000) : ∃ A c, v = .slice A xs.length c ∧ SpA.Row 65 2 b0 SpA.elB w A xs.length := by
 obtain ⟨h0, inner, ⟨hlen, hq⟩, hr⟩ := Kd.Q_of_R h
 have e9 : Kd.sz k65 = 2 := rfl
 rw [e9] at hlen hr hq
 rcases hq with ⟨hn, A, hv, _⟩ | ⟨g, off, cap, cur, hv, hg, hh, hn, hoc, hsz, htk⟩
 ·refine ⟨A, 0, by rw [hn]; exact hv, by omega, .inl hn⟩
 ·refine ⟨_, _, hv, by omega, .inr ⟨g, off * 2, rfl, by omega, cur, hh, fun j hj => ?_⟩⟩
  have hM := hr.2 j xs[j] (List.getElem?_eq_getElem hj)
  have hcs := k65_openM hM
  have c0 : cur[off * 2 + j * 2 + 0]? = some (.int .i64 xs[j].f0) := by
   have h9 := congrArg (fun x => x[0]?) hcs
   simp only [List.getElem?_take, List.getElem?_drop] at h9
   rw [if_pos (by omega)] at h9
   have h8 := congrArg (fun x => x[j * 2 + 0]?) htk
   simp only [List.getElem?_take, List.getElem?_drop, Array.getElem?_toList] at h8
   rw [if_pos (by omega)] at h8
   have h7 := h8.trans (h9.trans rfl)
   rw [show off * 2 + j * 2 + 0 = off * 2 + (j * 2 + 0) by omega]
   exact h7
  exact ⟨_, c0⟩
theorem ofS {w : World} {base b0 : Nat} {ok : Nat → Prop} {v : Value} {xs : List S63} (h : Kd.R k63 63 w base ok v xs) (hle : b0 ≤ base) (hl : xs.length ≤ 1000) (hN : ∀ x ∈ xs, x.f3.length ≤ 1000) : ∃ A c, v = .slice A xs.length c ∧ SpA.Row 63 4 b0 (SpA.elS b0) w A xs.length := by
 obtain ⟨h0, inner, ⟨hlen, hq⟩, hr⟩ := Kd.Q_of_R h
 have e9 : Kd.sz k63 = 4 := rfl
 rw [e9] at hlen hr hq
 rcases hq with ⟨hn, A, hv, _⟩ | ⟨g, off, cap, cur, hv, hg, hh, hn, hoc, hsz, htk⟩
 ·refine ⟨A, 0, by rw [hn]; exact hv, by omega, .inl hn⟩
 ·refine ⟨_, _, hv, by omega, .inr ⟨g, off * 4, rfl, by omega, cur, hh, fun j hj => ?_⟩⟩
  have hM := hr.2 j xs[j] (List.getElem?_eq_getElem hj)
  obtain ⟨vn, hcs, gn⟩ := k63_openM hM
  obtain ⟨An, cn, hvn, hRn⟩ := ofB gn hle (hN _ (List.getElem_mem hj))
  subst hvn
  have c0 : cur[off * 4 + j * 4 + 0]? = some (.int .i64 xs[j].f0) := by
   have h9 := congrArg (fun x => x[0]?) hcs
   simp only [List.getElem?_take, List.getElem?_drop] at h9
   rw [if_pos (by omega)] at h9
   have h8 := congrArg (fun x => x[j * 4 + 0]?) htk
   simp only [List.getElem?_take, List.getElem?_drop, Array.getElem?_toList] at h8
   rw [if_pos (by omega)] at h8
   have h7 := h8.trans (h9.trans rfl)
   rw [show off * 4 + j * 4 + 0 = off * 4 + (j * 4 + 0) by omega]
   exact h7
  have c3 : cur[off * 4 + j * 4 + 3]? = some (.slice An xs[j].f3.length cn) := by
   have h9 := congrArg (fun x => x[3]?) hcs
   simp only [List.getElem?_take, List.getElem?_drop] at h9
   rw [if_pos (by omega)] at h9
   have h8 := congrArg (fun x => x[j * 4 + 3]?) htk
   simp only [List.getElem?_take, List.getElem?_drop, Array.getElem?_toList] at h8
   rw [if_pos (by omega)] at h8
   have h7 := h8.trans (h9.trans rfl)
   rw [show off * 4 + j * 4 + 3 = off * 4 + (j * 4 + 3) by omega]
   exact h7
  exact ⟨⟨_, c0⟩, _, _, _, c3, hRn⟩
theorem ofA {w : World} {base b0 : Nat} {ok : Nat → Prop} {v : Value} {xs : List S40} (h : Kd.R k40 40 w base ok v xs) (hle : b0 ≤ base) (hl : xs.length ≤ 1000) (hN : ∀ x ∈ xs, x.f8.f1.length ≤ 1000 ∧ ∀ y ∈ x.f8.f1, y.f3.length ≤ 1000) : ∃ A c, v = .slice A xs.length c ∧ SpA.Row 40 10 b0 (SpA.elA b0) w A xs.length := by
 obtain ⟨h0, inner, ⟨hlen, hq⟩, hr⟩ := Kd.Q_of_R h
 have e9 : Kd.sz k40 = 10 := rfl
 rw [e9] at hlen hr hq
 rcases hq with ⟨hn, A, hv, _⟩ | ⟨g, off, cap, cur, hv, hg, hh, hn, hoc, hsz, htk⟩
 ·refine ⟨A, 0, by rw [hn]; exact hv, by omega, .inl hn⟩
 ·refine ⟨_, _, hv, by omega, .inr ⟨g, off * 10, rfl, by omega, cur, hh, fun j hj => ?_⟩⟩
  have hM := hr.2 j xs[j] (List.getElem?_eq_getElem hj)
  obtain ⟨vn, hcs, gn⟩ := k40_openM hM
  obtain ⟨An, cn, hvn, hRn⟩ := ofS gn hle (hN _ (List.getElem_mem hj)).1 (hN _ (List.getElem_mem hj)).2
  subst hvn
  have c5 : cur[off * 10 + j * 10 + 5]? = some (.int .i64 xs[j].f5) := by
   have h9 := congrArg (fun x => x[5]?) hcs
   simp only [List.getElem?_take, List.getElem?_drop] at h9
   rw [if_pos (by omega)] at h9
   have h8 := congrArg (fun x => x[j * 10 + 5]?) htk
   simp only [List.getElem?_take, List.getElem?_drop, Array.getElem?_toList] at h8
   rw [if_pos (by omega)] at h8
   have h7 := h8.trans (h9.trans rfl)
   rw [show off * 10 + j * 10 + 5 = off * 10 + (j * 10 + 5) by omega]
   exact h7
  have c8 : cur[off * 10 + j * 10 + 8]? = some (.int .i64 xs[j].f8.f0) := by
   have h9 := congrArg (fun x => x[8]?) hcs
   simp only [List.getElem?_take, List.getElem?_drop] at h9
   rw [if_pos (by omega)] at h9
   have h8 := congrArg (fun x => x[j * 10 + 8]?) htk
   simp only [List.getElem?_take, List.getElem?_drop, Array.getElem?_toList] at h8
   rw [if_pos (by omega)] at h8
   have h7 := h8.trans (h9.trans rfl)
   rw [show off * 10 + j * 10 + 8 = off * 10 + (j * 10 + 8) by omega]
   exact h7
  have c9 : cur[off * 10 + j * 10 + 9]? = some (.slice An xs[j].f8.f1.length cn) := by
   have h9 := congrArg (fun x => x[9]?) hcs
   simp only [List.getElem?_take, List.getElem?_drop] at h9
   rw [if_pos (by omega)] at h9
   have h8 := congrArg (fun x => x[j * 10 + 9]?) htk
   simp only [List.getElem?_take, List.getElem?_drop, Array.getElem?_toList] at h8
   rw [if_pos (by omega)] at h8
   have h7 := h8.trans (h9.trans rfl)
   rw [show off * 10 + j * 10 + 9 = off * 10 + (j * 10 + 9) by omega]
   exact h7
  exact ⟨⟨_, c5⟩, ⟨_, c8⟩, _, _, _, c9, hRn⟩
end SpL
/-- What the law wants of the functions that it calls. -/
def wharfagelaw23_Scripts.W (k : Nat) (l : List S40) (s : ByteArray) : Prop := wharfagelaw0_CopyActs.f k l = some l ∧ wharfagelaw0_SameActs.f k l l = some true ∧ wharfagelaw23_awake.f k = some true ∧ l.length ≤ 1000000000000000 ∧ (∀ x ∈ l, ∃ b, script_May.f k x.f0 x.f1 x.f2 x.f3 x.f4 x.f5 x.f6 x.f7 x.f8.f0 x.f8.f1 = some b ∧ wharfageref19_ActMay.f x.f0 x.f1 x.f2 x.f3 x.f4 x.f5 x.f6 x.f7 x.f8.f0 x.f8.f1 = some b)
 ∧ ∃ a e u g, script_Show.f k l = some (a, e) ∧ wharfageref19_ShowActs.f k l = some (a, e) ∧ script_Parse.f k s = some (u, g) ∧ wharfageref19_ParseActs.f k s = some (u, g) ∧ wharfagelaw0_SameActs.f k u u = some true ∧ u.length ≤ 1000 ∧ (∀ x ∈ u, x.f8.f1.length ≤ 1000 ∧ ∀ y ∈ x.f8.f1, y.f3.length ≤ 1000)
open Classical in
noncomputable def wharfagelaw23_Scripts.f (k : Nat) (l : List S40) (s : ByteArray) : Option Bool := if wharfagelaw23_Scripts.W k l s then some true else none
theorem wharfagelaw23_Scripts.tab11 : rtab .any (opsOf Tryd.f3 11) = rtab .any (opsOf Tryd.f3 11) := rfl
def wharfagelaw23_Scripts.B11 : List Nat := [0, 0, 3, 7, 15, 0, 0, 96, 224, 511, 1023]
theorem wharfagelaw23_Scripts.bits11 : waitsOk (rtab .any (opsOf Tryd.f3 11)).2 wharfagelaw23_Scripts.B11 = true := by kernel_rfl
set_option maxHeartbeats 8000000 in
set_option maxRecDepth 100000 in
theorem wharfagelaw23_Scripts.calls (k : Nat) (A0 : Option Addr) (c0 : Nat) (l : List S40) (s : ByteArray) (r : Bool) (w : World) (hr0 : Kd.C k40 w A0 l.length l) (hc0 : l.length ≤ c0) (ht : Take.Laid w) (h : wharfagelaw23_Scripts.f k l s = some r) :
  Calls Tryd.prog 3 #[.slice A0 l.length c0, .string s] w fun e w' => e = .returned (.bool r) ∧ Below w.heap.size w w' := by
 unfold wharfagelaw23_Scripts.f at h
 by_cases hW : wharfagelaw23_Scripts.W k l s
 case neg => rw [if_neg hW] at h; cases h
 rw [if_pos hW] at h
 obtain rfl : true = r := Option.some.inj h
 obtain ⟨hca, hll, haw, hlen, hmay, a, e, u, g, hsh, hsa, hpa, hpb, huu, hu0, hu1⟩ := hW
 have HCA := Aside0.mk hca
 have HLL := Aside0.mk hll
 have HAW := Aside0.mk haw
 have HLEN := Aside0.mk hlen
 have HMAY := Aside0.mk hmay
 have HSH := Aside0.mk hsh
 have HSA := Aside0.mk hsa
 have HPA := Aside0.mk hpa
 have HPB := Aside0.mk hpb
 have HUU := Aside0.mk huu
 have HU := Aside0.mk (And.intro hu0 hu1)
 have HC0 := Aside0.mk hr0
 have HCC := Aside0.mk hc0
 have HLD := Aside0.mk ht
 have HBT := Aside0.mk (Below.refl w.heap.size w)
 clear h hca hll haw hlen hmay hsh hsa hpa hpb huu hu0 hu1 hr0 hc0 ht
 go_enter Tryd.func3, Tryd.ntmps3
 go_upto_region 1 with fail
 go_upto_region 2 with (go_at_call 7; refine (wharfagelaw0_CopyActs.calls k A0 c0 l l _ HC0.out HCC.out HCA.out).mono ?_; rintro e w1 ⟨vx, rfl, hv, hb⟩; obtain ⟨Ax, cx, rfl⟩ := Kd.R_slice hv; have XN := Aside0.mk (Kd.R_reads' hv).2.2; have XL := Aside0.mk (Kd.R_reads' hv).2.1; replace HC0 := Aside0.mk (Kd.C_below HC0.out hb); replace HBT := Aside0.mk (below_step HBT.out hb); clear hv hb)
 go_upto_region 3 with (go_at_call 8; refine (script_Show.calls k Ax cx l a e _ XN.out XL.out (HLD.out.below HBT.out) HSH.out).mono ?_; rintro e_ w2 ⟨rfl, hb⟩; replace HC0 := Aside0.mk (Kd.C_below HC0.out hb); replace XN := Aside0.mk (Kd.C_below XN.out hb); replace HBT := Aside0.mk (below_step HBT.out hb); clear hb)
 go_upto_region 4 with (go_at_call 9; refine (wharfageref19_ShowActs.calls k A0 c0 l a e _ HC0.out HCC.out HSA.out).mono ?_; rintro e_ w3 ⟨rfl, hb⟩; replace HC0 := Aside0.mk (Kd.C_below HC0.out hb); replace XN := Aside0.mk (Kd.C_below XN.out hb); replace HBT := Aside0.mk (below_step HBT.out hb); clear hb)
 go_upto_region 5 with (go_at_call 10; refine (script_Parse.calls k s u g _ (HLD.out.below HBT.out) HPA.out).mono ?_; rintro e_ w4 ⟨vc, rfl, hv, hb⟩; obtain ⟨Au, cc, rfl, hrow⟩ := SpL.ofA (b0 := w.heap.size) hv (below_size HBT.out) HU.out.1 HU.out.2; have RW := Aside0.mk hrow; have CN := Aside0.mk (Kd.R_reads' hv).2.2; have CL := Aside0.mk (Kd.R_reads' hv).2.1; replace HC0 := Aside0.mk (Kd.C_below HC0.out hb); replace XN := Aside0.mk (Kd.C_below XN.out hb); replace HBT := Aside0.mk (below_step HBT.out hb); clear hv hb hrow)
 go_upto_region 6 with (go_at_call 11; refine (wharfageref19_ParseActs.calls k s u g _ HPB.out).mono ?_; rintro e_ w5 ⟨vd, rfl, hv, hb⟩; obtain ⟨Ad, cd, rfl⟩ := Kd.R_slice hv; have DN := Aside0.mk (Kd.R_reads' hv).2.2; have DL := Aside0.mk (Kd.R_reads' hv).2.1; replace HC0 := Aside0.mk (Kd.C_below HC0.out hb); replace XN := Aside0.mk (Kd.C_below XN.out hb); replace CN := Aside0.mk (Kd.C_below CN.out hb); replace RW := Aside0.mk (SpA.RowA.kf RW.out (SpA.Kf.below hb)); replace HBT := Aside0.mk (below_step HBT.out hb); clear hv hb)
 have F1 := Aside0.mk trivial
 have F2 := Aside0.mk trivial
 have F3 := Aside0.mk trivial
 have F4 := Aside0.mk trivial
 have hea : (a.toList == a.toList) = true := beq_self_eq_true _
 have hee : (e == e) = true := beq_self_eq_true _
 have hgg : (g == g) = true := beq_self_eq_true _
 have hef : (e != e) = false := bne_self_eq_false _
 have hgf : (g != g) = false := bne_self_eq_false _
 go_wp2_with (first | (go_at_call 12; clear F3; refine (wharfagelaw0_Num.calls e e _ rfl).mono ?_; rintro e_ w6 ⟨rfl, hd⟩; have hb := hd.below; replace HC0 := Aside0.mk (Kd.C_below HC0.out hb); replace XN := Aside0.mk (Kd.C_below XN.out hb); replace CN := Aside0.mk (Kd.C_below CN.out hb); replace DN := Aside0.mk (Kd.C_below DN.out hb); replace RW := Aside0.mk (SpA.RowA.kf RW.out (SpA.Kf.below hb)); replace HBT := Aside0.mk (below_step HBT.out hb); clear hb hd) | (go_at_call 13; clear F1; refine (wharfagelaw0_SameActs.calls k Au cc u Ad cd u true _ CN.out CL.out DN.out DL.out HUU.out).mono ?_; rintro e_ w7 ⟨rfl, hb⟩; replace HC0 := Aside0.mk (Kd.C_below HC0.out hb); replace XN := Aside0.mk (Kd.C_below XN.out hb); replace CN := Aside0.mk (Kd.C_below CN.out hb); replace DN := Aside0.mk (Kd.C_below DN.out hb); replace RW := Aside0.mk (SpA.RowA.kf RW.out (SpA.Kf.below hb)); replace HBT := Aside0.mk (below_step HBT.out hb); clear hb) | (go_at_call 12; clear F4; refine (wharfagelaw0_Num.calls g g _ rfl).mono ?_; rintro e_ w8 ⟨rfl, hd⟩; have hb := hd.below; replace HC0 := Aside0.mk (Kd.C_below HC0.out hb); replace XN := Aside0.mk (Kd.C_below XN.out hb); replace CN := Aside0.mk (Kd.C_below CN.out hb); replace DN := Aside0.mk (Kd.C_below DN.out hb); replace RW := Aside0.mk (SpA.RowA.kf RW.out (SpA.Kf.below hb)); replace HBT := Aside0.mk (below_step HBT.out hb); clear hb hd) | (go_at_call 13; clear F2; refine (wharfagelaw0_SameActs.calls k Ax cx l A0 c0 l true _ XN.out XL.out HC0.out HCC.out HLL.out).mono ?_; rintro e_ w9 ⟨rfl, hb⟩; replace HC0 := Aside0.mk (Kd.C_below HC0.out hb); replace XN := Aside0.mk (Kd.C_below XN.out hb); replace CN := Aside0.mk (Kd.C_below CN.out hb); replace DN := Aside0.mk (Kd.C_below DN.out hb); replace RW := Aside0.mk (SpA.RowA.kf RW.out (SpA.Kf.below hb)); replace HBT := Aside0.mk (below_step HBT.out hb); clear hb))
 clear hea hee hgg hef hgf
 go_loopw [14] (fun vi wr => ∃ i : Nat, vi = .int .i64 (i : Int) ∧ i ≤ l.length ∧ Aside0 (Kd.C k40 wr A0 l.length l) ∧ Aside0 (SpA.Row 40 10 w.heap.size (SpA.elA w.heap.size) wr Au u.length) ∧ Aside0 (Below w.heap.size w wr)) (fun vi _ => l.length - (intOf vi).toNat)
 case atStart => exact ⟨0, rfl, Nat.zero_le _, HC0, RW, HBT⟩
 case round =>
  clear HC0 RW HBT XN CN DN
  obtain ⟨i, rfl, hi, HC0, RW, HBT⟩ := hrel
  by_cases c3 : (i : Int) < (l.length : Int)
  ·have c3b := decide_eq_true c3
   have p1 : (0 : Int) ≤ (i : Int) := by omega
   have p1b := decide_eq_true p1
   obtain ⟨ad, A9, c9, ea, hx0, hx1, hx2, hx3, hx4, hx5, hx6, hx7, hx8, hx9, hlx, hix⟩ := at_T40 HC0.out (i : Int) p1 c3
   cases ea
   obtain ⟨x, hx⟩ : ∃ x, rd_T40 l (i : Int) = x := ⟨_, rfl⟩
   obtain ⟨vb, hm1, hm2⟩ : ∃ b, script_May.f k x.f0 x.f1 x.f2 x.f3 x.f4 x.f5 x.f6 x.f7 x.f8.f0 x.f8.f1 = some b ∧ wharfageref19_ActMay.f x.f0 x.f1 x.f2 x.f3 x.f4 x.f5 x.f6 x.f7 x.f8.f0 x.f8.f1 = some b := by
    have hlt : i < l.length := by omega
    have e9 : rd_T40 l (i : Int) = l[i] := by simp [rd_T40, hlt]
    rw [← hx, e9]
    exact HMAY.out _ (List.getElem_mem hlt)
   rw [hx] at hx0 hx1 hx2 hx3 hx4 hx5 hx6 hx7 hx8 hx9 hlx hix
   rw [Int.toNat_natCast] at hx0 hx1 hx2 hx3 hx4 hx5 hx6 hx7 hx8 hx9
   have HX0 := Aside0.mk hx0
   have HX1 := Aside0.mk hx1
   have HX2 := Aside0.mk hx2
   have HX3 := Aside0.mk hx3
   have HX4 := Aside0.mk hx4
   have HX5 := Aside0.mk hx5
   have HX6 := Aside0.mk hx6
   have HX7 := Aside0.mk hx7
   have HX8 := Aside0.mk hx8
   have HX9 := Aside0.mk hx9
   have HLX := Aside0.mk hlx
   have HIX := Aside0.mk hix
   have HM1 := Aside0.mk hm1
   have HM2 := Aside0.mk hm2
   have c3' := eq_true c3
   have p1' := eq_true p1
   clear hx hx0 hx1 hx2 hx3 hx4 hx5 hx6 hx7 hx8 hx9 hlx hix hm1 hm2
   go_upto_region 11 with fail
   refine start_ (n := 11) (S := fun w' => True) (ds := []) #[false, false, false, false, false, false, false, false, false, false, false] (by kernel_rfl) rfl rfl trivial (fun hHeld => ?_); refine with_tabW wharfagelaw23_Scripts.tab11 wharfagelaw23_Scripts.bits11 (fun HT_ HW_ => ?_)
   refine inv_at [0, 1, 2, 3, 4, 5, 6, 7, 8, 9, 10] (fun a0_ b a w' => a = putSel a0_ b [(0, 70, .slice (some ad) l.length c0), (1, 71, .int .i64 (i : Int)), (2, 72, .pointer (some (ad.add (i * 10)))), (3, 73, .agg #[.int .i64 x.f0, .int .i64 x.f1, .int .i64 x.f2, .int .i64 x.f3, .int .i64 x.f4, .int .i64 x.f5, .bool x.f6, .string x.f7, .int .i64 x.f8.f0, .slice A9 x.f8.f1.length c9]), (4, 74, .bool vb), (5, 75, .slice (some ad) l.length c0), (6, 76, .int .i64 (i : Int)), (7, 77, .pointer (some (ad.add (i * 10)))), (8, 78, .agg #[.int .i64 x.f0, .int .i64 x.f1, .int .i64 x.f2, .int .i64 x.f3, .int .i64 x.f4, .int .i64 x.f5, .bool x.f6, .string x.f7, .int .i64 x.f8.f0, .slice A9 x.f8.f1.length c9]), (9, 79, .bool vb), (10, 80, .bool false)] ∧ Below wr.heap.size wr w') HT_.out HW_.out (by kernel_rfl) (by kernel_rfl) ?_ ?_ ?_
   ·exact ⟨by simp only [putSel, Bool.false_eq_true, if_false], below_drew1 (Below.refl _ _)⟩
   ·skip
    refine steps_cons ?_ ?_
    ·rintro b a w' ⟨ha, QB⟩ hb_ hon hoff
     refine ⟨_, rfl, fun K hK => ?_⟩
     have e0 : a.tmps[0]? = some (.slice (some ad) l.length c0) := by rw [ha]; exact (putSel_off rfl).trans rfl
     replace ha := Aside0.mk ha
     refine value_ (w1 := w') (v := .slice (some ad) l.length c0) (by rfl) rfl ?_ ?_
     ·go_simp
      try rfl
     exact hK.out _ _ ⟨(by rw [ha.out]; exact putSel_upk 0 hb_ rfl rfl rfl), QB⟩
    refine steps_cons ?_ ?_
    ·rintro b a w' ⟨ha, QB⟩ hb_ hon hoff
     refine ⟨_, rfl, fun K hK => ?_⟩
     have e14 : a.tmps[14]? = some (.int .i64 (i : Int)) := by rw [ha]; exact (putSel_off rfl).trans rfl
     replace ha := Aside0.mk ha
     refine value_ (w1 := w') (v := .int .i64 (i : Int)) (by rfl) rfl ?_ ?_
     ·go_simp
      try rfl
     exact hK.out _ _ ⟨(by rw [ha.out]; exact putSel_upk 1 hb_ rfl rfl rfl), QB⟩
    refine steps_cons ?_ ?_
    ·rintro b a w' ⟨ha, QB⟩ hb_ hon hoff
     refine ⟨_, rfl, fun K hK => ?_⟩
     have e70 : a.tmps[70]? = some (.slice (some ad) l.length c0) := by rw [ha]; exact putSel_on (e := (0, 70, .slice (some ad) l.length c0)) 0 rfl rfl (hon 0 (by kernel_rfl)) rfl
     have e71 : a.tmps[71]? = some (.int .i64 (i : Int)) := by rw [ha]; exact putSel_on (e := (1, 71, .int .i64 (i : Int))) 1 rfl rfl (hon 1 (by kernel_rfl)) rfl
     replace ha := Aside0.mk ha
     refine value_ (w1 := w') (v := .pointer (some (ad.add (i * 10)))) (by rfl) rfl ?_ ?_
     ·go_simp
      try rfl
     exact hK.out _ _ ⟨(by rw [ha.out]; exact putSel_upk 2 hb_ rfl rfl rfl), QB⟩
    refine steps_cons ?_ ?_
    ·rintro b a w' ⟨ha, QB⟩ hb_ hon hoff
     refine ⟨_, rfl, fun K hK => ?_⟩
     have e72 : a.tmps[72]? = some (.pointer (some (ad.add (i * 10)))) := by rw [ha]; exact putSel_on (e := (2, 72, .pointer (some (ad.add (i * 10))))) 2 rfl rfl (hon 2 (by kernel_rfl)) rfl
     have hx0 := pw_cell_below QB HX0.out
     have hx1 := pw_cell_below QB HX1.out
     have hx2 := pw_cell_below QB HX2.out
     have hx3 := pw_cell_below QB HX3.out
     have hx4 := pw_cell_below QB HX4.out
     have hx5 := pw_cell_below QB HX5.out
     have hx6 := pw_cell_below QB HX6.out
     have hx7 := pw_cell_below QB HX7.out
     have hx8 := pw_cell_below QB HX8.out
     have hx9 := pw_cell_below QB HX9.out
     replace ha := Aside0.mk ha
     refine value_ (w1 := w') (v := .agg #[.int .i64 x.f0, .int .i64 x.f1, .int .i64 x.f2, .int .i64 x.f3, .int .i64 x.f4, .int .i64 x.f5, .bool x.f6, .string x.f7, .int .i64 x.f8.f0, .slice A9 x.f8.f1.length c9]) (by rfl) rfl ?_ ?_
     ·go_simp
      try rfl
     exact hK.out _ _ ⟨(by rw [ha.out]; exact putSel_upk 3 hb_ rfl rfl rfl), QB⟩
    refine steps_cons ?_ ?_
    ·rintro b a w' ⟨ha, QB⟩ hb_ hon hoff
     refine ⟨_, rfl, fun K hK => ?_⟩
     have e73 : a.tmps[73]? = some (.agg #[.int .i64 x.f0, .int .i64 x.f1, .int .i64 x.f2, .int .i64 x.f3, .int .i64 x.f4, .int .i64 x.f5, .bool x.f6, .string x.f7, .int .i64 x.f8.f0, .slice A9 x.f8.f1.length c9]) := by rw [ha]; exact putSel_on (e := (3, 73, .agg #[.int .i64 x.f0, .int .i64 x.f1, .int .i64 x.f2, .int .i64 x.f3, .int .i64 x.f4, .int .i64 x.f5, .bool x.f6, .string x.f7, .int .i64 x.f8.f0, .slice A9 x.f8.f1.length c9])) 3 rfl rfl (hon 3 (by kernel_rfl)) rfl
     replace ha := Aside0.mk ha
     refine goes_ Tryd.func14 (by kernel_rfl) rfl #[.agg #[.int .i64 x.f0, .int .i64 x.f1, .int .i64 x.f2, .int .i64 x.f3, .int .i64 x.f4, .int .i64 x.f5, .bool x.f6, .string x.f7, .int .i64 x.f8.f0, .slice A9 x.f8.f1.length c9]] (by rfl) rfl rfl (by simp only [List.map_toArray, List.map_cons, List.map_nil, Act.eval, Array.getD_eq_getD_getElem?, e73, Option.getD_some]) ?_
     refine (script_May.calls k x.f0 x.f1 x.f2 x.f3 x.f4 x.f5 x.f6 x.f7 x.f8.f0 A9 c9 x.f8.f1 vb _ (Kd.C_below HIX.out QB) HLX.out HM1.out).mono ?_
     rintro e_ w'' ⟨rfl, hb⟩
     exact ⟨_, rfl, hK.out _ _ ⟨(by rw [ha.out]; exact putSel_upk 4 hb_ rfl rfl rfl), below_step QB hb⟩⟩
    refine steps_cons ?_ ?_
    ·rintro b a w' ⟨ha, QB⟩ hb_ hon hoff
     refine ⟨_, rfl, fun K hK => ?_⟩
     have e0 : a.tmps[0]? = some (.slice (some ad) l.length c0) := by rw [ha]; exact (putSel_off rfl).trans rfl
     replace ha := Aside0.mk ha
     refine value_ (w1 := w') (v := .slice (some ad) l.length c0) (by rfl) rfl ?_ ?_
     ·go_simp
      try rfl
     exact hK.out _ _ ⟨(by rw [ha.out]; exact putSel_upk 5 hb_ rfl rfl rfl), QB⟩
    refine steps_cons ?_ ?_
    ·rintro b a w' ⟨ha, QB⟩ hb_ hon hoff
     refine ⟨_, rfl, fun K hK => ?_⟩
     have e14 : a.tmps[14]? = some (.int .i64 (i : Int)) := by rw [ha]; exact (putSel_off rfl).trans rfl
     replace ha := Aside0.mk ha
     refine value_ (w1 := w') (v := .int .i64 (i : Int)) (by rfl) rfl ?_ ?_
     ·go_simp
      try rfl
     exact hK.out _ _ ⟨(by rw [ha.out]; exact putSel_upk 6 hb_ rfl rfl rfl), QB⟩
    refine steps_cons ?_ ?_
    ·rintro b a w' ⟨ha, QB⟩ hb_ hon hoff
     refine ⟨_, rfl, fun K hK => ?_⟩
     have e75 : a.tmps[75]? = some (.slice (some ad) l.length c0) := by rw [ha]; exact putSel_on (e := (5, 75, .slice (some ad) l.length c0)) 5 rfl rfl (hon 5 (by kernel_rfl)) rfl
     have e76 : a.tmps[76]? = some (.int .i64 (i : Int)) := by rw [ha]; exact putSel_on (e := (6, 76, .int .i64 (i : Int))) 6 rfl rfl (hon 6 (by kernel_rfl)) rfl
     replace ha := Aside0.mk ha
     refine value_ (w1 := w') (v := .pointer (some (ad.add (i * 10)))) (by rfl) rfl ?_ ?_
     ·go_simp
      try rfl
     exact hK.out _ _ ⟨(by rw [ha.out]; exact putSel_upk 7 hb_ rfl rfl rfl), QB⟩
    refine steps_cons ?_ ?_
    ·rintro b a w' ⟨ha, QB⟩ hb_ hon hoff
     refine ⟨_, rfl, fun K hK => ?_⟩
     have e77 : a.tmps[77]? = some (.pointer (some (ad.add (i * 10)))) := by rw [ha]; exact putSel_on (e := (7, 77, .pointer (some (ad.add (i * 10))))) 7 rfl rfl (hon 7 (by kernel_rfl)) rfl
     have hx0 := pw_cell_below QB HX0.out
     have hx1 := pw_cell_below QB HX1.out
     have hx2 := pw_cell_below QB HX2.out
     have hx3 := pw_cell_below QB HX3.out
     have hx4 := pw_cell_below QB HX4.out
     have hx5 := pw_cell_below QB HX5.out
     have hx6 := pw_cell_below QB HX6.out
     have hx7 := pw_cell_below QB HX7.out
     have hx8 := pw_cell_below QB HX8.out
     have hx9 := pw_cell_below QB HX9.out
     replace ha := Aside0.mk ha
     refine value_ (w1 := w') (v := .agg #[.int .i64 x.f0, .int .i64 x.f1, .int .i64 x.f2, .int .i64 x.f3, .int .i64 x.f4, .int .i64 x.f5, .bool x.f6, .string x.f7, .int .i64 x.f8.f0, .slice A9 x.f8.f1.length c9]) (by rfl) rfl ?_ ?_
     ·go_simp
      try rfl
     exact hK.out _ _ ⟨(by rw [ha.out]; exact putSel_upk 8 hb_ rfl rfl rfl), QB⟩
    refine steps_cons ?_ ?_
    ·rintro b a w' ⟨ha, QB⟩ hb_ hon hoff
     refine ⟨_, rfl, fun K hK => ?_⟩
     have e78 : a.tmps[78]? = some (.agg #[.int .i64 x.f0, .int .i64 x.f1, .int .i64 x.f2, .int .i64 x.f3, .int .i64 x.f4, .int .i64 x.f5, .bool x.f6, .string x.f7, .int .i64 x.f8.f0, .slice A9 x.f8.f1.length c9]) := by rw [ha]; exact putSel_on (e := (8, 78, .agg #[.int .i64 x.f0, .int .i64 x.f1, .int .i64 x.f2, .int .i64 x.f3, .int .i64 x.f4, .int .i64 x.f5, .bool x.f6, .string x.f7, .int .i64 x.f8.f0, .slice A9 x.f8.f1.length c9])) 8 rfl rfl (hon 8 (by kernel_rfl)) rfl
     replace ha := Aside0.mk ha
     refine goes_ Tryd.func15 (by kernel_rfl) rfl #[.agg #[.int .i64 x.f0, .int .i64 x.f1, .int .i64 x.f2, .int .i64 x.f3, .int .i64 x.f4, .int .i64 x.f5, .bool x.f6, .string x.f7, .int .i64 x.f8.f0, .slice A9 x.f8.f1.length c9]] (by rfl) rfl rfl (by simp only [List.map_toArray, List.map_cons, List.map_nil, Act.eval, Array.getD_eq_getD_getElem?, e78, Option.getD_some]) ?_
     refine (wharfageref19_ActMay.calls x.f0 x.f1 x.f2 x.f3 x.f4 x.f5 x.f6 x.f7 x.f8.f0 A9 c9 x.f8.f1 vb _ (Kd.C_below HIX.out QB) HLX.out HM2.out).mono ?_
     rintro e_ w'' ⟨rfl, hb⟩
     exact ⟨_, rfl, hK.out _ _ ⟨(by rw [ha.out]; exact putSel_upk 9 hb_ rfl rfl rfl), below_step QB hb⟩⟩
    refine steps_cons ?_ ?_
    ·rintro b a w' ⟨ha, QB⟩ hb_ hon hoff
     refine ⟨_, rfl, fun K hK => ?_⟩
     have e74 : a.tmps[74]? = some (.bool vb) := by rw [ha]; exact putSel_on (e := (4, 74, .bool vb)) 4 rfl rfl (hon 4 (by kernel_rfl)) rfl
     have e79 : a.tmps[79]? = some (.bool vb) := by rw [ha]; exact putSel_on (e := (9, 79, .bool vb)) 9 rfl rfl (hon 9 (by kernel_rfl)) rfl
     have hbf : (vb != vb) = false := bne_self_eq_false _
     have hbg : (vb == vb) = true := beq_self_eq_true _
     replace ha := Aside0.mk ha
     refine value_ (w1 := w') (v := .bool false) (by rfl) rfl ?_ ?_
     ·go_simp
      try rfl
     exact hK.out _ _ ⟨(by rw [ha.out]; exact putSel_upk 10 hb_ rfl rfl rfl), QB⟩
    exact steps_nil
   rintro b a wx hall ⟨ha, QB⟩
   have hb0_ := hall 0 (by kernel_rfl)
   have hb1_ := hall 1 (by kernel_rfl)
   have hb2_ := hall 2 (by kernel_rfl)
   have hb3_ := hall 3 (by kernel_rfl)
   have hb4_ := hall 4 (by kernel_rfl)
   have hb5_ := hall 5 (by kernel_rfl)
   have hb6_ := hall 6 (by kernel_rfl)
   have hb7_ := hall 7 (by kernel_rfl)
   have hb8_ := hall 8 (by kernel_rfl)
   have hb9_ := hall 9 (by kernel_rfl)
   have hb10_ := hall 10 (by kernel_rfl)
   subst ha
   simp only [putSel, hb0_, hb1_, hb2_, hb3_, hb4_, hb5_, hb6_, hb7_, hb8_, hb9_, hb10_, if_true, Act.put, List.setIfInBounds_toArray, List.set_cons_zero, List.set_cons_succ]
   have HB2 := Aside0.mk (below_step HBT.out QB)
   have HC2 := Aside0.mk (Kd.C_below HC0.out QB)
   have RW2 := Aside0.mk (SpA.RowA.kf RW.out (SpA.Kf.below QB))
   clear QB
   go_wp2_with fail
   go_roundw
   case rel => exact ⟨i + 1, by rw [show wrap64 ((i : Int) + 1) = ((i + 1 : Nat) : Int) by have := HLEN.out; unfold wrap64; omega], by omega, HC2, RW2, HB2⟩
   case measure =>
    have e1 : (intOf (.int .i64 (wrap64 ((i : Int) + 1)))).toNat = i + 1 := by rw [show wrap64 ((i : Int) + 1) = ((i + 1 : Nat) : Int) by have := HLEN.out; unfold wrap64; omega]; rfl
    have e2 : (intOf (.int .i64 (i : Int))).toNat = i := rfl
    rw [e1, e2]
    omega
  ·have c3b := decide_eq_false c3
   have sp_ := SpA.spoilA Au u.length cc w wr HBT.out RW.out
   have SPA := Aside0.mk sp_
   clear sp_
   go_wp2_with (first | (go_at_call 16; refine SPA.out.mono ?_; rintro e_ wy ⟨rfl, hb, _⟩; replace HBT := Aside0.mk hb; clear hb) | (go_at_call 17; refine (wharfagelaw23_awake.calls k true _ (HLD.out.below HBT.out) HAW.out).mono ?_; rintro e_ wz ⟨rfl, hb⟩; replace HBT := Aside0.mk (below_step HBT.out hb); clear hb))
   go_ret
   exact ⟨rfl, HBT.out⟩


end Go.Proofs.YtnojgkiaolmoeaaDoor.PSc
