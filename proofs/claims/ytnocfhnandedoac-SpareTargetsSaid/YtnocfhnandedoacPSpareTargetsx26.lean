/- Contracts: what calls of these functions of the program do, each as a plain function; written by a program of this session. -/
import Derived.Test.YtnocfhnandedoacPSpareTargetsx0
import Derived.Test.YtnocfhnandedoacPSpareTargetsx3
import Derived.Test.YtnocfhnandedoacPSpareTargetsx16
import Derived.Test.YtnocfhnandedoacPSpareTargetsx17
import Derived.Test.YtnocfhnandedoacPSpareTargetsx22
import Derived.Test.YtnocfhnandedoacPSpareTargetsx23
import Derived.Test.YtnocfhnandedoacPSpareTargetsx25
namespace Go.Proofs.Ytnocfhnandedoac.PSpareTargets
open Go.RowKit Go.Proofs.YtnocfhnandedoacW.PrintWords Go.Proofs.YtnocfhnandedoacW.PrintLast Go.Proofs.YtnocfhnandedoacW.PrintMore
attribute [local go_sem] max2_int min2_int max_two min_two max_three min_three max_four min_four   -- for this text's walks alone
set_option linter.unusedVariables false
set_option linter.unusedSimpArgs false

/-! ### wharfagelaw17_SpareTargets: function 6, by hand -/
def wharfagelaw17_SpareTargets.f (a0 a1 : Int) : Option Bool := some true
theorem gv_flat {α : Type} {d : Kd α} {w : World} {g : Nat} {cs : Array Value} {t : TypeId} {fz : Nat × Nat} (h : w.heap[g]? = some (.cells cs t fz)) (enc : α → List Value) (hsz : ∀ x, (enc x).length = d.sz) (hK : ∀ x, d.K w x (enc x)) (xs : List α) (hl : xs.length ≤ 9223372036854775807) (hcs : cs.toList = xs.flatMap enc) : Kd.C d w (some ⟨g, 0, none⟩) xs.length xs :=
  Go.Proofs.Ytnocfhnandedoac.Hand.hk_cells enc hsz hK _ xs hl (fun k u hu => by
    rw [Go.Proofs.Ytnocfhnandedoac.Hand.hk_add0, Nat.zero_add, World.cell?, h]
    rw [← hcs] at hu
    simpa using hu)
theorem gv_backs {w : World} {g : Nat} {cs : Array Value} {t : TypeId} {fz : Nat × Nat} (h : w.heap[g]? = some (.cells cs t fz)) (xs : List S65) (hl : xs.length ≤ 9223372036854775807) (hcs : cs.toList = xs.flatMap (fun x => [.int .i64 x.f0, .bool x.f1])) : Kd.C k65 w (some ⟨g, 0, none⟩) xs.length xs :=
  gv_flat h (fun x => [.int .i64 x.f0, .bool x.f1]) (fun _ => rfl) (fun x => k65_mk w x) xs hl hcs
/-- Two sites, read from their block. -/
theorem gv_sites {w : World} {g : Nat} {t : TypeId} {fz : Nat × Nat} (x y : S51) (A B : Option Addr) (a b : Nat) (h : w.heap[g]? = some (.cells #[.int .i64 x.f0, .bool x.f1, .int .i64 x.f2, .slice A x.f3.length a, .int .i64 y.f0, .bool y.f1, .int .i64 y.f2, .slice B y.f3.length b] t fz)) (ha : x.f3.length ≤ a) (hA : Kd.C k65 w A x.f3.length x.f3) (hb : y.f3.length ≤ b) (hB : Kd.C k65 w B y.f3.length y.f3) : Kd.C k51 w (some ⟨g, 0, none⟩) [x, y].length [x, y] := by
  refine ⟨rfl, by simp, fun _ => ⟨_, rfl, fun j p hj => ?_⟩⟩
  match j, hj with
  | 0, hj =>
    obtain rfl : x = p := by simpa using hj
    refine ⟨_, rfl, k51_mk w x ha hA, fun i u hu => ?_⟩
    rw [Go.Proofs.Ytnocfhnandedoac.Hand.hk_add0, World.cell?, h]
    match i, hu with
    | 0, hu => exact hu
    | 1, hu => exact hu
    | 2, hu => exact hu
    | 3, hu => exact hu
    | i + 4, hu => simp at hu
  | 1, hj =>
    obtain rfl : y = p := by simpa using hj
    refine ⟨_, rfl, k51_mk w y hb hB, fun i u hu => ?_⟩
    rw [Go.Proofs.Ytnocfhnandedoac.Hand.hk_add0, World.cell?, h]
    match i, hu with
    | 0, hu => exact hu
    | 1, hu => exact hu
    | 2, hu => exact hu
    | 3, hu => exact hu
    | i + 4, hu => simp at hu
  | j + 2, hj => simp at hj
theorem nd_set {α : Type} {d : Kd α} (enc : α → List Value) (hsz : ∀ x, (enc x).length = d.sz) (hK : ∀ w x, d.K w x (enc x)) (hop : ∀ w x cs, d.K w x cs → cs = enc x) {w : World} {g n : Nat} {xs : List α} (h : Kd.C d w (some ⟨g, 0, none⟩) n xs) (k j0 i0 : Nat) (p p' : α) (v : Value) (hp : xs[j0]? = some p) (he : enc p' = (enc p).set i0 v) (hi : i0 < d.sz) (hk : k = j0 * d.sz + i0) : Kd.C d (w.setCell ⟨g, k, none⟩ v) (some ⟨g, 0, none⟩) n (xs.set j0 p') := by
  subst hk
  refine ⟨by simpa using h.1, h.2.1, fun hn => ⟨_, rfl, fun j q hq => ⟨enc q, hsz q, hK _ q, fun i u hu => ?_⟩⟩⟩
  obtain ⟨ad, e, hr⟩ := h.2.2 hn
  cases e
  have hj0 : j0 < xs.length := (List.getElem?_eq_some_iff.1 hp).1
  have hil : i < d.sz := by rw [← hsz q]; exact (List.getElem?_eq_some_iff.1 hu).1
  rw [Go.Proofs.Ytnocfhnandedoac.Hand.hk_add0, Nat.zero_add]
  by_cases hj : j = j0
  · subst hj
    have hqp : p' = q := by rw [List.getElem?_set_self hj0] at hq; exact Option.some.inj hq
    subst hqp
    obtain ⟨c, _, hc, hcell⟩ := hr j p hp
    have hcc := hop _ _ _ hc
    subst hcc
    rw [he] at hu
    by_cases hii : i = i0
    · subst hii
      rw [List.getElem?_set_self (by rw [hsz]; exact hi)] at hu
      cases hu
      have h9 := hcell i _ (List.getElem?_eq_getElem (by rw [hsz]; exact hi))
      rw [Go.Proofs.Ytnocfhnandedoac.Hand.hk_add0, Nat.zero_add] at h9
      exact World.cell?_setCell_same _ _ _ h9
    · rw [List.getElem?_set_ne (fun e => hii e.symm)] at hu
      have h9 := hcell i u hu
      rw [Go.Proofs.Ytnocfhnandedoac.Hand.hk_add0, Nat.zero_add] at h9
      rw [World.cell?_setCell_other _ _ _ _ (fun e => hii (by have := congrArg Addr.off e; simp only [] at this; omega))]
      exact h9
  · rw [List.getElem?_set_ne (fun e => hj e.symm)] at hq
    obtain ⟨c, _, hc, hcell⟩ := hr j q hq
    have hcc := hop _ _ _ hc
    subst hcc
    have h9 := hcell i u hu
    rw [Go.Proofs.Ytnocfhnandedoac.Hand.hk_add0, Nat.zero_add] at h9
    rw [World.cell?_setCell_other _ _ _ _ (fun e => by
      have h8 := congrArg Addr.off e
      simp only [] at h8
      rcases Nat.lt_or_gt_of_ne hj with hl | hl
      · have h7 := Nat.mul_le_mul_right d.sz (Nat.succ_le_of_lt hl)
        rw [Nat.succ_mul] at h7; omega
      · have h7 := Nat.mul_le_mul_right d.sz (Nat.succ_le_of_lt hl)
        rw [Nat.succ_mul] at h7; omega)]
    exact h9
theorem nd_get {α : Type} {d : Kd α} (enc : α → List Value) (hop : ∀ w x cs, d.K w x cs → cs = enc x) {w : World} {g n : Nat} {xs : List α} (h : Kd.C d w (some ⟨g, 0, none⟩) n xs) (k j i : Nat) (p : α) (u : Value) (hp : xs[j]? = some p) (hu : (enc p)[i]? = some u) (hk : k = j * d.sz + i) : w.cell? ⟨g, k, none⟩ = some u := by
  subst hk
  have hj0 : j < xs.length := (List.getElem?_eq_some_iff.1 hp).1
  obtain ⟨ad, e, hr⟩ := h.2.2 (by have := h.1; omega)
  cases e
  obtain ⟨c, _, hc, hcell⟩ := hr j p hp
  have hcc := hop _ _ _ hc
  subst hcc
  have h9 := hcell i u hu
  rwa [Go.Proofs.Ytnocfhnandedoac.Hand.hk_add0, Nat.zero_add] at h9
theorem nd_own {α : Type} {d : Kd α} {e : Nat} {W : World} {base : Nat} {ok : Nat → Prop} {v : Value} {xs : List α} (h : Kd.R d e W base ok v xs) (hn : 0 < xs.length) : ∃ g cap cur, v = .slice (some ⟨g, 0, none⟩) xs.length cap ∧ base ≤ g ∧ W.heap[g]? = some (.cells cur e (0, 0)) ∧ xs.length ≤ cap ∧ Kd.C d W (some ⟨g, 0, none⟩) xs.length xs := by
  have hr := h
  obtain ⟨_, inner, ⟨_, ho⟩, _⟩ := h
  rcases ho with ⟨_, h0⟩ | ⟨g, cap, cur, rfl, hg, hh, hc, _⟩
  · omega
  · exact ⟨g, cap, cur, rfl, hg, hh, hc, (Kd.R_reads' hr).2.2⟩
theorem nd_far {α : Type} {d : Kd α} (enc : α → List Value) (hsz : ∀ x, (enc x).length = d.sz) (hK : ∀ w x, d.K w x (enc x)) (hop : ∀ w x cs, d.K w x cs → cs = enc x) {w : World} {g n : Nat} {xs : List α} (h : Kd.C d w (some ⟨g, 0, none⟩) n xs) {p : Addr} (hp : g ≠ p.block) (v : Value) : Kd.C d (w.setCell p v) (some ⟨g, 0, none⟩) n xs := by
  refine ⟨h.1, h.2.1, fun hn => ⟨_, rfl, fun j q hq => ⟨enc q, hsz q, hK _ q, fun i u hu => ?_⟩⟩⟩
  obtain ⟨ad, e, hr⟩ := h.2.2 hn
  cases e
  obtain ⟨c, _, hc, hcell⟩ := hr j q hq
  have hcc := hop _ _ _ hc
  subst hcc
  have h9 := hcell i u hu
  rw [Go.Proofs.Ytnocfhnandedoac.Hand.hk_add0] at h9 ⊢
  rw [World.cell?_setCell_far _ _ _ _ (fun e => hp e.symm)]
  exact h9
theorem ndV_far {w : World} {g n : Nat} {xs : List S55} (h : Kd.C k55 w (some ⟨g, 0, none⟩) n xs) {p : Addr} (hp : g ≠ p.block) (v : Value) : Kd.C k55 (w.setCell p v) (some ⟨g, 0, none⟩) n xs :=
  nd_far (fun x => [.int .i64 x.f0.f0, .int .i64 x.f0.f1, .int .i64 x.f0.f2, .int .i64 x.f0.f3, .int .i64 x.f1]) (fun _ => rfl) (fun w x => k55_mk w x) (fun _ _ _ h => k55_open h) h hp v
theorem ndH_far {w : World} {g n : Nat} {xs : List S63} (h : Kd.C k63 w (some ⟨g, 0, none⟩) n xs) {p : Addr} (hp : g ≠ p.block) (v : Value) : Kd.C k63 (w.setCell p v) (some ⟨g, 0, none⟩) n xs :=
  nd_far (fun x => [.bool x.f0, .int .i64 x.f1]) (fun _ => rfl) (fun w x => k63_mk w x) (fun _ _ _ h => k63_open h) h hp v
def ndV : List S55 := [⟨⟨0, 0, 0, 0⟩, -1⟩, ⟨⟨0, 0, 0, 0⟩, -1⟩, ⟨⟨0, 0, 0, 0⟩, -1⟩]
def ndS : List S55 := [⟨⟨0, 0, 0, 0⟩, -1⟩, ⟨⟨1, 1, 1, 4⟩, 5⟩, ⟨⟨0, 0, 0, 0⟩, -1⟩]
def ndH : List S63 := [⟨true, 0⟩, ⟨true, 0⟩, ⟨true, 0⟩, ⟨true, 0⟩]
def encV (x : S55) : List Value := [.int .i64 x.f0.f0, .int .i64 x.f0.f1, .int .i64 x.f0.f2, .int .i64 x.f0.f3, .int .i64 x.f1]
def encH (x : S63) : List Value := [.bool x.f0, .int .i64 x.f1]
theorem ndV_set {w : World} {g n : Nat} {xs : List S55} (h : Kd.C k55 w (some ⟨g, 0, none⟩) n xs) (k j0 i0 : Nat) (p p' : S55) (v : Value) (hp : xs[j0]? = some p) (he : encV p' = (encV p).set i0 v) (hi : i0 < 5) (hk : k = j0 * 5 + i0) : Kd.C k55 (w.setCell ⟨g, k, none⟩ v) (some ⟨g, 0, none⟩) n (xs.set j0 p') :=
  nd_set encV (fun _ => rfl) (fun w x => k55_mk w x) (fun _ _ _ h => k55_open h) h k j0 i0 p p' v hp he hi hk
theorem ndH_set {w : World} {g n : Nat} {xs : List S63} (h : Kd.C k63 w (some ⟨g, 0, none⟩) n xs) (k j0 i0 : Nat) (p p' : S63) (v : Value) (hp : xs[j0]? = some p) (he : encH p' = (encH p).set i0 v) (hi : i0 < 2) (hk : k = j0 * 2 + i0) : Kd.C k63 (w.setCell ⟨g, k, none⟩ v) (some ⟨g, 0, none⟩) n (xs.set j0 p') :=
  nd_set encH (fun _ => rfl) (fun w x => k63_mk w x) (fun _ _ _ h => k63_open h) h k j0 i0 p p' v hp he hi hk
theorem ndV_get {w : World} {g n : Nat} {xs : List S55} (h : Kd.C k55 w (some ⟨g, 0, none⟩) n xs) (k j i : Nat) (p : S55) (u : Value) (hp : xs[j]? = some p) (hu : (encV p)[i]? = some u) (hk : k = j * 5 + i) : w.cell? ⟨g, k, none⟩ = some u :=
  nd_get encV (fun _ _ _ h => k55_open h) h k j i p u hp hu hk
theorem ndH_get {w : World} {g n : Nat} {xs : List S63} (h : Kd.C k63 w (some ⟨g, 0, none⟩) n xs) (k j i : Nat) (p : S63) (u : Value) (hp : xs[j]? = some p) (hu : (encH p)[i]? = some u) (hk : k = j * 2 + i) : w.cell? ⟨g, k, none⟩ = some u :=
  nd_get encH (fun _ _ _ h => k63_open h) h k j i p u hp hu hk
theorem nd_size (w : World) (o : Obj) : (w.alloc o).heap.size = w.heap.size + 1 := by simp
theorem nd_hide {P : Program} {c : Code} {Q : Exit → Act → World → Prop} {a : Act} {w : World} (R : World → Prop) (h : R w) (k : ∀ w', R w' → c.wp P Q a w') : c.wp P Q a w := k w h
set_option maxHeartbeats 8000000 in
set_option maxRecDepth 100000 in
theorem nd_cells (w : World) : Calls Try.prog 18 #[] w fun e w' => ∃ g0 g1 g2 gh ch gs cs curh curs, e = .returned (.agg #[.int .i64 0, .int .i64 3, .slice (some ⟨g2, 0, none⟩) 2 2, .slice (some ⟨gh, 0, none⟩) 4 ch, .slice (some ⟨gs, 0, none⟩) 3 cs, .slice none 0 0, .int .i64 0]) ∧ (w.heap.size ≤ g0 ∧ g0 < g1 ∧ g1 < g2 ∧ g2 < gs ∧ gs < gh ∧ gh < w'.heap.size) ∧ (4 ≤ ch ∧ 3 ≤ cs) ∧ w'.heap[g0]? = some (.cells #[.int .i64 1, .bool false] 65 (0, 0)) ∧ w'.heap[g1]? = some (.cells #[.int .i64 1, .bool false] 65 (0, 0)) ∧ w'.heap[g2]? = some (.cells #[.int .i64 2, .bool false, .int .i64 1, .slice (some ⟨g0, 0, none⟩) 1 1, .int .i64 1, .bool false, .int .i64 4, .slice (some ⟨g1, 0, none⟩) 1 1] 51 (0, 0)) ∧ w'.heap[gh]? = some (.cells curh 63 (0, 0)) ∧ w'.heap[gs]? = some (.cells curs 55 (0, 0)) ∧ Kd.C k63 w' (some ⟨gh, 0, none⟩) 4 ndH ∧ Kd.C k55 w' (some ⟨gs, 0, none⟩) 3 ndS ∧ Below w.heap.size w w' := by
  have hu := Try.underlying51
  have hu2 := Try.underlying29
  have hu3 := Try.underlying55
  go_enter Try.func18, Try.ntmps18
  go_upto_region 2 with fail
  obtain ⟨w1, h1⟩ : ∃ x_, x_ = w.alloc (.cells #[.int .i64 0, .int .i64 0, .slice none 0 0, .slice none 0 0, .slice none 0 0, .slice none 0 0, .int .i64 0] 29 (0, 0)) := ⟨_, rfl⟩
  rw [← h1]
  have s1 : w1.heap.size = w.heap.size + 1 := by rw [h1, nd_size]
  have hb1 : Below w.heap.size w w1 := h1 ▸ below_alloc (Below.refl _ _) _
  have H1 : w1.heap[w.heap.size]? = some (.cells #[.int .i64 0, .int .i64 0, .slice none 0 0, .slice none 0 0, .slice none 0 0, .slice none 0 0, .int .i64 0] 29 (0, 0)) := by rw [h1]; exact blk_new _ _
  clear h1
  obtain ⟨w2, h2⟩ : ∃ x_, x_ = w1.alloc (.cells #[.int .i64 1, .bool false] 65 (0, 0)) := ⟨_, rfl⟩
  rw [← h2]
  have s2 : w2.heap.size = w.heap.size + 1 + 1 := by rw [h2, nd_size]; rw [s1]
  have hb2 : Below w1.heap.size w1 w2 := h2 ▸ below_alloc (Below.refl _ _) _
  have H2 : w2.heap[w.heap.size + 1]? = some (.cells #[.int .i64 1, .bool false] 65 (0, 0)) := by rw [← s1, h2]; exact blk_new _ _
  clear h2
  obtain ⟨w3, h3⟩ : ∃ x_, x_ = w2.alloc (.cells #[.int .i64 1, .bool false] 65 (0, 0)) := ⟨_, rfl⟩
  rw [← h3]
  have s3 : w3.heap.size = w.heap.size + 1 + 1 + 1 := by rw [h3, nd_size]; rw [s2]
  have hb3 : Below w2.heap.size w2 w3 := h3 ▸ below_alloc (Below.refl _ _) _
  have H3 : w3.heap[w.heap.size + 1 + 1]? = some (.cells #[.int .i64 1, .bool false] 65 (0, 0)) := by rw [← s2, h3]; exact blk_new _ _
  clear h3
  obtain ⟨w4, h4⟩ : ∃ x_, x_ = w3.alloc (.cells #[.int .i64 2, .bool false, .int .i64 1, .slice (some ⟨(w.heap.size + 1), 0, none⟩) 1 1, .int .i64 1, .bool false, .int .i64 4, .slice (some ⟨(w.heap.size + 1 + 1), 0, none⟩) 1 1] 51 (0, 0)) := ⟨_, rfl⟩
  rw [← h4]
  have s4 : w4.heap.size = w.heap.size + 1 + 1 + 1 + 1 := by rw [h4, nd_size]; rw [s3]
  have hb4 : Below w3.heap.size w3 w4 := h4 ▸ below_alloc (Below.refl _ _) _
  have H4 : w4.heap[w.heap.size + 1 + 1 + 1]? = some (.cells #[.int .i64 2, .bool false, .int .i64 1, .slice (some ⟨(w.heap.size + 1), 0, none⟩) 1 1, .int .i64 1, .bool false, .int .i64 4, .slice (some ⟨(w.heap.size + 1 + 1), 0, none⟩) 1 1] 51 (0, 0)) := by rw [← s3, h4]; exact blk_new _ _
  clear h4
  obtain ⟨w5, h5⟩ : ∃ x_, x_ = w4.alloc (.cells #[.int .i64 3, .slice (some ⟨(w.heap.size + 1 + 1 + 1), 0, none⟩) 2 2] 24 (0, 0)) := ⟨_, rfl⟩
  rw [← h5]
  have s5 : w5.heap.size = w.heap.size + 1 + 1 + 1 + 1 + 1 := by rw [h5, nd_size]; rw [s4]
  have hb5 : Below w4.heap.size w4 w5 := h5 ▸ below_alloc (Below.refl _ _) _
  have H5 : w5.heap[w.heap.size + 1 + 1 + 1 + 1]? = some (.cells #[.int .i64 3, .slice (some ⟨(w.heap.size + 1 + 1 + 1), 0, none⟩) 2 2] 24 (0, 0)) := by rw [← s4, h5]; exact blk_new _ _
  clear h5
  have HZ := Aside0.mk (blk_below (blk_below (blk_below (blk_below (H1) hb2) hb3) hb4) hb5)
  have HG0 := Aside0.mk (blk_below (blk_below (blk_below (H2) hb3) hb4) hb5)
  have HG1 := Aside0.mk (blk_below (blk_below (H3) hb4) hb5)
  have HG2 := Aside0.mk (blk_below (H4) hb5)
  have HCC := Aside0.mk (H5)
  have HB := Aside0.mk (below_step (below_step (below_step (below_step hb1 hb2) hb3) hb4) hb5)
  have HS := Aside0.mk s5
  clear H1 H2 H3 H4 H5 hb1 hb2 hb3 hb4 hb5 s1 s2 s3 s4 s5
  obtain ⟨z, hz⟩ : ∃ z, z = w.heap.size := ⟨_, rfl⟩
  obtain ⟨g0, hg0⟩ : ∃ g0, g0 = w.heap.size + 1 := ⟨_, rfl⟩
  obtain ⟨g1, hg1⟩ : ∃ g1, g1 = w.heap.size + 1 + 1 := ⟨_, rfl⟩
  obtain ⟨g2, hg2⟩ : ∃ g2, g2 = w.heap.size + 1 + 1 + 1 := ⟨_, rfl⟩
  obtain ⟨c, hc⟩ : ∃ c, c = w.heap.size + 1 + 1 + 1 + 1 := ⟨_, rfl⟩
  have HN := Aside0.mk (show w.heap.size ≤ z ∧ z < g0 ∧ g0 < g1 ∧ g1 < g2 ∧ g2 < c ∧ c < w5.heap.size from by have := HS.out; omega)
  rw [← hc, ← hg2, ← hg1, ← hg0, ← hz]
  rw [← hz] at HZ
  rw [← hg0] at HG0
  rw [← hg1] at HG1
  rw [← hg2, ← hg1, ← hg0] at HG2
  rw [← hc, ← hg2] at HCC
  clear hz hg0 hg1 hg2 hc HS
  go_upto_region 3 with (go_at_call 36; refine (wharfageref10_NewView.calls 60 ndV w5 (by kernel_rfl)).mono ?_; rintro e w6 ⟨v6, rfl, ho, hb⟩; obtain ⟨gs, cs, cur, e6, g6, h6, c6, r6⟩ := nd_own ho (by decide); replace e6 : v6 = .slice (some ⟨gs, 0, none⟩) 3 cs := e6; subst e6; have HC6 := Aside0.mk (show 3 ≤ cs from c6); have HR6 := Aside0.mk (show Kd.C k55 w6 (some ⟨gs, 0, none⟩) 3 ndV from r6); have HK6 := Aside0.mk h6; have HM := Aside0.mk g6; clear ho g6 h6 c6 r6; replace HZ := Aside0.mk (blk_below HZ.out hb); replace HG0 := Aside0.mk (blk_below HG0.out hb); replace HG1 := Aside0.mk (blk_below HG1.out hb); replace HG2 := Aside0.mk (blk_below HG2.out hb); replace HCC := Aside0.mk (blk_below HCC.out hb); replace HB := Aside0.mk (below_step HB.out hb); clear hb)
  have y0 : w6.cell? ⟨gs, 5, none⟩ = some (.int .i64 0) := ndV_get HR6.out 5 1 0 _ _ rfl rfl rfl
  have f0 : w6.frozen? ⟨gs, 5, none⟩ = false := blk_frozen HK6.out 5
  have y1 : w6.cell? ⟨gs, 6, none⟩ = some (.int .i64 0) := ndV_get HR6.out 6 1 1 _ _ rfl rfl rfl
  have f1 : w6.frozen? ⟨gs, 6, none⟩ = false := blk_frozen HK6.out 6
  have y2 : w6.cell? ⟨gs, 7, none⟩ = some (.int .i64 0) := ndV_get HR6.out 7 1 2 _ _ rfl rfl rfl
  have f2 : w6.frozen? ⟨gs, 7, none⟩ = false := blk_frozen HK6.out 7
  have y3 : w6.cell? ⟨gs, 8, none⟩ = some (.int .i64 0) := ndV_get HR6.out 8 1 3 _ _ rfl rfl rfl
  have f3 : w6.frozen? ⟨gs, 8, none⟩ = false := blk_frozen HK6.out 8
  have y4 : w6.cell? ⟨gs, 9, none⟩ = some (.int .i64 (-1)) := ndV_get HR6.out 9 1 4 _ _ rfl rfl rfl
  have f4 : w6.frozen? ⟨gs, 9, none⟩ = false := blk_frozen HK6.out 9
  go_upto_region 4 with fail
  have hn := HN.out
  have hm := HM.out
  have r0 := ndV_set HR6.out 5 1 0 (⟨⟨0, 0, 0, 0⟩, (-1)⟩ : S55) (⟨⟨1, 0, 0, 0⟩, (-1)⟩ : S55) (.int .i64 1) rfl rfl (by decide) rfl
  have r1 := ndV_set r0 6 1 1 (⟨⟨1, 0, 0, 0⟩, (-1)⟩ : S55) (⟨⟨1, 1, 0, 0⟩, (-1)⟩ : S55) (.int .i64 1) rfl rfl (by decide) rfl
  have r2 := ndV_set r1 7 1 2 (⟨⟨1, 1, 0, 0⟩, (-1)⟩ : S55) (⟨⟨1, 1, 1, 0⟩, (-1)⟩ : S55) (.int .i64 1) rfl rfl (by decide) rfl
  have r3 := ndV_set r2 8 1 3 (⟨⟨1, 1, 1, 0⟩, (-1)⟩ : S55) (⟨⟨1, 1, 1, 4⟩, (-1)⟩ : S55) (.int .i64 4) rfl rfl (by decide) rfl
  have r4 := ndV_set r3 9 1 4 (⟨⟨1, 1, 1, 4⟩, (-1)⟩ : S55) (⟨⟨1, 1, 1, 4⟩, 5⟩ : S55) (.int .i64 5) rfl rfl (by decide) rfl
  refine nd_hide (fun W => Kd.C k55 W (some ⟨gs, 0, none⟩) 3 ndS ∧ (∃ cur, W.heap[gs]? = some (.cells cur 55 (0, 0))) ∧ W.heap[z]? = some (.cells #[.int .i64 0, .int .i64 0, .slice none 0 0, .slice none 0 0, .slice none 0 0, .slice none 0 0, .int .i64 0] 29 (0, 0)) ∧ W.heap[g0]? = some (.cells #[.int .i64 1, .bool false] 65 (0, 0)) ∧ W.heap[g1]? = some (.cells #[.int .i64 1, .bool false] 65 (0, 0)) ∧ W.heap[g2]? = some (.cells #[.int .i64 2, .bool false, .int .i64 1, .slice (some ⟨g0, 0, none⟩) 1 1, .int .i64 1, .bool false, .int .i64 4, .slice (some ⟨g1, 0, none⟩) 1 1] 51 (0, 0)) ∧ W.heap[c]? = some (.cells #[.int .i64 3, .slice (some ⟨g2, 0, none⟩) 2 2] 24 (0, 0)) ∧ Below w.heap.size w W) ⟨r4, ⟨_, (blk_put (blk_put (blk_put (blk_put (blk_put HK6.out 5 _ rfl) 6 _ rfl) 7 _ rfl) 8 _ rfl) 9 _ rfl)⟩, (blk_far (blk_far (blk_far (blk_far (blk_far HZ.out (by simp only []; omega) _) (by simp only []; omega) _) (by simp only []; omega) _) (by simp only []; omega) _) (by simp only []; omega) _), (blk_far (blk_far (blk_far (blk_far (blk_far HG0.out (by simp only []; omega) _) (by simp only []; omega) _) (by simp only []; omega) _) (by simp only []; omega) _) (by simp only []; omega) _), (blk_far (blk_far (blk_far (blk_far (blk_far HG1.out (by simp only []; omega) _) (by simp only []; omega) _) (by simp only []; omega) _) (by simp only []; omega) _) (by simp only []; omega) _), (blk_far (blk_far (blk_far (blk_far (blk_far HG2.out (by simp only []; omega) _) (by simp only []; omega) _) (by simp only []; omega) _) (by simp only []; omega) _) (by simp only []; omega) _), (blk_far (blk_far (blk_far (blk_far (blk_far HCC.out (by simp only []; omega) _) (by simp only []; omega) _) (by simp only []; omega) _) (by simp only []; omega) _) (by simp only []; omega) _), (below_set (below_set (below_set (below_set (below_set HB.out (by omega)) (by omega)) (by omega)) (by omega)) (by omega))⟩ ?_
  clear r0 r1 r2 r3 r4 y0 y1 y2 y3 y4 f0 f1 f2 f3 f4 HR6 HK6 HB HZ HG0 HG1 HG2 HCC hn hm
  intro w7 ⟨hs7, ⟨cur7, hk7⟩, hz7, h07, h17, h27, hc7, hb7⟩
  have HR7 := Aside0.mk hs7
  have HK7 := Aside0.mk hk7
  have HZ := Aside0.mk hz7
  have HG0 := Aside0.mk h07
  have HG1 := Aside0.mk h17
  have HG2 := Aside0.mk h27
  have HCC := Aside0.mk hc7
  have HB := Aside0.mk hb7
  clear hs7 hk7 hz7 h07 h17 h27 hc7 hb7
  have m1 : z ≠ c := by have := HN.out; omega
  have m2 : c ≠ z := by have := HN.out; omega
  have kc0 : w7.cell? ⟨c, 0, none⟩ = some (.int .i64 3) := (blk_cell HCC.out 0).trans rfl
  have kc1 : w7.cell? ⟨c, 1, none⟩ = some (.slice (some ⟨g2, 0, none⟩) 2 2) := (blk_cell HCC.out 1).trans rfl
  have hnews : wharfageref10_News.f 60 4 = some ndH := by kernel_rfl
  go_region_held3 (fun w' => w'.cell? ⟨c, 0, none⟩ = some (.int .i64 3) ∧ w'.cell? ⟨c, 1, none⟩ = some (.slice (some ⟨g2, 0, none⟩) 2 2)) (first | (with_reducible exact ⟨kc0, kc1⟩) | go_keep) ((go_at_call 37; (with_reducible refine (wharfageref10_News.calls 60 4 ndH w7.drew hnews).mono ?_); rintro e w8 ⟨v8, rfl, ho, hb⟩; obtain ⟨gh, ch, curh, e8, g8, h8, c8, r8⟩ := nd_own ho (by decide); replace e8 : v8 = .slice (some ⟨gh, 0, none⟩) 4 ch := e8; subst e8; have HX : Aside0 (Below w7.heap.size w7 w8) := Aside0.mk (below_step (below_drew1 (Below.refl _ _)) hb); have HC8 := Aside0.mk (show 4 ≤ ch from c8); have HR8 := Aside0.mk (show Kd.C k63 w8 (some ⟨gh, 0, none⟩) 4 ndH from r8); have HK8 := Aside0.mk h8; have HM8 := Aside0.mk (show w7.heap.size ≤ gh from g8); clear ho g8 h8 c8 r8 hb; have zc0 : w8.cell? ⟨z, 0, none⟩ = some (.int .i64 0) := (blk_cell (blk_below HZ.out HX.out) 0).trans rfl; have zf0 : w8.frozen? ⟨z, 0, none⟩ = false := blk_frozen (blk_below HZ.out HX.out) 0; have zc1 : w8.cell? ⟨z, 1, none⟩ = some (.int .i64 0) := (blk_cell (blk_below HZ.out HX.out) 1).trans rfl; have zf1 : w8.frozen? ⟨z, 1, none⟩ = false := blk_frozen (blk_below HZ.out HX.out) 1; have zc2 : w8.cell? ⟨z, 2, none⟩ = some (.slice none 0 0) := (blk_cell (blk_below HZ.out HX.out) 2).trans rfl; have zf2 : w8.frozen? ⟨z, 2, none⟩ = false := blk_frozen (blk_below HZ.out HX.out) 2; have zc3 : w8.cell? ⟨z, 3, none⟩ = some (.slice none 0 0) := (blk_cell (blk_below HZ.out HX.out) 3).trans rfl; have zf3 : w8.frozen? ⟨z, 3, none⟩ = false := blk_frozen (blk_below HZ.out HX.out) 3; have zc4 : w8.cell? ⟨z, 4, none⟩ = some (.slice none 0 0) := (blk_cell (blk_below HZ.out HX.out) 4).trans rfl; have zf4 : w8.frozen? ⟨z, 4, none⟩ = false := blk_frozen (blk_below HZ.out HX.out) 4; have zc5 : w8.cell? ⟨z, 5, none⟩ = some (.slice none 0 0) := (blk_cell (blk_below HZ.out HX.out) 5).trans rfl; have zf5 : w8.frozen? ⟨z, 5, none⟩ = false := blk_frozen (blk_below HZ.out HX.out) 5; have zc6 : w8.cell? ⟨z, 6, none⟩ = some (.int .i64 0) := (blk_cell (blk_below HZ.out HX.out) 6).trans rfl; have zf6 : w8.frozen? ⟨z, 6, none⟩ = false := blk_frozen (blk_below HZ.out HX.out) 6; replace kc0 : w8.cell? ⟨c, 0, none⟩ = some (.int .i64 3) := (blk_cell (blk_below HCC.out HX.out) 0).trans rfl; replace kc1 : w8.cell? ⟨c, 1, none⟩ = some (.slice (some ⟨g2, 0, none⟩) 2 2) := (blk_cell (blk_below HCC.out HX.out) 1).trans rfl))
  all_goals (
    go_wp2_with fail
    have hn := HN.out
    have hm := HM.out
    have hm8 := HM8.out
    have hl7 := blk_lt HK7.out
    have kh : (((((((w8.setCell ⟨z, 0, none⟩ (.int .i64 0)).setCell ⟨z, 1, none⟩ (.int .i64 3)).setCell ⟨z, 2, none⟩ (.slice (some ⟨g2, 0, none⟩) 2 2)).setCell ⟨z, 3, none⟩ (.slice (some ⟨gh, 0, none⟩) 4 ch)).setCell ⟨z, 4, none⟩ (.slice (some ⟨gs, 0, none⟩) 3 cs)).setCell ⟨z, 5, none⟩ (.slice none 0 0)).setCell ⟨z, 6, none⟩ (.int .i64 0)).heap[gh]? = some (.cells curh 63 (0, 0)) := (blk_far (blk_far (blk_far (blk_far (blk_far (blk_far (blk_far HK8.out (by simp only []; omega) _) (by simp only []; omega) _) (by simp only []; omega) _) (by simp only []; omega) _) (by simp only []; omega) _) (by simp only []; omega) _) (by simp only []; omega) _)
    refine bodyPost_ret (results_cell_row rfl _ _ z 29 #[.int .i64 0, .int .i64 3, .slice (some ⟨g2, 0, none⟩) 2 2, .slice (some ⟨gh, 0, none⟩) 4 ch, .slice (some ⟨gs, 0, none⟩) 3 cs, .slice none 0 0, .int .i64 0] (0, 0) _ rfl (blk_put (blk_put (blk_put (blk_put (blk_put (blk_put (blk_put (blk_below HZ.out HX.out) 0 _ rfl) 1 _ rfl) 2 _ rfl) 3 _ rfl) 4 _ rfl) 5 _ rfl) 6 _ rfl) Try.underlying29 rfl (by kernel_rfl)) rfl ?_
    exact ⟨g0, g1, g2, gh, ch, gs, cs, curh, cur7, rfl, ⟨by omega, by omega, by omega, by omega, by omega, blk_lt kh⟩, ⟨HC8.out, HC6.out⟩, (blk_far (blk_far (blk_far (blk_far (blk_far (blk_far (blk_far (blk_below HG0.out HX.out) (by simp only []; omega) _) (by simp only []; omega) _) (by simp only []; omega) _) (by simp only []; omega) _) (by simp only []; omega) _) (by simp only []; omega) _) (by simp only []; omega) _), (blk_far (blk_far (blk_far (blk_far (blk_far (blk_far (blk_far (blk_below HG1.out HX.out) (by simp only []; omega) _) (by simp only []; omega) _) (by simp only []; omega) _) (by simp only []; omega) _) (by simp only []; omega) _) (by simp only []; omega) _) (by simp only []; omega) _), (blk_far (blk_far (blk_far (blk_far (blk_far (blk_far (blk_far (blk_below HG2.out HX.out) (by simp only []; omega) _) (by simp only []; omega) _) (by simp only []; omega) _) (by simp only []; omega) _) (by simp only []; omega) _) (by simp only []; omega) _) (by simp only []; omega) _), kh, (blk_far (blk_far (blk_far (blk_far (blk_far (blk_far (blk_far (blk_below HK7.out HX.out) (by simp only []; omega) _) (by simp only []; omega) _) (by simp only []; omega) _) (by simp only []; omega) _) (by simp only []; omega) _) (by simp only []; omega) _) (by simp only []; omega) _), (ndH_far (ndH_far (ndH_far (ndH_far (ndH_far (ndH_far (ndH_far HR8.out (by simp only []; omega) _) (by simp only []; omega) _) (by simp only []; omega) _) (by simp only []; omega) _) (by simp only []; omega) _) (by simp only []; omega) _) (by simp only []; omega) _), (ndV_far (ndV_far (ndV_far (ndV_far (ndV_far (ndV_far (ndV_far (Kd.C_below HR7.out HX.out) (by simp only []; omega) _) (by simp only []; omega) _) (by simp only []; omega) _) (by simp only []; omega) _) (by simp only []; omega) _) (by simp only []; omega) _) (by simp only []; omega) _), (below_set (below_set (below_set (below_set (below_set (below_set (below_set (below_step HB.out HX.out) (by omega)) (by omega)) (by omega)) (by omega)) (by omega)) (by omega)) (by omega))⟩)
/-- What the switch leaves: a node in its block, and what Targets says of it. -/
def GT (w0 : World) (b : Nat) (t : Int) (s7 : Value) (w : World) : Prop := ∃ (wn : Int) (rl : List S48) (a0 : Int) (A2 : Option Addr) (n2 c2 : Nat) (l2 : List S51) (A3 : Option Addr) (n3 c3 : Nat) (l3 : List S63) (A4 : Option Addr) (n4 c4 : Nat) (l4 : List S55) (A5 : Option Addr) (n5 c5 : Nat) (l5 : List S60), s7 = .int .i64 wn ∧ Aside0 ((wn = 0 ∧ rl = []) ∨ (wn = 1 ∧ rl = [⟨1, 3⟩])) ∧ l2.length = n2 ∧ l3.length = n3 ∧ l4.length = n4 ∧ l5.length = n5 ∧ Aside0 (w.heap[b]? = some (.cells #[.int .i64 a0, .int .i64 3, .slice A2 n2 c2, .slice A3 n3 c3, .slice A4 n4 c4, .slice A5 n5 c5, .int .i64 0] 29 (0, 0))) ∧ Aside0 (Kd.C k51 w A2 n2 l2) ∧ Aside0 (n2 ≤ c2) ∧ Aside0 (Kd.C k63 w A3 n3 l3) ∧ Aside0 (n3 ≤ c3) ∧ Aside0 (Kd.C k55 w A4 n4 l4) ∧ Aside0 (n4 ≤ c4) ∧ Aside0 (Kd.C k60 w A5 n5 l5) ∧ Aside0 (n5 ≤ c5) ∧ Aside0 (spare_Targets.f 60 a0 3 l2 l3 l4 l5 0 t = some (rl, 0)) ∧ Aside0 (Below w0.heap.size w0 w)
theorem GT.mk' {w0 : World} {b : Nat} {t : Int} {w : World} (wn : Int) (rl : List S48) (a0 : Int) (A2 : Option Addr) (n2 c2 : Nat) (l2 : List S51) (A3 : Option Addr) (n3 c3 : Nat) (l3 : List S63) (A4 : Option Addr) (n4 c4 : Nat) (l4 : List S55) (A5 : Option Addr) (n5 c5 : Nat) (l5 : List S60) (hw : (wn = 0 ∧ rl = []) ∨ (wn = 1 ∧ rl = [⟨1, 3⟩])) (e2 : l2.length = n2) (e3 : l3.length = n3) (e4 : l4.length = n4) (e5 : l5.length = n5) (hb : w.heap[b]? = some (.cells #[.int .i64 a0, .int .i64 3, .slice A2 n2 c2, .slice A3 n3 c3, .slice A4 n4 c4, .slice A5 n5 c5, .int .i64 0] 29 (0, 0))) (r2 : Kd.C k51 w A2 n2 l2) (q2 : n2 ≤ c2) (r3 : Kd.C k63 w A3 n3 l3) (q3 : n3 ≤ c3) (r4 : Kd.C k55 w A4 n4 l4) (q4 : n4 ≤ c4) (r5 : Kd.C k60 w A5 n5 l5) (q5 : n5 ≤ c5) (hf : spare_Targets.f 60 a0 3 l2 l3 l4 l5 0 t = some (rl, 0)) (hB : Below w0.heap.size w0 w) : GT w0 b t (.int .i64 wn) w :=
  ⟨wn, rl, a0, A2, n2, c2, l2, A3, n3, c3, l3, A4, n4, c4, l4, A5, n5, c5, l5, rfl, ⟨hw⟩, e2, e3, e4, e5, ⟨hb⟩, ⟨r2⟩, ⟨q2⟩, ⟨r3⟩, ⟨q3⟩, ⟨r4⟩, ⟨q4⟩, ⟨r5⟩, ⟨q5⟩, ⟨hf⟩, ⟨hB⟩⟩
theorem ndC_get {w : World} {g n : Nat} {xs : List S48} (h : Kd.C k48 w (some ⟨g, 0, none⟩) n xs) (k j i : Nat) (p : S48) (u : Value) (hp : xs[j]? = some p) (hu : [Value.int .i64 p.f0, Value.int .i64 p.f1][i]? = some u) (hk : k = j * 2 + i) : w.cell? ⟨g, k, none⟩ = some u :=
  nd_get (fun x => [Value.int .i64 x.f0, Value.int .i64 x.f1]) (fun _ _ _ h => k48_open h) h k j i p u hp hu hk
theorem gt0 (t : Int) (h : 5 ≤ t ∧ t ≤ 12) : spare_Targets.f 60 0 3 ([⟨2, false, 1, [⟨1, false⟩]⟩, ⟨1, false, 4, [⟨1, false⟩]⟩] : List S51) ndH ndS [] 0 t = some (([⟨1, 3⟩] : List S48), 0) := by
  have ht : t = 5 ∨ t = 6 ∨ t = 7 ∨ t = 8 ∨ t = 9 ∨ t = 10 ∨ t = 11 ∨ t = 12 := by omega
  rcases ht with rfl | rfl | rfl | rfl | rfl | rfl | rfl | rfl <;> (show _ = _; kernel_rfl)
theorem gt1 (t : Int) (h : 5 ≤ t ∧ t ≤ 12) : spare_Targets.f 60 0 3 ([⟨2, false, 1, [⟨1, false⟩]⟩, ⟨1, true, 4, [⟨1, false⟩]⟩] : List S51) ndH ndS [] 0 t = some (([] : List S48), 0) := by
  have ht : t = 5 ∨ t = 6 ∨ t = 7 ∨ t = 8 ∨ t = 9 ∨ t = 10 ∨ t = 11 ∨ t = 12 := by omega
  rcases ht with rfl | rfl | rfl | rfl | rfl | rfl | rfl | rfl <;> (show _ = _; kernel_rfl)
theorem gt2 (t : Int) (h : 5 ≤ t ∧ t ≤ 12) : spare_Targets.f 60 0 3 ([⟨2, false, 1, [⟨1, false⟩]⟩, ⟨0, false, 4, [⟨1, false⟩]⟩] : List S51) ndH ndS [] 0 t = some (([] : List S48), 0) := by
  have ht : t = 5 ∨ t = 6 ∨ t = 7 ∨ t = 8 ∨ t = 9 ∨ t = 10 ∨ t = 11 ∨ t = 12 := by omega
  rcases ht with rfl | rfl | rfl | rfl | rfl | rfl | rfl | rfl <;> (show _ = _; kernel_rfl)
theorem gt3 (t : Int) (h : 5 ≤ t ∧ t ≤ 12) : spare_Targets.f 60 0 3 ([⟨2, false, 1, [⟨1, false⟩]⟩, ⟨1, false, 4, [⟨1, false⟩]⟩] : List S51) ndH ([⟨⟨0, 0, 0, 0⟩, -1⟩, ⟨⟨1, 1, 4, 4⟩, 5⟩, ⟨⟨0, 0, 0, 0⟩, -1⟩] : List S55) [] 0 t = some (([] : List S48), 0) := by
  have ht : t = 5 ∨ t = 6 ∨ t = 7 ∨ t = 8 ∨ t = 9 ∨ t = 10 ∨ t = 11 ∨ t = 12 := by omega
  rcases ht with rfl | rfl | rfl | rfl | rfl | rfl | rfl | rfl <;> (show _ = _; kernel_rfl)
theorem gt5 (t : Int) (h : 5 ≤ t ∧ t ≤ 12) : spare_Targets.f 60 0 3 ([⟨2, false, 1, [⟨1, false⟩]⟩] : List S51) ndH ndS [] 0 t = some (([] : List S48), 0) := by
  have ht : t = 5 ∨ t = 6 ∨ t = 7 ∨ t = 8 ∨ t = 9 ∨ t = 10 ∨ t = 11 ∨ t = 12 := by omega
  rcases ht with rfl | rfl | rfl | rfl | rfl | rfl | rfl | rfl <;> (show _ = _; kernel_rfl)
theorem gt6 (t : Int) (h : 5 ≤ t ∧ t ≤ 12) : spare_Targets.f 60 1 3 ([⟨2, false, 1, [⟨1, false⟩]⟩, ⟨1, false, 4, [⟨1, false⟩]⟩] : List S51) ndH ndS [] 0 t = some (([] : List S48), 0) := by
  have ht : t = 5 ∨ t = 6 ∨ t = 7 ∨ t = 8 ∨ t = 9 ∨ t = 10 ∨ t = 11 ∨ t = 12 := by omega
  rcases ht with rfl | rfl | rfl | rfl | rfl | rfl | rfl | rfl <;> (show _ = _; kernel_rfl)
theorem gt4a (t : Int) (h : 5 ≤ t ∧ t ≤ 9) : spare_Targets.f 60 0 3 ([⟨2, false, 1, [⟨1, false⟩]⟩, ⟨1, false, 4, [⟨1, false⟩]⟩] : List S51) ndH ndV [] 0 t = some (([] : List S48), 0) := by
  have ht : t = 5 ∨ t = 6 ∨ t = 7 ∨ t = 8 ∨ t = 9 := by omega
  rcases ht with rfl | rfl | rfl | rfl | rfl <;> (show _ = _; kernel_rfl)
theorem gt4b (t : Int) (h : 10 ≤ t ∧ t ≤ 12) : spare_Targets.f 60 0 3 ([⟨2, false, 1, [⟨1, false⟩]⟩, ⟨1, false, 4, [⟨1, false⟩]⟩] : List S51) ndH ([⟨⟨0, 0, 0, 0⟩, -1⟩, ⟨⟨1, 1, 1, 4⟩, t - 10⟩, ⟨⟨0, 0, 0, 0⟩, -1⟩] : List S55) [] 0 t = some (([] : List S48), 0) := by
  have ht : t = 10 ∨ t = 11 ∨ t = 12 := by omega
  rcases ht with rfl | rfl | rfl <;> (show _ = _; kernel_rfl)
open Go.Proofs.Ytnocfhnandedoac.NumMath (wrap_u64_mod and7 wrap64_in) in
set_option maxHeartbeats 8000000 in
set_option maxRecDepth 100000 in
theorem wharfagelaw17_SpareTargets.calls (a0 a1 : Int) (r : Bool) (w : World) (h : wharfagelaw17_SpareTargets.f a0 a1 = some r) :
    Calls Try.prog 6 #[.int .i64 a0, .int .i64 a1] w fun e w' => e = .returned (.bool r) ∧ Below w.heap.size w w' := by
  obtain rfl := Option.some.inj h
  clear h
  have hu := Try.underlying51
  have hu2 := Try.underlying29
  have hu3 := Try.underlying55
  have hu4 := Try.underlying24
  have hu5 := Try.underlying63
  have hu6 := Try.underlying65
  have hu7 := Try.underlying60
  have hu8 := Try.underlying48
  obtain ⟨t, hd, HD⟩ : ∃ t : Int, wrap64 (5 + bits .and .i64 a1 7) = t ∧ Aside0 (5 ≤ t ∧ t ≤ 12) := by
    rw [and7, wrap64_in _ (by omega) (by omega)]
    exact ⟨5 + a1 % 8, rfl, ⟨by omega⟩⟩
  obtain ⟨p, hp, HP⟩ : ∃ p : Int, (IntKind.u64.wrap a0).tmod 7 = p ∧ Aside0 (0 ≤ p ∧ p < 7) := by
    rw [wrap_u64_mod]
    exact ⟨_, rfl, ⟨by rw [Int.tmod_eq_emod_of_nonneg (by omega)]; omega⟩⟩
  have HB := Aside0.mk (Below.refl w.heap.size w)
  go_enter Try.func6, Try.ntmps6
  go_upto_block 0 with (first
    | (go_at_call 17; refine (wharfagelaw17_awake.calls 60 true _ (by decide +kernel)).mono ?_; rintro e w1 ⟨rfl, hb⟩; replace HB := Aside0.mk (below_step HB.out hb); clear hb)
    | (go_at_call 18; refine (nd_cells _).mono ?_; rintro e w2 ⟨g0, g1, g2, gh, ch, gs, cs, curh, curs, rfl, hg, hc, h0, h1, h2, hkh, hks, hrh, hrs, hb⟩; have HWS := Aside0.mk HB.out.size; replace HB := Aside0.mk (below_step HB.out hb); have HG := Aside0.mk hg; have HC := Aside0.mk hc; have H0 := Aside0.mk h0; have H1 := Aside0.mk h1; have H2 := Aside0.mk h2; have HKH := Aside0.mk hkh; have HKS := Aside0.mk hks; have HRH := Aside0.mk hrh; have HRS := Aside0.mk hrs; clear hg hc h0 h1 h2 hkh hks hrh hrs hb))
  obtain ⟨w3, h1⟩ : ∃ x_, x_ = w2.alloc (.cells #[.int .i64 0, .int .i64 3, .slice (some ⟨g2, 0, none⟩) 2 2, .slice (some ⟨gh, 0, none⟩) 4 ch, .slice (some ⟨gs, 0, none⟩) 3 cs, .slice none 0 0, .int .i64 0] 29 (0, 0)) := ⟨_, rfl⟩
  rw [← h1]
  have s1 : w3.heap.size = w2.heap.size + 1 := by rw [h1, nd_size]
  have hb5 : Below w2.heap.size w2 w3 := h1 ▸ below_alloc (Below.refl _ _) _
  have NB := Aside0.mk (show w3.heap[w2.heap.size]? = some (.cells #[.int .i64 0, .int .i64 3, .slice (some ⟨g2, 0, none⟩) 2 2, .slice (some ⟨gh, 0, none⟩) 4 ch, .slice (some ⟨gs, 0, none⟩) 3 cs, .slice none 0 0, .int .i64 0] 29 (0, 0)) from by rw [h1]; exact blk_new _ _)
  clear h1
  replace HB := Aside0.mk (below_step HB.out hb5)
  replace H0 := Aside0.mk (blk_below H0.out hb5)
  replace H1 := Aside0.mk (blk_below H1.out hb5)
  replace H2 := Aside0.mk (blk_below H2.out hb5)
  replace HKH := Aside0.mk (blk_below HKH.out hb5)
  replace HKS := Aside0.mk (blk_below HKS.out hb5)
  replace HRH := Aside0.mk (Kd.C_below HRH.out hb5)
  replace HRS := Aside0.mk (Kd.C_below HRS.out hb5)
  clear hb5
  obtain ⟨b, hb⟩ : ∃ b, b = w2.heap.size := ⟨_, rfl⟩
  have HN := Aside0.mk (show w.heap.size ≤ g0 ∧ g0 < g1 ∧ g1 < g2 ∧ g2 < gs ∧ gs < gh ∧ gh < b ∧ b < w3.heap.size from by have h1 := HG.out; have h3 := HWS.out; omega)
  rw [← hb]
  rw [← hb] at NB
  clear hb s1 HG HWS
  go_cut [6, 7] (fun s6 s7 wx => s6 = .int .i64 t ∧ GT w b t s7 wx)
  case first =>
    clear hp
    have hcs : p = 0 ∨ p = 1 ∨ p = 2 ∨ p = 3 ∨ p = 4 ∨ p = 5 ∨ p = 6 := by have := HP.out; omega
    have kb0 : w3.cell? ⟨b, 0, none⟩ = some (.int .i64 0) := (blk_cell NB.out 0).trans rfl
    have kbf0 : w3.frozen? ⟨b, 0, none⟩ = false := blk_frozen NB.out 0
    have kb1 : w3.cell? ⟨b, 1, none⟩ = some (.int .i64 3) := (blk_cell NB.out 1).trans rfl
    have kbf1 : w3.frozen? ⟨b, 1, none⟩ = false := blk_frozen NB.out 1
    have kb2 : w3.cell? ⟨b, 2, none⟩ = some (.slice (some ⟨g2, 0, none⟩) 2 2) := (blk_cell NB.out 2).trans rfl
    have kbf2 : w3.frozen? ⟨b, 2, none⟩ = false := blk_frozen NB.out 2
    have kb3 : w3.cell? ⟨b, 3, none⟩ = some (.slice (some ⟨gh, 0, none⟩) 4 ch) := (blk_cell NB.out 3).trans rfl
    have kbf3 : w3.frozen? ⟨b, 3, none⟩ = false := blk_frozen NB.out 3
    have kb4 : w3.cell? ⟨b, 4, none⟩ = some (.slice (some ⟨gs, 0, none⟩) 3 cs) := (blk_cell NB.out 4).trans rfl
    have kbf4 : w3.frozen? ⟨b, 4, none⟩ = false := blk_frozen NB.out 4
    have kb5 : w3.cell? ⟨b, 5, none⟩ = some (.slice none 0 0) := (blk_cell NB.out 5).trans rfl
    have kbf5 : w3.frozen? ⟨b, 5, none⟩ = false := blk_frozen NB.out 5
    have kb6 : w3.cell? ⟨b, 6, none⟩ = some (.int .i64 0) := (blk_cell NB.out 6).trans rfl
    have kbf6 : w3.frozen? ⟨b, 6, none⟩ = false := blk_frozen NB.out 6
    have k20 : w3.cell? ⟨g2, 0, none⟩ = some (.int .i64 2) := (blk_cell H2.out 0).trans rfl
    have k2f0 : w3.frozen? ⟨g2, 0, none⟩ = false := blk_frozen H2.out 0
    have k21 : w3.cell? ⟨g2, 1, none⟩ = some (.bool false) := (blk_cell H2.out 1).trans rfl
    have k2f1 : w3.frozen? ⟨g2, 1, none⟩ = false := blk_frozen H2.out 1
    have k22 : w3.cell? ⟨g2, 2, none⟩ = some (.int .i64 1) := (blk_cell H2.out 2).trans rfl
    have k2f2 : w3.frozen? ⟨g2, 2, none⟩ = false := blk_frozen H2.out 2
    have k23 : w3.cell? ⟨g2, 3, none⟩ = some (.slice (some ⟨g0, 0, none⟩) 1 1) := (blk_cell H2.out 3).trans rfl
    have k2f3 : w3.frozen? ⟨g2, 3, none⟩ = false := blk_frozen H2.out 3
    have k24 : w3.cell? ⟨g2, 4, none⟩ = some (.int .i64 1) := (blk_cell H2.out 4).trans rfl
    have k2f4 : w3.frozen? ⟨g2, 4, none⟩ = false := blk_frozen H2.out 4
    have k25 : w3.cell? ⟨g2, 5, none⟩ = some (.bool false) := (blk_cell H2.out 5).trans rfl
    have k2f5 : w3.frozen? ⟨g2, 5, none⟩ = false := blk_frozen H2.out 5
    have k26 : w3.cell? ⟨g2, 6, none⟩ = some (.int .i64 4) := (blk_cell H2.out 6).trans rfl
    have k2f6 : w3.frozen? ⟨g2, 6, none⟩ = false := blk_frozen H2.out 6
    have k27 : w3.cell? ⟨g2, 7, none⟩ = some (.slice (some ⟨g1, 0, none⟩) 1 1) := (blk_cell H2.out 7).trans rfl
    have k2f7 : w3.frozen? ⟨g2, 7, none⟩ = false := blk_frozen H2.out 7
    have ks0 : w3.cell? ⟨gs, 5, none⟩ = some (.int .i64 1) := ndV_get HRS.out 5 1 0 _ _ rfl rfl rfl
    have ksf0 : w3.frozen? ⟨gs, 5, none⟩ = false := blk_frozen HKS.out 5
    have ks1 : w3.cell? ⟨gs, 6, none⟩ = some (.int .i64 1) := ndV_get HRS.out 6 1 1 _ _ rfl rfl rfl
    have ksf1 : w3.frozen? ⟨gs, 6, none⟩ = false := blk_frozen HKS.out 6
    have ks2 : w3.cell? ⟨gs, 7, none⟩ = some (.int .i64 1) := ndV_get HRS.out 7 1 2 _ _ rfl rfl rfl
    have ksf2 : w3.frozen? ⟨gs, 7, none⟩ = false := blk_frozen HKS.out 7
    have ks3 : w3.cell? ⟨gs, 8, none⟩ = some (.int .i64 4) := ndV_get HRS.out 8 1 3 _ _ rfl rfl rfl
    have ksf3 : w3.frozen? ⟨gs, 8, none⟩ = false := blk_frozen HKS.out 8
    have ks4 : w3.cell? ⟨gs, 9, none⟩ = some (.int .i64 5) := ndV_get HRS.out 9 1 4 _ _ rfl rfl rfl
    have ksf4 : w3.frozen? ⟨gs, 9, none⟩ = false := blk_frozen HKS.out 9
    have hn := HN.out
    have hdd := HD.out
    have hw : wrap64 (t - 10) = t - 10 := by unfold wrap64; omega
    rcases hcs with rfl | rfl | rfl | rfl | rfl | rfl | rfl
    · go_wp2_with fail
      go_meet
      refine ⟨by first | rfl | exact congrArg (Value.int .i64) hd, ?_⟩
      exact GT.mk' 1 ([⟨1, 3⟩] : List S48) 0 (some ⟨g2, 0, none⟩) 2 2 ([⟨2, false, 1, [⟨1, false⟩]⟩, ⟨1, false, 4, [⟨1, false⟩]⟩] : List S51) (some ⟨gh, 0, none⟩) 4 ch ndH (some ⟨gs, 0, none⟩) 3 cs ndS none 0 0 [] (by simp) rfl rfl rfl rfl NB.out (gv_sites _ _ _ _ _ _ H2.out (Nat.le_refl _) (gv_backs H0.out [⟨1, false⟩] (by simp) rfl) (Nat.le_refl _) (gv_backs H1.out [⟨1, false⟩] (by simp) rfl)) (by decide) HRH.out HC.out.1 HRS.out HC.out.2 (Kd.C_nil _ _) (Nat.le_refl _) (gt0 t (by omega)) HB.out
    · go_wp2_with fail
      go_meet
      refine ⟨by first | rfl | exact congrArg (Value.int .i64) hd, ?_⟩
      exact GT.mk' 0 ([] : List S48) 0 (some ⟨g2, 0, none⟩) 2 2 ([⟨2, false, 1, [⟨1, false⟩]⟩, ⟨1, true, 4, [⟨1, false⟩]⟩] : List S51) (some ⟨gh, 0, none⟩) 4 ch ndH (some ⟨gs, 0, none⟩) 3 cs ndS none 0 0 [] (by simp) rfl rfl rfl rfl (blk_far NB.out (by simp only []; omega) _) (gv_sites _ _ _ _ _ _ (blk_put H2.out 5 _ rfl) (Nat.le_refl _) (gv_backs (blk_far H0.out (by simp only []; omega) _) [⟨1, false⟩] (by simp) rfl) (Nat.le_refl _) (gv_backs (blk_far H1.out (by simp only []; omega) _) [⟨1, false⟩] (by simp) rfl)) (by decide) (ndH_far HRH.out (by simp only []; omega) _) HC.out.1 (ndV_far HRS.out (by simp only []; omega) _) HC.out.2 (Kd.C_nil _ _) (Nat.le_refl _) (gt1 t (by omega)) (below_set HB.out (by omega))
    · go_wp2_with fail
      go_meet
      refine ⟨by first | rfl | exact congrArg (Value.int .i64) hd, ?_⟩
      exact GT.mk' 0 ([] : List S48) 0 (some ⟨g2, 0, none⟩) 2 2 ([⟨2, false, 1, [⟨1, false⟩]⟩, ⟨0, false, 4, [⟨1, false⟩]⟩] : List S51) (some ⟨gh, 0, none⟩) 4 ch ndH (some ⟨gs, 0, none⟩) 3 cs ndS none 0 0 [] (by simp) rfl rfl rfl rfl (blk_far NB.out (by simp only []; omega) _) (gv_sites _ _ _ _ _ _ (blk_put H2.out 4 _ rfl) (Nat.le_refl _) (gv_backs (blk_far H0.out (by simp only []; omega) _) [⟨1, false⟩] (by simp) rfl) (Nat.le_refl _) (gv_backs (blk_far H1.out (by simp only []; omega) _) [⟨1, false⟩] (by simp) rfl)) (by decide) (ndH_far HRH.out (by simp only []; omega) _) HC.out.1 (ndV_far HRS.out (by simp only []; omega) _) HC.out.2 (Kd.C_nil _ _) (Nat.le_refl _) (gt2 t (by omega)) (below_set HB.out (by omega))
    · go_wp2_with fail
      go_meet
      refine ⟨by first | rfl | exact congrArg (Value.int .i64) hd, ?_⟩
      exact GT.mk' 0 ([] : List S48) 0 (some ⟨g2, 0, none⟩) 2 2 ([⟨2, false, 1, [⟨1, false⟩]⟩, ⟨1, false, 4, [⟨1, false⟩]⟩] : List S51) (some ⟨gh, 0, none⟩) 4 ch ndH (some ⟨gs, 0, none⟩) 3 cs ([⟨⟨0, 0, 0, 0⟩, -1⟩, ⟨⟨1, 1, 4, 4⟩, 5⟩, ⟨⟨0, 0, 0, 0⟩, -1⟩] : List S55) none 0 0 [] (by simp) rfl rfl rfl rfl (blk_far NB.out (by simp only []; omega) _) (gv_sites _ _ _ _ _ _ (blk_far H2.out (by simp only []; omega) _) (Nat.le_refl _) (gv_backs (blk_far H0.out (by simp only []; omega) _) [⟨1, false⟩] (by simp) rfl) (Nat.le_refl _) (gv_backs (blk_far H1.out (by simp only []; omega) _) [⟨1, false⟩] (by simp) rfl)) (by decide) (ndH_far HRH.out (by simp only []; omega) _) HC.out.1 (ndV_set HRS.out 7 1 2 ⟨⟨1, 1, 1, 4⟩, 5⟩ ⟨⟨1, 1, 4, 4⟩, 5⟩ _ rfl rfl (by decide) rfl) HC.out.2 (Kd.C_nil _ _) (Nat.le_refl _) (gt3 t (by omega)) (below_set HB.out (by omega))
    · by_cases ht : t < 10
      · have ht2 : t - 10 < 0 := by omega
        go_wp2_with fail
        go_meet
        refine ⟨by first | rfl | exact congrArg (Value.int .i64) hd, ?_⟩
        exact GT.mk' 0 ([] : List S48) 0 (some ⟨g2, 0, none⟩) 2 2 ([⟨2, false, 1, [⟨1, false⟩]⟩, ⟨1, false, 4, [⟨1, false⟩]⟩] : List S51) (some ⟨gh, 0, none⟩) 4 ch ndH (some ⟨gs, 0, none⟩) 3 cs ndV none 0 0 [] (by simp) rfl rfl rfl rfl (blk_far (blk_far (blk_far (blk_far (blk_far (blk_far NB.out (by simp only []; omega) _) (by simp only []; omega) _) (by simp only []; omega) _) (by simp only []; omega) _) (by simp only []; omega) _) (by simp only []; omega) _) (gv_sites _ _ _ _ _ _ (blk_far (blk_far (blk_far (blk_far (blk_far (blk_far H2.out (by simp only []; omega) _) (by simp only []; omega) _) (by simp only []; omega) _) (by simp only []; omega) _) (by simp only []; omega) _) (by simp only []; omega) _) (Nat.le_refl _) (gv_backs (blk_far (blk_far (blk_far (blk_far (blk_far (blk_far H0.out (by simp only []; omega) _) (by simp only []; omega) _) (by simp only []; omega) _) (by simp only []; omega) _) (by simp only []; omega) _) (by simp only []; omega) _) [⟨1, false⟩] (by simp) rfl) (Nat.le_refl _) (gv_backs (blk_far (blk_far (blk_far (blk_far (blk_far (blk_far H1.out (by simp only []; omega) _) (by simp only []; omega) _) (by simp only []; omega) _) (by simp only []; omega) _) (by simp only []; omega) _) (by simp only []; omega) _) [⟨1, false⟩] (by simp) rfl)) (by decide) (ndH_far (ndH_far (ndH_far (ndH_far (ndH_far (ndH_far HRH.out (by simp only []; omega) _) (by simp only []; omega) _) (by simp only []; omega) _) (by simp only []; omega) _) (by simp only []; omega) _) (by simp only []; omega) _) HC.out.1 (ndV_set (ndV_set (ndV_set (ndV_set (ndV_set (ndV_set HRS.out 9 1 4 ⟨⟨1, 1, 1, 4⟩, 5⟩ ⟨⟨1, 1, 1, 4⟩, t - 10⟩ _ rfl rfl (by decide) rfl) 5 1 0 ⟨⟨1, 1, 1, 4⟩, t - 10⟩ ⟨⟨0, 1, 1, 4⟩, t - 10⟩ _ rfl rfl (by decide) rfl) 6 1 1 ⟨⟨0, 1, 1, 4⟩, t - 10⟩ ⟨⟨0, 0, 1, 4⟩, t - 10⟩ _ rfl rfl (by decide) rfl) 7 1 2 ⟨⟨0, 0, 1, 4⟩, t - 10⟩ ⟨⟨0, 0, 0, 4⟩, t - 10⟩ _ rfl rfl (by decide) rfl) 8 1 3 ⟨⟨0, 0, 0, 4⟩, t - 10⟩ ⟨⟨0, 0, 0, 0⟩, t - 10⟩ _ rfl rfl (by decide) rfl) 9 1 4 ⟨⟨0, 0, 0, 0⟩, t - 10⟩ ⟨⟨0, 0, 0, 0⟩, -1⟩ _ rfl rfl (by decide) rfl) HC.out.2 (Kd.C_nil _ _) (Nat.le_refl _) (gt4a t (by omega)) (below_set (below_set (below_set (below_set (below_set (below_set HB.out (by omega)) (by omega)) (by omega)) (by omega)) (by omega)) (by omega))
      · have ht2 : ¬ (t - 10 < 0) := by omega
        go_wp2_with fail
        go_meet
        refine ⟨by first | rfl | exact congrArg (Value.int .i64) hd, ?_⟩
        exact GT.mk' 0 ([] : List S48) 0 (some ⟨g2, 0, none⟩) 2 2 ([⟨2, false, 1, [⟨1, false⟩]⟩, ⟨1, false, 4, [⟨1, false⟩]⟩] : List S51) (some ⟨gh, 0, none⟩) 4 ch ndH (some ⟨gs, 0, none⟩) 3 cs ([⟨⟨0, 0, 0, 0⟩, -1⟩, ⟨⟨1, 1, 1, 4⟩, t - 10⟩, ⟨⟨0, 0, 0, 0⟩, -1⟩] : List S55) none 0 0 [] (by simp) rfl rfl rfl rfl (blk_far NB.out (by simp only []; omega) _) (gv_sites _ _ _ _ _ _ (blk_far H2.out (by simp only []; omega) _) (Nat.le_refl _) (gv_backs (blk_far H0.out (by simp only []; omega) _) [⟨1, false⟩] (by simp) rfl) (Nat.le_refl _) (gv_backs (blk_far H1.out (by simp only []; omega) _) [⟨1, false⟩] (by simp) rfl)) (by decide) (ndH_far HRH.out (by simp only []; omega) _) HC.out.1 (ndV_set HRS.out 9 1 4 ⟨⟨1, 1, 1, 4⟩, 5⟩ ⟨⟨1, 1, 1, 4⟩, t - 10⟩ _ rfl rfl (by decide) rfl) HC.out.2 (Kd.C_nil _ _) (Nat.le_refl _) (gt4b t (by omega)) (below_set HB.out (by omega))
    · go_wp2_with fail
      go_meet
      refine ⟨by first | rfl | exact congrArg (Value.int .i64) hd, ?_⟩
      exact GT.mk' 0 ([] : List S48) 0 (some ⟨g2, 0, none⟩) 1 2 ([⟨2, false, 1, [⟨1, false⟩]⟩] : List S51) (some ⟨gh, 0, none⟩) 4 ch ndH (some ⟨gs, 0, none⟩) 3 cs ndS none 0 0 [] (by simp) rfl rfl rfl rfl (blk_put NB.out 2 _ rfl) (Go.Proofs.Ytnocfhnandedoac.Hand.hk_head (n := 1) (m := 2) (xs := ([⟨2, false, 1, [⟨1, false⟩]⟩] : List S51)) (ys := [⟨1, false, 4, [⟨1, false⟩]⟩]) (show Kd.C k51 _ (some ⟨g2, 0, none⟩) 2 ([⟨2, false, 1, [⟨1, false⟩]⟩, ⟨1, false, 4, [⟨1, false⟩]⟩] : List S51) from (gv_sites _ _ _ _ _ _ (blk_far H2.out (by simp only []; omega) _) (Nat.le_refl _) (gv_backs (blk_far H0.out (by simp only []; omega) _) [⟨1, false⟩] (by simp) rfl) (Nat.le_refl _) (gv_backs (blk_far H1.out (by simp only []; omega) _) [⟨1, false⟩] (by simp) rfl))) rfl) (by decide) (ndH_far HRH.out (by simp only []; omega) _) HC.out.1 (ndV_far HRS.out (by simp only []; omega) _) HC.out.2 (Kd.C_nil _ _) (Nat.le_refl _) (gt5 t (by omega)) (below_set HB.out (by omega))
    · go_wp2_with fail
      go_meet
      refine ⟨by first | rfl | exact congrArg (Value.int .i64) hd, ?_⟩
      exact GT.mk' 0 ([] : List S48) 1 (some ⟨g2, 0, none⟩) 2 2 ([⟨2, false, 1, [⟨1, false⟩]⟩, ⟨1, false, 4, [⟨1, false⟩]⟩] : List S51) (some ⟨gh, 0, none⟩) 4 ch ndH (some ⟨gs, 0, none⟩) 3 cs ndS none 0 0 [] (by simp) rfl rfl rfl rfl (blk_put NB.out 0 _ rfl) (gv_sites _ _ _ _ _ _ (blk_far H2.out (by simp only []; omega) _) (Nat.le_refl _) (gv_backs (blk_far H0.out (by simp only []; omega) _) [⟨1, false⟩] (by simp) rfl) (Nat.le_refl _) (gv_backs (blk_far H1.out (by simp only []; omega) _) [⟨1, false⟩] (by simp) rfl)) (by decide) (ndH_far HRH.out (by simp only []; omega) _) HC.out.1 (ndV_far HRS.out (by simp only []; omega) _) HC.out.2 (Kd.C_nil _ _) (Nat.le_refl _) (gt6 t (by omega)) (below_set HB.out (by omega))
  case rest =>
    obtain ⟨rfl, wn, rl, a9, A2, n2, c2, l2, A3, n3, c3, l3, A4, n4, c4, l4, A5, n5, c5, l5, rfl, HW, rfl, rfl, rfl, rfl, HNB, R2, Q2, R3, Q3, R4, Q4, R5, Q5, HF, HB2⟩ := hcut
    clear HB H0 H1 H2 HKH HKS HRH HRS NB hp HP HN HC hd
    have x0 : wc.cell? ⟨b, 0, none⟩ = some (.int .i64 a9) := (blk_cell HNB.out 0).trans rfl
    have x1 : wc.cell? ⟨b, 1, none⟩ = some (.int .i64 3) := (blk_cell HNB.out 1).trans rfl
    have x2 : wc.cell? ⟨b, 2, none⟩ = some (.slice A2 l2.length c2) := (blk_cell HNB.out 2).trans rfl
    have x3 : wc.cell? ⟨b, 3, none⟩ = some (.slice A3 l3.length c3) := (blk_cell HNB.out 3).trans rfl
    have x4 : wc.cell? ⟨b, 4, none⟩ = some (.slice A4 l4.length c4) := (blk_cell HNB.out 4).trans rfl
    have x5 : wc.cell? ⟨b, 5, none⟩ = some (.slice A5 l5.length c5) := (blk_cell HNB.out 5).trans rfl
    have x6 : wc.cell? ⟨b, 6, none⟩ = some (.int .i64 0) := (blk_cell HNB.out 6).trans rfl
    have hwv := HW.out
    rcases hwv with ⟨rfl, rfl⟩ | ⟨rfl, rfl⟩
    · go_wp2_with (first
        | (go_at_call 11; (with_reducible refine calls_of_args (args' := #[Value.agg #[Value.int IntKind.i64 a9, Value.int IntKind.i64 3, Value.slice A2 l2.length c2, Value.slice A3 l3.length c3, Value.slice A4 l4.length c4, Value.slice A5 l5.length c5, Value.int IntKind.i64 0], Value.int IntKind.i64 t]) rfl ?_); refine (spare_Targets.calls 60 a9 3 A2 c2 l2 A3 c3 l3 A4 c4 l4 A5 c5 l5 0 t _ 0 _ R2.out Q2.out R3.out Q3.out R4.out Q4.out R5.out Q5.out HF.out).mono ?_; rintro e w6 ⟨v8, rfl, ho, hb⟩; obtain ⟨A8, n8, rfl⟩ := Kd.R_slice ho; replace HB2 := Aside0.mk (below_step HB2.out hb); clear hb ho)
        | (go_at_call 13; refine (wharfagelaw0_Num.calls _ _ _ rfl).mono ?_; rintro e wn ⟨rfl, hn⟩; replace HB2 := Aside0.mk (below_step HB2.out (Go.Proofs.Ytnocfhnandedoac.Hand.hk_drawn hn)); clear hn))
      go_ret
      exact ⟨ret_bool rfl, HB2.out⟩
    · go_wp2_with (first
        | (go_at_call 11; (with_reducible refine calls_of_args (args' := #[Value.agg #[Value.int IntKind.i64 a9, Value.int IntKind.i64 3, Value.slice A2 l2.length c2, Value.slice A3 l3.length c3, Value.slice A4 l4.length c4, Value.slice A5 l5.length c5, Value.int IntKind.i64 0], Value.int IntKind.i64 t]) rfl ?_); refine (spare_Targets.calls 60 a9 3 A2 c2 l2 A3 c3 l3 A4 c4 l4 A5 c5 l5 0 t _ 0 _ R2.out Q2.out R3.out Q3.out R4.out Q4.out R5.out Q5.out HF.out).mono ?_; rintro e w6 ⟨v8, rfl, ho, hb⟩; obtain ⟨gc, n8, curc, e8, g8, h8, q8, r8⟩ := nd_own ho (by decide); replace e8 : v8 = .slice (some ⟨gc, 0, none⟩) 1 n8 := e8; subst e8; have xa : w6.cell? ⟨gc, 0, none⟩ = some (.int .i64 1) := ndC_get r8 0 0 0 _ _ rfl rfl rfl; have xb : w6.cell? ⟨gc, 1, none⟩ = some (.int .i64 3) := ndC_get r8 1 0 1 _ _ rfl rfl rfl; clear g8 h8 q8 r8; replace HB2 := Aside0.mk (below_step HB2.out hb); clear hb ho)
        | (go_at_call 13; refine (wharfagelaw0_Num.calls _ _ _ rfl).mono ?_; rintro e wn ⟨rfl, hn⟩; have hbn := Go.Proofs.Ytnocfhnandedoac.Hand.hk_drawn hn; replace xa := pw_cell_below hbn xa; replace xb := pw_cell_below hbn xb; replace HB2 := Aside0.mk (below_step HB2.out (Go.Proofs.Ytnocfhnandedoac.Hand.hk_drawn hn)); clear hn))
      go_ret
      exact ⟨ret_bool rfl, HB2.out⟩


end Go.Proofs.Ytnocfhnandedoac.PSpareTargets
