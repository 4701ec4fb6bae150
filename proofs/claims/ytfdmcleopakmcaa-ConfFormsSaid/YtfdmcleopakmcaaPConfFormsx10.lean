/- Contracts: what calls of these functions of the program do, each as a plain function; written by a program of this session. -/
import Derived.Test.YtfdmcleopakmcaaPConfFormsx0
import Derived.Test.YtfdmcleopakmcaaPConfFormsx2
import Derived.Test.YtfdmcleopakmcaaPConfFormsx3
import Derived.Test.YtfdmcleopakmcaaPConfFormsx5
import Derived.Test.YtfdmcleopakmcaaPConfFormsx6
import Derived.Test.YtfdmcleopakmcaaPConfFormsx9
namespace Go.Proofs.Ytfdmcleopakmcaa.PConfForms
open Go.RowKit Go.Proofs.YtfdmcleopakmcaaW.PrintWords Go.Proofs.YtfdmcleopakmcaaW.PrintLast Go.Proofs.YtfdmcleopakmcaaW.PrintMore
attribute [local go_sem] max2_int min2_int max_two min_two max_three min_three max_four min_four   -- for this text's walks alone
set_option linter.unusedVariables false
set_option linter.unusedSimpArgs false

/-! ### wharfagelaw10_ConfForms: function 4, by hand -/
def wharfagelaw10_ConfForms.f (a0 a1 : Int) : Option Bool := some true
theorem gv_size (w : World) (o : Obj) : (w.alloc o).heap.size = w.heap.size + 1 := by simp
set_option maxHeartbeats 8000000 in
set_option maxRecDepth 100000 in
theorem gv_cells (w : World) : Calls Try.prog 16 #[] w fun e w' => ∃ g0 g1 g2 : Nat, e = .returned (.agg #[.int .i64 3, .slice (some ⟨g2, 0, none⟩) 2 2]) ∧ (w.heap.size ≤ g0 ∧ g0 < g1 ∧ g1 < g2 ∧ g2 < w'.heap.size) ∧ w'.heap[g0]? = some (.cells #[.int .i64 1, .bool false, .int .i64 3, .bool false] 44 (0, 0)) ∧ w'.heap[g1]? = some (.cells #[.int .i64 1, .bool false] 44 (0, 0)) ∧ w'.heap[g2]? = some (.cells #[.int .i64 2, .bool false, .int .i64 2, .slice (some ⟨g0, 0, none⟩) 2 2, .int .i64 1, .bool false, .int .i64 4, .slice (some ⟨g1, 0, none⟩) 1 1] 42 (0, 0)) ∧ Below w.heap.size w w' := by
  go_enter Try.func16, Try.ntmps16
  go_wp2_with fail
  refine bodyPost_ret (results_cell_row rfl _ _ w.heap.size 24 #[.int .i64 3, .slice (some ⟨w.heap.size + 1 + 1 + 1, 0, none⟩) 2 2] (0, 0) _ rfl (blk_alloc (blk_alloc (blk_alloc (blk_new _ _) _) _) _) Try.underlying24 rfl (by kernel_rfl)) rfl ?_
  obtain ⟨w1, h1⟩ : ∃ x_, x_ = w.alloc (.cells #[.int .i64 3, .slice (some ⟨w.heap.size + 1 + 1 + 1, 0, none⟩) 2 2] 24 (0, 0)) := ⟨_, rfl⟩
  rw [← h1]
  have s1 : w1.heap.size = w.heap.size + 1 := by rw [h1]; exact gv_size _ _
  have hb1 : Below w.heap.size w w1 := h1 ▸ below_alloc (Below.refl _ _) _
  clear h1
  obtain ⟨w2, h2⟩ : ∃ x_, x_ = w1.alloc (.cells #[.int .i64 1, .bool false, .int .i64 3, .bool false] 44 (0, 0)) := ⟨_, rfl⟩
  rw [← h2]
  have s2 : w2.heap.size = w1.heap.size + 1 := by rw [h2]; exact gv_size _ _
  have hb2 : Below w1.heap.size w1 w2 := h2 ▸ below_alloc (Below.refl _ _) _
  have H0 : w2.heap[w.heap.size + 1]? = some (.cells #[.int .i64 1, .bool false, .int .i64 3, .bool false] 44 (0, 0)) := by rw [← s1, h2]; exact blk_new _ _
  clear h2
  obtain ⟨w3, h3⟩ : ∃ x_, x_ = w2.alloc (.cells #[.int .i64 1, .bool false] 44 (0, 0)) := ⟨_, rfl⟩
  rw [← h3]
  have s3 : w3.heap.size = w2.heap.size + 1 := by rw [h3]; exact gv_size _ _
  have hb3 : Below w2.heap.size w2 w3 := h3 ▸ below_alloc (Below.refl _ _) _
  have H1 : w3.heap[w.heap.size + 1 + 1]? = some (.cells #[.int .i64 1, .bool false] 44 (0, 0)) := by rw [← s1, ← s2, h3]; exact blk_new _ _
  clear h3
  refine ⟨w.heap.size + 1, w.heap.size + 1 + 1, w.heap.size + 1 + 1 + 1, rfl, ⟨by omega, by omega, by omega, by rw [gv_size]; omega⟩, blk_alloc (blk_below H0 hb3) _, blk_alloc H1 _, ?_, below_alloc (below_step (below_step hb1 hb2) hb3) _⟩
  rw [← s1, ← s2, ← s3]
  exact blk_new _ _
theorem gv_flat {α : Type} {d : Kd α} {w : World} {g : Nat} {cs : Array Value} {t : TypeId} {fz : Nat × Nat} (h : w.heap[g]? = some (.cells cs t fz)) (enc : α → List Value) (hsz : ∀ x, (enc x).length = d.sz) (hK : ∀ x, d.K w x (enc x)) (xs : List α) (hl : xs.length ≤ 9223372036854775807) (hcs : cs.toList = xs.flatMap enc) : Kd.C d w (some ⟨g, 0, none⟩) xs.length xs :=
  Go.Proofs.Ytfdmcleopakmcaa.Hand.hk_cells enc hsz hK _ xs hl (fun k u hu => by
    rw [Go.Proofs.Ytfdmcleopakmcaa.Hand.hk_add0, Nat.zero_add, World.cell?, h]
    rw [← hcs] at hu
    simpa using hu)
theorem gv_backs {w : World} {g : Nat} {cs : Array Value} {t : TypeId} {fz : Nat × Nat} (h : w.heap[g]? = some (.cells cs t fz)) (xs : List S44) (hl : xs.length ≤ 9223372036854775807) (hcs : cs.toList = xs.flatMap (fun x => [.int .i64 x.f0, .bool x.f1])) : Kd.C k44 w (some ⟨g, 0, none⟩) xs.length xs :=
  gv_flat h (fun x => [.int .i64 x.f0, .bool x.f1]) (fun _ => rfl) (fun x => k44_mk w x) xs hl hcs
/-- Two sites, read from their block. -/
theorem gv_sites {w : World} {g : Nat} {t : TypeId} {fz : Nat × Nat} (x y : S42) (A B : Option Addr) (a b : Nat) (h : w.heap[g]? = some (.cells #[.int .i64 x.f0, .bool x.f1, .int .i64 x.f2, .slice A x.f3.length a, .int .i64 y.f0, .bool y.f1, .int .i64 y.f2, .slice B y.f3.length b] t fz)) (ha : x.f3.length ≤ a) (hA : Kd.C k44 w A x.f3.length x.f3) (hb : y.f3.length ≤ b) (hB : Kd.C k44 w B y.f3.length y.f3) : Kd.C k42 w (some ⟨g, 0, none⟩) [x, y].length [x, y] := by
  refine ⟨rfl, by simp, fun _ => ⟨_, rfl, fun j p hj => ?_⟩⟩
  match j, hj with
  | 0, hj =>
    obtain rfl : x = p := by simpa using hj
    refine ⟨_, rfl, k42_mk w x ha hA, fun i u hu => ?_⟩
    rw [Go.Proofs.Ytfdmcleopakmcaa.Hand.hk_add0, World.cell?, h]
    match i, hu with
    | 0, hu => exact hu
    | 1, hu => exact hu
    | 2, hu => exact hu
    | 3, hu => exact hu
    | i + 4, hu => simp at hu
  | 1, hj =>
    obtain rfl : y = p := by simpa using hj
    refine ⟨_, rfl, k42_mk w y hb hB, fun i u hu => ?_⟩
    rw [Go.Proofs.Ytfdmcleopakmcaa.Hand.hk_add0, World.cell?, h]
    match i, hu with
    | 0, hu => exact hu
    | 1, hu => exact hu
    | 2, hu => exact hu
    | 3, hu => exact hu
    | i + 4, hu => simp at hu
  | j + 2, hj => simp at hj
theorem cf_may_f (v : Int) (l : List S42) : conf_May.f v l = some (mayB v l) := rfl
theorem cf_bad (v0 v1 : Int) (l0 l1 : List S42) (h : ¬ (mayB v0 l0 = true ∧ mayB v1 l1 = true)) (k : Nat) (hk : 0 < k) : conf_Next.f k v0 l0 v1 l1 = some (0, [], false, 1000) := by
  obtain ⟨k, rfl⟩ : ∃ m, k = m + 1 := ⟨k - 1, by omega⟩
  unfold conf_Next.f
  rw [cf_may_f, cf_may_f]
  cases h0 : mayB v0 l0 with
  | false => simp [conf_Next.j0]
  | true =>
    cases h1 : mayB v1 l1 with
    | false => simp [conf_Next.j0]
    | true => exact absurd ⟨h0, h1⟩ h
theorem cf_b0 (d : Int) (hd : 1 ≤ d ∧ d ≤ 1024) : mayB (-d) ([⟨2, false, 2, [⟨1, false⟩, ⟨3, false⟩]⟩, ⟨1, false, 4, [⟨1, false⟩]⟩] : List S42) = false := by
  have h1 := hd.1
  have h2 := hd.2
  simp [mayB, siteOk, backOk] <;> omega
theorem cf_b1 (d : Int) (hd : 1 ≤ d ∧ d ≤ 1024) : mayB (1048576 + d) ([⟨2, false, 2, [⟨1, false⟩, ⟨3, false⟩]⟩, ⟨1, false, 4, [⟨1, false⟩]⟩] : List S42) = false := by
  have h1 := hd.1
  have h2 := hd.2
  simp [mayB, siteOk, backOk] <;> omega
theorem cf_b2 (d : Int) (hd : 1 ≤ d ∧ d ≤ 1024) : mayB 3 ([⟨0, false, 0, []⟩, ⟨0, false, 0, []⟩, ⟨0, false, 0, []⟩, ⟨0, false, 0, []⟩] : List S42) = false := by
  have h1 := hd.1
  have h2 := hd.2
  simp [mayB, siteOk, backOk]
theorem cf_b3 (d : Int) (hd : 1 ≤ d ∧ d ≤ 1024) : mayB 3 ([⟨-d, false, 2, [⟨1, false⟩, ⟨3, false⟩]⟩, ⟨1, false, 4, [⟨1, false⟩]⟩] : List S42) = false := by
  have h1 := hd.1
  have h2 := hd.2
  simp [mayB, siteOk, backOk] <;> omega
theorem cf_b4 (d : Int) (hd : 1 ≤ d ∧ d ≤ 1024) : mayB 3 ([⟨2, false, 2, [⟨1, false⟩, ⟨3, false⟩]⟩, ⟨16 + d, false, 4, [⟨1, false⟩]⟩] : List S42) = false := by
  have h1 := hd.1
  have h2 := hd.2
  simp [mayB, siteOk, backOk] <;> omega
theorem cf_b5 (d : Int) (hd : 1 ≤ d ∧ d ≤ 1024) : mayB 3 ([⟨2, false, -d, [⟨1, false⟩, ⟨3, false⟩]⟩, ⟨1, false, 4, [⟨1, false⟩]⟩] : List S42) = false := by
  have h1 := hd.1
  have h2 := hd.2
  simp [mayB, siteOk, backOk] <;> omega
theorem cf_b6 (d : Int) (hd : 1 ≤ d ∧ d ≤ 1024) : mayB 3 ([⟨2, false, 2, [⟨1, false⟩, ⟨3, false⟩]⟩, ⟨1, false, 8 + d, [⟨1, false⟩]⟩] : List S42) = false := by
  have h1 := hd.1
  have h2 := hd.2
  simp [mayB, siteOk, backOk] <;> omega
theorem cf_b7 (d : Int) (hd : 1 ≤ d ∧ d ≤ 1024) : mayB 3 ([⟨2, false, 2, [⟨0, false⟩, ⟨0, false⟩, ⟨0, false⟩, ⟨0, false⟩, ⟨0, false⟩]⟩, ⟨1, false, 4, [⟨1, false⟩]⟩] : List S42) = false := by
  have h1 := hd.1
  have h2 := hd.2
  simp [mayB, siteOk, backOk]
theorem cf_b8 (d : Int) (hd : 1 ≤ d ∧ d ≤ 1024) : mayB 3 ([⟨2, false, 2, [⟨1, false⟩, ⟨-d, false⟩]⟩, ⟨1, false, 4, [⟨1, false⟩]⟩] : List S42) = false := by
  have h1 := hd.1
  have h2 := hd.2
  simp [mayB, siteOk, backOk] <;> omega
theorem cf_b9 (d : Int) (hd : 1 ≤ d ∧ d ≤ 1024) : mayB 3 ([⟨2, false, 2, [⟨1, false⟩, ⟨3, false⟩]⟩, ⟨1, false, 4, [⟨16 + d, false⟩]⟩] : List S42) = false := by
  have h1 := hd.1
  have h2 := hd.2
  simp [mayB, siteOk, backOk] <;> omega
theorem cf_has (v : Int) (l : List S42) (i j : Int) (h : mayB v l = false) : conf_Has.f v l i j = some false := by
  unfold conf_Has.f
  rw [h]; rfl
theorem gv_zero4 {w : World} {g : Nat} {t : TypeId} {fz : Nat × Nat} (h : w.heap[g]? = some (.cells #[.int .i64 0, .bool false, .int .i64 0, .slice none 0 0, .int .i64 0, .bool false, .int .i64 0, .slice none 0 0, .int .i64 0, .bool false, .int .i64 0, .slice none 0 0, .int .i64 0, .bool false, .int .i64 0, .slice none 0 0] t fz)) : Kd.C k42 w (some ⟨g, 0, none⟩) 4 ([⟨0, false, 0, []⟩, ⟨0, false, 0, []⟩, ⟨0, false, 0, []⟩, ⟨0, false, 0, []⟩] : List S42) := by
  refine ⟨rfl, by simp, fun _ => ⟨_, rfl, fun j p hj => ?_⟩⟩
  have hz : p = ⟨0, false, 0, []⟩ ∧ j < 4 := by
    match j, hj with
    | 0, hj => exact ⟨by simpa using hj.symm, by omega⟩
    | 1, hj => exact ⟨by simpa using hj.symm, by omega⟩
    | 2, hj => exact ⟨by simpa using hj.symm, by omega⟩
    | 3, hj => exact ⟨by simpa using hj.symm, by omega⟩
    | j + 4, hj => simp at hj
  obtain ⟨rfl, hj4⟩ := hz
  refine ⟨_, rfl, k42_mk w (⟨0, false, 0, []⟩ : S42) (A3 := none) (c3 := 0) (Nat.le_refl _) (Kd.C_nil _ _), fun i u hu => ?_⟩
  rw [Go.Proofs.Ytfdmcleopakmcaa.Hand.hk_add0, World.cell?, h]
  have hj5 : j = 0 ∨ j = 1 ∨ j = 2 ∨ j = 3 := by omega
  match i, hu with
  | 0, hu => rcases hj5 with rfl | rfl | rfl | rfl <;> exact hu
  | 1, hu => rcases hj5 with rfl | rfl | rfl | rfl <;> exact hu
  | 2, hu => rcases hj5 with rfl | rfl | rfl | rfl <;> exact hu
  | 3, hu => rcases hj5 with rfl | rfl | rfl | rfl <;> exact hu
  | i + 4, hu => simp at hu
/-- What the switch leaves: a configuration that may not be, in the block of c. -/
def Bad (w0 : World) (b : Nat) (w : World) : Prop := ∃ (v : Int) (l : List S42) (g n : Nat), Aside0 (mayB v l = false) ∧ Aside0 (l.length = n) ∧ Aside0 (w.heap[b]? = some (.cells #[.int .i64 v, .slice (some ⟨g, 0, none⟩) n n] 24 (0, 0))) ∧ Aside0 (Kd.C k42 w (some ⟨g, 0, none⟩) n l) ∧ Aside0 (Below w0.heap.size w0 w)
theorem Bad.mk' {w0 : World} {b : Nat} {w : World} (v : Int) (l : List S42) (g n : Nat) (h1 : mayB v l = false) (h2 : l.length = n) (h3 : w.heap[b]? = some (.cells #[.int .i64 v, .slice (some ⟨g, 0, none⟩) n n] 24 (0, 0))) (h4 : Kd.C k42 w (some ⟨g, 0, none⟩) n l) (h5 : Below w0.heap.size w0 w) : Bad w0 b w := ⟨v, l, g, n, ⟨h1⟩, ⟨h2⟩, ⟨h3⟩, ⟨h4⟩, ⟨h5⟩⟩
theorem wharfagelaw10_ConfForms.hide {P : Program} {c : Code} {Q : Exit → Act → World → Prop} {a : Act} {w : World} (R : World → Prop) (h : R w) (k : ∀ w', R w' → c.wp P Q a w') : c.wp P Q a w := k w h
open Go.Proofs.Ytfdmcleopakmcaa.NumMath (and1023 wrap_u64_mod wrap64_in) in
set_option maxHeartbeats 8000000 in
set_option maxRecDepth 100000 in
theorem wharfagelaw10_ConfForms.calls (a0 a1 : Int) (r : Bool) (w : World) (h : wharfagelaw10_ConfForms.f a0 a1 = some r) :
    Calls Try.prog 4 #[.int .i64 a0, .int .i64 a1] w fun e w' => e = .returned (.bool r) ∧ Below w.heap.size w w' := by
  obtain rfl := Option.some.inj h
  clear h
  have hu := Try.underlying42
  have hu2 := Try.underlying24
  have hu3 := Try.underlying44
  obtain ⟨d, hd, HD⟩ : ∃ d : Int, wrap64 (1 + bits .and .i64 a1 1023) = d ∧ Aside0 (1 ≤ d ∧ d ≤ 1024) := by
    rw [and1023, wrap64_in _ (by omega) (by omega)]
    exact ⟨1 + a1 % 1024, rfl, ⟨by omega⟩⟩
  obtain ⟨p, hp, HP⟩ : ∃ p : Int, (IntKind.u64.wrap a0).tmod 10 = p ∧ Aside0 (0 ≤ p ∧ p < 10) := by
    rw [wrap_u64_mod]
    exact ⟨_, rfl, ⟨by rw [Int.tmod_eq_emod_of_nonneg (by omega)]; omega⟩⟩
  have HB := Aside0.mk (Below.refl w.heap.size w)
  have F0 := Aside0.mk trivial
  go_enter Try.func4, Try.ntmps4
  go_upto_block 0 with (first | (go_at_call 15; refine (wharfagelaw10_awake.calls true _ rfl).mono ?_; rintro e w1 ⟨rfl, hb⟩; replace HB := Aside0.mk (below_step HB.out hb); clear hb) | (go_at_call 16; clear F0; refine (gv_cells _).mono ?_; rintro e w2 ⟨g0, g1, g2, rfl, hg, h0, h1, h2, hb⟩; have HG := Aside0.mk hg; have H0 := Aside0.mk h0; have H1 := Aside0.mk h1; have H2 := Aside0.mk h2; have HW := Aside0.mk (HB.out.size); replace HB := Aside0.mk (below_step HB.out hb); have HW2 := Aside0.mk (Nat.le_trans HW.out hg.1); clear hb hg h0 h1 h2 HW))
  refine wharfagelaw10_ConfForms.hide (fun W => Below w2.heap.size w2 W ∧ W.heap[w2.heap.size]? = some (.cells #[.int .i64 3, .slice (some ⟨g2, 0, none⟩) 2 2] 24 (0, 0))) ⟨below_alloc (Below.refl _ _) _, blk_new _ _⟩ ?_
  intro w3 ⟨hb, hz⟩
  replace H0 := Aside0.mk (blk_below H0.out hb)
  replace H1 := Aside0.mk (blk_below H1.out hb)
  replace H2 := Aside0.mk (blk_below H2.out hb)
  have HC := Aside0.mk hz
  replace HB := Aside0.mk (below_step HB.out hb)
  have HS := Aside0.mk (show w2.heap.size < w3.heap.size from blk_lt hz)
  obtain ⟨b, hbk⟩ : ∃ b, b = w2.heap.size := ⟨_, rfl⟩
  rw [← hbk] at HC HS ⊢
  have HG2 := Aside0.mk (show g0 < g1 ∧ g1 < g2 ∧ g2 < b ∧ w.heap.size ≤ g0 from hbk ▸ ⟨HG.out.2.1, HG.out.2.2.1, HG.out.2.2.2, HW2.out⟩)
  clear hb hz hbk HG HW2
  go_cut [5] (fun s5 wx => s5 = .int .i64 d ∧ Bad w b wx)
  case first =>
    clear hd hp
    have hcs : p = 0 ∨ p = 1 ∨ p = 2 ∨ p = 3 ∨ p = 4 ∨ p = 5 ∨ p = 6 ∨ p = 7 ∨ p = 8 ∨ p = 9 := by have := HP.out; omega
    have c0 : w3.cell? ⟨b, 0, none⟩ = some (.int .i64 3) := (blk_cell HC.out 0).trans rfl
    have c1 : w3.cell? ⟨b, 1, none⟩ = some (.slice (some ⟨g2, 0, none⟩) 2 2) := (blk_cell HC.out 1).trans rfl
    have e0 : w3.frozen? ⟨b, 0, none⟩ = false := blk_frozen HC.out 0
    have e1 : w3.frozen? ⟨b, 1, none⟩ = false := blk_frozen HC.out 1
    have y0 : w3.cell? ⟨g2, 0, none⟩ = some (.int .i64 2) := (blk_cell H2.out 0).trans rfl
    have z0 : w3.frozen? ⟨g2, 0, none⟩ = false := blk_frozen H2.out 0
    have y1 : w3.cell? ⟨g2, 1, none⟩ = some (.bool false) := (blk_cell H2.out 1).trans rfl
    have z1 : w3.frozen? ⟨g2, 1, none⟩ = false := blk_frozen H2.out 1
    have y2 : w3.cell? ⟨g2, 2, none⟩ = some (.int .i64 2) := (blk_cell H2.out 2).trans rfl
    have z2 : w3.frozen? ⟨g2, 2, none⟩ = false := blk_frozen H2.out 2
    have y3 : w3.cell? ⟨g2, 3, none⟩ = some (.slice (some ⟨g0, 0, none⟩) 2 2) := (blk_cell H2.out 3).trans rfl
    have z3 : w3.frozen? ⟨g2, 3, none⟩ = false := blk_frozen H2.out 3
    have y4 : w3.cell? ⟨g2, 4, none⟩ = some (.int .i64 1) := (blk_cell H2.out 4).trans rfl
    have z4 : w3.frozen? ⟨g2, 4, none⟩ = false := blk_frozen H2.out 4
    have y5 : w3.cell? ⟨g2, 5, none⟩ = some (.bool false) := (blk_cell H2.out 5).trans rfl
    have z5 : w3.frozen? ⟨g2, 5, none⟩ = false := blk_frozen H2.out 5
    have y6 : w3.cell? ⟨g2, 6, none⟩ = some (.int .i64 4) := (blk_cell H2.out 6).trans rfl
    have z6 : w3.frozen? ⟨g2, 6, none⟩ = false := blk_frozen H2.out 6
    have y7 : w3.cell? ⟨g2, 7, none⟩ = some (.slice (some ⟨g1, 0, none⟩) 1 1) := (blk_cell H2.out 7).trans rfl
    have z7 : w3.frozen? ⟨g2, 7, none⟩ = false := blk_frozen H2.out 7
    have q2 : w3.cell? ⟨g0, 2, none⟩ = some (.int .i64 3) := (blk_cell H0.out 2).trans rfl
    have r2 : w3.frozen? ⟨g0, 2, none⟩ = false := blk_frozen H0.out 2
    have q0 : w3.cell? ⟨g1, 0, none⟩ = some (.int .i64 1) := (blk_cell H1.out 0).trans rfl
    have r0 : w3.frozen? ⟨g1, 0, none⟩ = false := blk_frozen H1.out 0
    rcases hcs with rfl | rfl | rfl | rfl | rfl | rfl | rfl | rfl | rfl | rfl
    · have hw : wrap64 (-d) = (-d) := by have := HD.out; unfold wrap64; omega
      go_wp2_with fail
      have hg := HG2.out
      go_meet
      refine ⟨rfl, ?_⟩
      exact Bad.mk' (-d) ([⟨2, false, 2, [⟨1, false⟩, ⟨3, false⟩]⟩, ⟨1, false, 4, [⟨1, false⟩]⟩] : List S42) g2 2 (cf_b0 d HD.out) rfl (blk_put HC.out 0 _ rfl) (gv_sites _ _ _ _ _ _ (blk_far H2.out (by simp only []; omega) _) (Nat.le_refl _) (gv_backs (blk_far H0.out (by simp only []; omega) _) [⟨1, false⟩, ⟨3, false⟩] (by simp) rfl) (Nat.le_refl _) (gv_backs (blk_far H1.out (by simp only []; omega) _) [⟨1, false⟩] (by simp) rfl)) (below_set HB.out (by omega))
    · have hw : wrap64 (1048576 + d) = (1048576 + d) := by have := HD.out; unfold wrap64; omega
      go_wp2_with fail
      have hg := HG2.out
      go_meet
      refine ⟨rfl, ?_⟩
      exact Bad.mk' (1048576 + d) ([⟨2, false, 2, [⟨1, false⟩, ⟨3, false⟩]⟩, ⟨1, false, 4, [⟨1, false⟩]⟩] : List S42) g2 2 (cf_b1 d HD.out) rfl (blk_put HC.out 0 _ rfl) (gv_sites _ _ _ _ _ _ (blk_far H2.out (by simp only []; omega) _) (Nat.le_refl _) (gv_backs (blk_far H0.out (by simp only []; omega) _) [⟨1, false⟩, ⟨3, false⟩] (by simp) rfl) (Nat.le_refl _) (gv_backs (blk_far H1.out (by simp only []; omega) _) [⟨1, false⟩] (by simp) rfl)) (below_set HB.out (by omega))
    · go_wp2_with ((with_reducible refine gate_dst (N := 43) rfl ?_); refine Kd.event_run (w1 := w3.alloc (.cells #[.int .i64 0, .bool false, .int .i64 0, .slice none 0 0, .int .i64 0, .bool false, .int .i64 0, .slice none 0 0, .int .i64 0, .bool false, .int .i64 0, .slice none 0 0, .int .i64 0, .bool false, .int .i64 0, .slice none 0 0] 42)) (v := .slice (some ⟨w3.heap.size, 0, none⟩) 4 4) rfl (by go_simp; kernel_rfl) ?_; obtain ⟨w3b, hW⟩ : ∃ x_, x_ = w3.alloc (.cells #[.int .i64 0, .bool false, .int .i64 0, .slice none 0 0, .int .i64 0, .bool false, .int .i64 0, .slice none 0 0, .int .i64 0, .bool false, .int .i64 0, .slice none 0 0, .int .i64 0, .bool false, .int .i64 0, .slice none 0 0] 42) := ⟨_, rfl⟩; rw [← hW]; have hb : Below w3.heap.size w3 w3b := hW ▸ below_alloc (Below.refl _ _) _; have HZ := Aside0.mk (show w3b.heap[w3.heap.size]? = some (.cells #[.int .i64 0, .bool false, .int .i64 0, .slice none 0 0, .int .i64 0, .bool false, .int .i64 0, .slice none 0 0, .int .i64 0, .bool false, .int .i64 0, .slice none 0 0, .int .i64 0, .bool false, .int .i64 0, .slice none 0 0] 42 (0, 0)) from hW ▸ blk_new _ _); clear hW; replace HC := Aside0.mk (blk_below HC.out hb); replace c0 := pw_cell_below hb c0; replace c1 := pw_cell_below hb c1; replace e1 : w3b.frozen? ⟨b, 1, none⟩ = false := blk_frozen HC.out 1; replace HB := Aside0.mk (below_step HB.out hb); clear hb)
      have hg := HG2.out
      have hs := HS.out
      go_meet
      refine ⟨rfl, ?_⟩
      exact Bad.mk' 3 ([⟨0, false, 0, []⟩, ⟨0, false, 0, []⟩, ⟨0, false, 0, []⟩, ⟨0, false, 0, []⟩] : List S42) w3.heap.size 4 (cf_b2 d HD.out) rfl (blk_put HC.out 1 _ rfl) (gv_zero4 (blk_far HZ.out (by simp only []; omega) _)) (below_set HB.out (by omega))
    · have hw : wrap64 (-d) = (-d) := by have := HD.out; unfold wrap64; omega
      go_wp2_with fail
      have hg := HG2.out
      go_meet
      refine ⟨rfl, ?_⟩
      exact Bad.mk' 3 ([⟨-d, false, 2, [⟨1, false⟩, ⟨3, false⟩]⟩, ⟨1, false, 4, [⟨1, false⟩]⟩] : List S42) g2 2 (cf_b3 d HD.out) rfl (blk_far HC.out (by simp only []; omega) _) (gv_sites _ _ _ _ _ _ (blk_put H2.out 0 _ rfl) (Nat.le_refl _) (gv_backs (blk_far H0.out (by simp only []; omega) _) [⟨1, false⟩, ⟨3, false⟩] (by simp) rfl) (Nat.le_refl _) (gv_backs (blk_far H1.out (by simp only []; omega) _) [⟨1, false⟩] (by simp) rfl)) (below_set HB.out (by omega))
    · have hw : wrap64 (16 + d) = (16 + d) := by have := HD.out; unfold wrap64; omega
      go_wp2_with fail
      have hg := HG2.out
      go_meet
      refine ⟨rfl, ?_⟩
      exact Bad.mk' 3 ([⟨2, false, 2, [⟨1, false⟩, ⟨3, false⟩]⟩, ⟨16 + d, false, 4, [⟨1, false⟩]⟩] : List S42) g2 2 (cf_b4 d HD.out) rfl (blk_far HC.out (by simp only []; omega) _) (gv_sites _ _ _ _ _ _ (blk_put H2.out 4 _ rfl) (Nat.le_refl _) (gv_backs (blk_far H0.out (by simp only []; omega) _) [⟨1, false⟩, ⟨3, false⟩] (by simp) rfl) (Nat.le_refl _) (gv_backs (blk_far H1.out (by simp only []; omega) _) [⟨1, false⟩] (by simp) rfl)) (below_set HB.out (by omega))
    · have hw : wrap64 (-d) = (-d) := by have := HD.out; unfold wrap64; omega
      go_wp2_with fail
      have hg := HG2.out
      go_meet
      refine ⟨rfl, ?_⟩
      exact Bad.mk' 3 ([⟨2, false, -d, [⟨1, false⟩, ⟨3, false⟩]⟩, ⟨1, false, 4, [⟨1, false⟩]⟩] : List S42) g2 2 (cf_b5 d HD.out) rfl (blk_far HC.out (by simp only []; omega) _) (gv_sites _ _ _ _ _ _ (blk_put H2.out 2 _ rfl) (Nat.le_refl _) (gv_backs (blk_far H0.out (by simp only []; omega) _) [⟨1, false⟩, ⟨3, false⟩] (by simp) rfl) (Nat.le_refl _) (gv_backs (blk_far H1.out (by simp only []; omega) _) [⟨1, false⟩] (by simp) rfl)) (below_set HB.out (by omega))
    · have hw : wrap64 (8 + d) = (8 + d) := by have := HD.out; unfold wrap64; omega
      go_wp2_with fail
      have hg := HG2.out
      go_meet
      refine ⟨rfl, ?_⟩
      exact Bad.mk' 3 ([⟨2, false, 2, [⟨1, false⟩, ⟨3, false⟩]⟩, ⟨1, false, 8 + d, [⟨1, false⟩]⟩] : List S42) g2 2 (cf_b6 d HD.out) rfl (blk_far HC.out (by simp only []; omega) _) (gv_sites _ _ _ _ _ _ (blk_put H2.out 6 _ rfl) (Nat.le_refl _) (gv_backs (blk_far H0.out (by simp only []; omega) _) [⟨1, false⟩, ⟨3, false⟩] (by simp) rfl) (Nat.le_refl _) (gv_backs (blk_far H1.out (by simp only []; omega) _) [⟨1, false⟩] (by simp) rfl)) (below_set HB.out (by omega))
    · go_wp2_with fail
      have hmk : ∀ W : World, Sem.run Try.prog (Instr.makeSlice 40 (.int .i64 5) (.int .i64 5)) W = .ok (.slice (some ⟨W.heap.size, 0, none⟩) 5 5) (W.alloc (.cells #[.int .i64 0, .bool false, .int .i64 0, .bool false, .int .i64 0, .bool false, .int .i64 0, .bool false, .int .i64 0, .bool false] 44)) := fun _ => by kernel_rfl
      have n1 : b ≠ w3.heap.size := by have := HS.out; omega
      have n2 : w3.heap.size ≠ b := by have := HS.out; omega
      have n3 : g2 ≠ w3.heap.size := by have := HS.out; have := HG2.out; omega
      have n4 : w3.heap.size ≠ g2 := by have := HS.out; have := HG2.out; omega
      have n5 : b ≠ g2 := by have := HG2.out; omega
      have n6 : g2 ≠ b := by have := HG2.out; omega
      have o1 : (w3.alloc (.cells #[.int .i64 0, .bool false, .int .i64 0, .bool false, .int .i64 0, .bool false, .int .i64 0, .bool false, .int .i64 0, .bool false] 44)).drew.cell? ⟨g2, 3, none⟩ = some (.slice (some ⟨g0, 0, none⟩) 2 2) := pw_cell_below (below_drew1 (below_alloc (Below.refl _ _) _)) y3
      have o2 : (w3.alloc (.cells #[.int .i64 0, .bool false, .int .i64 0, .bool false, .int .i64 0, .bool false, .int .i64 0, .bool false, .int .i64 0, .bool false] 44)).drew.frozen? ⟨g2, 3, none⟩ = false := (Go.RowKit.frozen?_alloc_cells _ _ _ _).trans z3
      have o3 : (w3.drew.alloc (.cells #[.int .i64 0, .bool false, .int .i64 0, .bool false, .int .i64 0, .bool false, .int .i64 0, .bool false, .int .i64 0, .bool false] 44)).cell? ⟨g2, 3, none⟩ = some (.slice (some ⟨g0, 0, none⟩) 2 2) := pw_cell_below (below_alloc (below_drew1 (Below.refl _ _)) _) y3
      have o4 : (w3.drew.alloc (.cells #[.int .i64 0, .bool false, .int .i64 0, .bool false, .int .i64 0, .bool false, .int .i64 0, .bool false, .int .i64 0, .bool false] 44)).frozen? ⟨g2, 3, none⟩ = false := (Go.RowKit.frozen?_alloc_cells _ _ _ _).trans z3
      go_region_held3 (fun w' => w'.cell? ⟨b, 1, none⟩ = some (.slice (some ⟨g2, 0, none⟩) 2 2)) (first | (with_reducible exact c1) | go_keep) (fail)
      go_wp2_with fail
      have hb : Below w3.heap.size w3 (w3.alloc (.cells #[.int .i64 0, .bool false, .int .i64 0, .bool false, .int .i64 0, .bool false, .int .i64 0, .bool false, .int .i64 0, .bool false] 44)) := below_alloc (Below.refl _ _) _
      have HZ := Aside0.mk (show (w3.alloc (.cells #[.int .i64 0, .bool false, .int .i64 0, .bool false, .int .i64 0, .bool false, .int .i64 0, .bool false, .int .i64 0, .bool false] 44)).heap[w3.heap.size]? = some (.cells #[.int .i64 0, .bool false, .int .i64 0, .bool false, .int .i64 0, .bool false, .int .i64 0, .bool false, .int .i64 0, .bool false] 44 (0, 0)) from blk_new w3 _)
      have HC3 := Aside0.mk (blk_below HC.out hb)
      have H03 := Aside0.mk (blk_below H0.out hb)
      have H13 := Aside0.mk (blk_below H1.out hb)
      have H23 := Aside0.mk (blk_below H2.out hb)
      replace HB := Aside0.mk (below_step HB.out hb)
      have hg := HG2.out
      have hs := HS.out
      go_meet
      refine ⟨rfl, ?_⟩
      exact Bad.mk' 3 ([⟨2, false, 2, [⟨0, false⟩, ⟨0, false⟩, ⟨0, false⟩, ⟨0, false⟩, ⟨0, false⟩]⟩, ⟨1, false, 4, [⟨1, false⟩]⟩] : List S42) g2 2 (cf_b7 d HD.out) rfl (blk_far HC3.out (by simp only []; omega) _) (gv_sites _ _ _ _ _ _ (blk_put H23.out 3 _ rfl) (Nat.le_refl _) (gv_backs (blk_far HZ.out (by simp only []; omega) _) [⟨0, false⟩, ⟨0, false⟩, ⟨0, false⟩, ⟨0, false⟩, ⟨0, false⟩] (by simp) rfl) (Nat.le_refl _) (gv_backs (blk_far H13.out (by simp only []; omega) _) [⟨1, false⟩] (by simp) rfl)) (below_drew1 (below_set HB.out (by omega)))
    · have hw : wrap64 (-d) = (-d) := by have := HD.out; unfold wrap64; omega
      go_wp2_with fail
      have hg := HG2.out
      go_meet
      refine ⟨rfl, ?_⟩
      exact Bad.mk' 3 ([⟨2, false, 2, [⟨1, false⟩, ⟨-d, false⟩]⟩, ⟨1, false, 4, [⟨1, false⟩]⟩] : List S42) g2 2 (cf_b8 d HD.out) rfl (blk_far HC.out (by simp only []; omega) _) (gv_sites _ _ _ _ _ _ (blk_far H2.out (by simp only []; omega) _) (Nat.le_refl _) (gv_backs (blk_put H0.out 2 _ rfl) [⟨1, false⟩, ⟨-d, false⟩] (by simp) rfl) (Nat.le_refl _) (gv_backs (blk_far H1.out (by simp only []; omega) _) [⟨1, false⟩] (by simp) rfl)) (below_set HB.out (by omega))
    · have hw : wrap64 (16 + d) = (16 + d) := by have := HD.out; unfold wrap64; omega
      go_wp2_with fail
      have hg := HG2.out
      go_meet
      refine ⟨rfl, ?_⟩
      exact Bad.mk' 3 ([⟨2, false, 2, [⟨1, false⟩, ⟨3, false⟩]⟩, ⟨1, false, 4, [⟨16 + d, false⟩]⟩] : List S42) g2 2 (cf_b9 d HD.out) rfl (blk_far HC.out (by simp only []; omega) _) (gv_sites _ _ _ _ _ _ (blk_far H2.out (by simp only []; omega) _) (Nat.le_refl _) (gv_backs (blk_far H0.out (by simp only []; omega) _) [⟨1, false⟩, ⟨3, false⟩] (by simp) rfl) (Nat.le_refl _) (gv_backs (blk_put H1.out 0 _ rfl) [⟨16 + d, false⟩] (by simp) rfl)) (below_set HB.out (by omega))
  case rest =>
    obtain ⟨rfl, v, l, g, n, HM, ⟨rfl⟩, HC2, HR, HB2⟩ := hcut
    clear HB H0 H1 H2 HC hd hp
    have HX := Aside0.mk (Below.refl wc.heap.size wc)
    have HLT := Aside0.mk (show b < wc.heap.size from blk_lt HC2.out)
    have m1 : b ≠ wc.heap.size := by have := HLT.out; omega
    have m2 : wc.heap.size ≠ b := by have := HLT.out; omega
    have k0 : wc.cell? ⟨b, 0, none⟩ = some (.int .i64 v) := (blk_cell HC2.out 0).trans rfl
    have k1 : wc.cell? ⟨b, 1, none⟩ = some (.slice (some ⟨g, 0, none⟩) l.length l.length) := (blk_cell HC2.out 1).trans rfl
    go_upto_region 25 with fail
    go_cut [8, 9] (fun p q wx => p = .bool false ∧ q = .int .i64 1000 ∧ Aside0 (Below wc.heap.size wc wx))
    case first =>
      go_region_held3 (fun w' => w'.cell? ⟨b, 0, none⟩ = some (.int .i64 v) ∧ w'.cell? ⟨b, 1, none⟩ = some (.slice (some ⟨g, 0, none⟩) l.length l.length)) (first | (with_reducible exact ⟨k0, k1⟩) | go_keep) (first | (go_at_call 16; (with_reducible refine (wharfagelaw10_given.calls 3 awakeSites (wc.alloc (Obj.cells #[Value.int IntKind.i64 0, Value.slice none 0 0] 24)).drew wharfagelaw10_awake.g).mono ?_); rintro e w5 ⟨v5, rfl, ho, hb⟩; obtain ⟨A5, n5, rfl⟩ := Kd.N_slice ho; have L5 := Aside0.mk (Kd.N_reads' ho).2.1; have R5 := Aside0.mk (Kd.N_reads' ho).2.2; replace HX := Aside0.mk (show Below wc.heap.size wc w5 from below_step (below_drew1 (below_alloc HX.out _)) hb); have t0 : w5.frozen? ⟨wc.heap.size, 0, none⟩ = false := (hb.frozen (p := ⟨wc.heap.size, 0, none⟩) (by simp)).trans (by simp); have t1 : w5.frozen? ⟨wc.heap.size, 1, none⟩ = false := (hb.frozen (p := ⟨wc.heap.size, 1, none⟩) (by simp)).trans (by simp); have u0 : w5.cell? ⟨wc.heap.size, 0, none⟩ = some (.int .i64 0) := (hb.cell (p := ⟨wc.heap.size, 0, none⟩) (by simp)).trans (by simp); have u1 : w5.cell? ⟨wc.heap.size, 1, none⟩ = some (.slice none 0 0) := (hb.cell (p := ⟨wc.heap.size, 1, none⟩) (by simp)).trans (by simp); have mw51 : b ≠ w5.heap.size := (by have h1 := HLT.out; have h2 := HX.out.size; omega); have mw52 : w5.heap.size ≠ b := (by have h1 := HLT.out; have h2 := HX.out.size; omega); replace k0 : w5.cell? ⟨b, 0, none⟩ = some (.int .i64 v) := (blk_cell (blk_below HC2.out HX.out) 0).trans rfl; replace k1 : w5.cell? ⟨b, 1, none⟩ = some (.slice (some ⟨g, 0, none⟩) l.length l.length) := (blk_cell (blk_below HC2.out HX.out) 1).trans rfl; clear ho hb) | (go_at_call 16; (with_reducible refine (wharfagelaw10_given.calls 3 awakeSites wc.drew wharfagelaw10_awake.g).mono ?_); rintro e w5 ⟨v5, rfl, ho, hb⟩; obtain ⟨A5, n5, rfl⟩ := Kd.N_slice ho; have L5 := Aside0.mk (Kd.N_reads' ho).2.1; have R5 := Aside0.mk (Kd.N_reads' ho).2.2; replace HX := Aside0.mk (show Below wc.heap.size wc w5 from below_step (below_drew1 HX.out) hb); have mw51 : b ≠ w5.heap.size := (by have h1 := HLT.out; have h2 := HX.out.size; omega); have mw52 : w5.heap.size ≠ b := (by have h1 := HLT.out; have h2 := HX.out.size; omega); replace k0 : w5.cell? ⟨b, 0, none⟩ = some (.int .i64 v) := (blk_cell (blk_below HC2.out HX.out) 0).trans rfl; replace k1 : w5.cell? ⟨b, 1, none⟩ = some (.slice (some ⟨g, 0, none⟩) l.length l.length) := (blk_cell (blk_below HC2.out HX.out) 1).trans rfl; clear ho hb) | (go_at_call 6; (with_reducible refine (conf_Next.calls 300 3 A5 n5 awakeSites v (some ⟨g, 0, none⟩) l.length l 0 [] false 1000 (w5.alloc (Obj.cells #[Value.int IntKind.i64 0, Value.slice none 0 0] 24)) (Kd.C_below R5.out (below_alloc (Below.refl _ _) _)) L5.out (Kd.C_below HR.out (below_alloc HX.out _)) (Nat.le_refl _) (cf_bad _ _ _ _ (fun h => by rw [HM.out] at h; cases h.2) 300 (by decide))).mono ?_); rintro e w6 ⟨v6, rfl, ho, hb⟩; obtain ⟨A6, n6, rfl⟩ := Kd.S_slice ho; have HX5 := HX; replace HX := Aside0.mk (show Below wc.heap.size wc w6 from below_step (below_alloc HX.out _) hb); have t0 : w6.frozen? ⟨w5.heap.size, 0, none⟩ = false := (hb.frozen (p := ⟨w5.heap.size, 0, none⟩) (by simp)).trans (by simp); have t1 : w6.frozen? ⟨w5.heap.size, 1, none⟩ = false := (hb.frozen (p := ⟨w5.heap.size, 1, none⟩) (by simp)).trans (by simp); have u0 : w6.cell? ⟨w5.heap.size, 0, none⟩ = some (.int .i64 0) := (hb.cell (p := ⟨w5.heap.size, 0, none⟩) (by simp)).trans (by simp); have u1 : w6.cell? ⟨w5.heap.size, 1, none⟩ = some (.slice none 0 0) := (hb.cell (p := ⟨w5.heap.size, 1, none⟩) (by simp)).trans (by simp); have mw61 : b ≠ w6.heap.size := (by have h1 := HLT.out; have h2 := HX.out.size; omega); have mw62 : w6.heap.size ≠ b := (by have h1 := HLT.out; have h2 := HX.out.size; omega); replace k0 : w6.cell? ⟨b, 0, none⟩ = some (.int .i64 v) := (blk_cell (blk_below HC2.out HX.out) 0).trans rfl; replace k1 : w6.cell? ⟨b, 1, none⟩ = some (.slice (some ⟨g, 0, none⟩) l.length l.length) := (blk_cell (blk_below HC2.out HX.out) 1).trans rfl; clear ho hb) | (go_at_call 6; (with_reducible refine (conf_Next.calls 300 3 A5 n5 awakeSites v (some ⟨g, 0, none⟩) l.length l 0 [] false 1000 w5 (R5.out) L5.out (Kd.C_below HR.out HX.out) (Nat.le_refl _) (cf_bad _ _ _ _ (fun h => by rw [HM.out] at h; cases h.2) 300 (by decide))).mono ?_); rintro e w6 ⟨v6, rfl, ho, hb⟩; obtain ⟨A6, n6, rfl⟩ := Kd.S_slice ho; have HX5 := HX; replace HX := Aside0.mk (show Below wc.heap.size wc w6 from below_step HX.out hb); (try (replace t0 := (hb.frozen (World.block_lt_of_cell? _ _ u0)).trans t0; replace t1 := (hb.frozen (World.block_lt_of_cell? _ _ u1)).trans t1; replace u0 := pw_cell_below hb u0; replace u1 := pw_cell_below hb u1)); have mw61 : b ≠ w6.heap.size := (by have h1 := HLT.out; have h2 := HX.out.size; omega); have mw62 : w6.heap.size ≠ b := (by have h1 := HLT.out; have h2 := HX.out.size; omega); replace k0 : w6.cell? ⟨b, 0, none⟩ = some (.int .i64 v) := (blk_cell (blk_below HC2.out HX.out) 0).trans rfl; replace k1 : w6.cell? ⟨b, 1, none⟩ = some (.slice (some ⟨g, 0, none⟩) l.length l.length) := (blk_cell (blk_below HC2.out HX.out) 1).trans rfl; clear ho hb))
      all_goals (go_wp2_with fail; go_meet; refine ⟨rfl, rfl, ⟨?_⟩⟩; repeat (first | exact HX.out | exact Nat.le_refl _ | exact HX5.out.size | refine below_alloc ?_ _ | refine below_set ?_ ?_))
    case rest =>
      obtain ⟨rfl, rfl, ⟨hcb⟩⟩ := hcut
      clear HX HLT m1 m2 k0 k1
      replace HC2 := Aside0.mk (blk_below HC2.out hcb)
      replace HR := Aside0.mk (Kd.C_below HR.out hcb)
      replace HB2 := Aside0.mk (below_step HB2.out hcb)
      clear hcb
      have HX := Aside0.mk (Below.refl wc.heap.size wc)
      have HLT := Aside0.mk (show b < wc.heap.size from blk_lt HC2.out)
      have m1 : b ≠ wc.heap.size := by have := HLT.out; omega
      have m2 : wc.heap.size ≠ b := by have := HLT.out; omega
      have k0 : wc.cell? ⟨b, 0, none⟩ = some (.int .i64 v) := (blk_cell HC2.out 0).trans rfl
      have k1 : wc.cell? ⟨b, 1, none⟩ = some (.slice (some ⟨g, 0, none⟩) l.length l.length) := (blk_cell HC2.out 1).trans rfl
      go_upto_region 26 with fail
      go_cut [11, 12] (fun p q wx => p = .bool false ∧ q = .int .i64 1000 ∧ Aside0 (Below wc.heap.size wc wx))
      case first =>
        go_region_held3 (fun w' => w'.cell? ⟨b, 0, none⟩ = some (.int .i64 v) ∧ w'.cell? ⟨b, 1, none⟩ = some (.slice (some ⟨g, 0, none⟩) l.length l.length)) (first | (with_reducible exact ⟨k0, k1⟩) | go_keep) (first | (go_at_call 16; (with_reducible refine (wharfagelaw10_given.calls 3 awakeSites (wc.alloc (Obj.cells #[Value.int IntKind.i64 0, Value.slice none 0 0] 24)).drew wharfagelaw10_awake.g).mono ?_); rintro e w5 ⟨v5, rfl, ho, hb⟩; obtain ⟨A5, n5, rfl⟩ := Kd.N_slice ho; have L5 := Aside0.mk (Kd.N_reads' ho).2.1; have R5 := Aside0.mk (Kd.N_reads' ho).2.2; replace HX := Aside0.mk (show Below wc.heap.size wc w5 from below_step (below_drew1 (below_alloc HX.out _)) hb); have t0 : w5.frozen? ⟨wc.heap.size, 0, none⟩ = false := (hb.frozen (p := ⟨wc.heap.size, 0, none⟩) (by simp)).trans (by simp); have t1 : w5.frozen? ⟨wc.heap.size, 1, none⟩ = false := (hb.frozen (p := ⟨wc.heap.size, 1, none⟩) (by simp)).trans (by simp); have u0 : w5.cell? ⟨wc.heap.size, 0, none⟩ = some (.int .i64 0) := (hb.cell (p := ⟨wc.heap.size, 0, none⟩) (by simp)).trans (by simp); have u1 : w5.cell? ⟨wc.heap.size, 1, none⟩ = some (.slice none 0 0) := (hb.cell (p := ⟨wc.heap.size, 1, none⟩) (by simp)).trans (by simp); have mw51 : b ≠ w5.heap.size := (by have h1 := HLT.out; have h2 := HX.out.size; omega); have mw52 : w5.heap.size ≠ b := (by have h1 := HLT.out; have h2 := HX.out.size; omega); replace k0 : w5.cell? ⟨b, 0, none⟩ = some (.int .i64 v) := (blk_cell (blk_below HC2.out HX.out) 0).trans rfl; replace k1 : w5.cell? ⟨b, 1, none⟩ = some (.slice (some ⟨g, 0, none⟩) l.length l.length) := (blk_cell (blk_below HC2.out HX.out) 1).trans rfl; clear ho hb) | (go_at_call 16; (with_reducible refine (wharfagelaw10_given.calls 3 awakeSites wc.drew wharfagelaw10_awake.g).mono ?_); rintro e w5 ⟨v5, rfl, ho, hb⟩; obtain ⟨A5, n5, rfl⟩ := Kd.N_slice ho; have L5 := Aside0.mk (Kd.N_reads' ho).2.1; have R5 := Aside0.mk (Kd.N_reads' ho).2.2; replace HX := Aside0.mk (show Below wc.heap.size wc w5 from below_step (below_drew1 HX.out) hb); have mw51 : b ≠ w5.heap.size := (by have h1 := HLT.out; have h2 := HX.out.size; omega); have mw52 : w5.heap.size ≠ b := (by have h1 := HLT.out; have h2 := HX.out.size; omega); replace k0 : w5.cell? ⟨b, 0, none⟩ = some (.int .i64 v) := (blk_cell (blk_below HC2.out HX.out) 0).trans rfl; replace k1 : w5.cell? ⟨b, 1, none⟩ = some (.slice (some ⟨g, 0, none⟩) l.length l.length) := (blk_cell (blk_below HC2.out HX.out) 1).trans rfl; clear ho hb) | (go_at_call 6; (with_reducible refine (conf_Next.calls 300 v (some ⟨g, 0, none⟩) l.length l 3 A5 n5 awakeSites 0 [] false 1000 (w5.alloc (Obj.cells #[Value.int IntKind.i64 0, Value.slice none 0 0] 24)) (Kd.C_below HR.out (below_alloc HX.out _)) (Nat.le_refl _) (Kd.C_below R5.out (below_alloc (Below.refl _ _) _)) L5.out (cf_bad _ _ _ _ (fun h => by rw [HM.out] at h; cases h.1) 300 (by decide))).mono ?_); rintro e w6 ⟨v6, rfl, ho, hb⟩; obtain ⟨A6, n6, rfl⟩ := Kd.S_slice ho; have HX5 := HX; replace HX := Aside0.mk (show Below wc.heap.size wc w6 from below_step (below_alloc HX.out _) hb); have t0 : w6.frozen? ⟨w5.heap.size, 0, none⟩ = false := (hb.frozen (p := ⟨w5.heap.size, 0, none⟩) (by simp)).trans (by simp); have t1 : w6.frozen? ⟨w5.heap.size, 1, none⟩ = false := (hb.frozen (p := ⟨w5.heap.size, 1, none⟩) (by simp)).trans (by simp); have u0 : w6.cell? ⟨w5.heap.size, 0, none⟩ = some (.int .i64 0) := (hb.cell (p := ⟨w5.heap.size, 0, none⟩) (by simp)).trans (by simp); have u1 : w6.cell? ⟨w5.heap.size, 1, none⟩ = some (.slice none 0 0) := (hb.cell (p := ⟨w5.heap.size, 1, none⟩) (by simp)).trans (by simp); have mw61 : b ≠ w6.heap.size := (by have h1 := HLT.out; have h2 := HX.out.size; omega); have mw62 : w6.heap.size ≠ b := (by have h1 := HLT.out; have h2 := HX.out.size; omega); replace k0 : w6.cell? ⟨b, 0, none⟩ = some (.int .i64 v) := (blk_cell (blk_below HC2.out HX.out) 0).trans rfl; replace k1 : w6.cell? ⟨b, 1, none⟩ = some (.slice (some ⟨g, 0, none⟩) l.length l.length) := (blk_cell (blk_below HC2.out HX.out) 1).trans rfl; clear ho hb) | (go_at_call 6; (with_reducible refine (conf_Next.calls 300 v (some ⟨g, 0, none⟩) l.length l 3 A5 n5 awakeSites 0 [] false 1000 w5 (Kd.C_below HR.out HX.out) (Nat.le_refl _) (R5.out) L5.out (cf_bad _ _ _ _ (fun h => by rw [HM.out] at h; cases h.1) 300 (by decide))).mono ?_); rintro e w6 ⟨v6, rfl, ho, hb⟩; obtain ⟨A6, n6, rfl⟩ := Kd.S_slice ho; have HX5 := HX; replace HX := Aside0.mk (show Below wc.heap.size wc w6 from below_step HX.out hb); (try (replace t0 := (hb.frozen (World.block_lt_of_cell? _ _ u0)).trans t0; replace t1 := (hb.frozen (World.block_lt_of_cell? _ _ u1)).trans t1; replace u0 := pw_cell_below hb u0; replace u1 := pw_cell_below hb u1)); have mw61 : b ≠ w6.heap.size := (by have h1 := HLT.out; have h2 := HX.out.size; omega); have mw62 : w6.heap.size ≠ b := (by have h1 := HLT.out; have h2 := HX.out.size; omega); replace k0 : w6.cell? ⟨b, 0, none⟩ = some (.int .i64 v) := (blk_cell (blk_below HC2.out HX.out) 0).trans rfl; replace k1 : w6.cell? ⟨b, 1, none⟩ = some (.slice (some ⟨g, 0, none⟩) l.length l.length) := (blk_cell (blk_below HC2.out HX.out) 1).trans rfl; clear ho hb))
        all_goals (go_wp2_with fail; go_meet; refine ⟨rfl, rfl, ⟨?_⟩⟩; repeat (first | exact HX.out | exact Nat.le_refl _ | exact HX5.out.size | refine below_alloc ?_ _ | refine below_set ?_ ?_))
      case rest =>
        obtain ⟨rfl, rfl, ⟨hcb⟩⟩ := hcut
        clear HX HLT m1 m2 k0 k1
        replace HC2 := Aside0.mk (blk_below HC2.out hcb)
        replace HR := Aside0.mk (Kd.C_below HR.out hcb)
        replace HB2 := Aside0.mk (below_step HB2.out hcb)
        clear hcb
        have HX := Aside0.mk (Below.refl wc.heap.size wc)
        have HLT := Aside0.mk (show b < wc.heap.size from blk_lt HC2.out)
        have m1 : b ≠ wc.heap.size := by have := HLT.out; omega
        have m2 : wc.heap.size ≠ b := by have := HLT.out; omega
        have k0 : wc.cell? ⟨b, 0, none⟩ = some (.int .i64 v) := (blk_cell HC2.out 0).trans rfl
        have k1 : wc.cell? ⟨b, 1, none⟩ = some (.slice (some ⟨g, 0, none⟩) l.length l.length) := (blk_cell HC2.out 1).trans rfl
        go_wp2_with first
          | (go_at_call 10; (with_reducible refine calls_of_args (args' := #[Value.agg #[Value.int IntKind.i64 v, Value.slice (some ⟨g, 0, none⟩) l.length l.length]]) rfl ?_); refine (conf_May.calls v (some ⟨g, 0, none⟩) l.length l false _ HR.out (Nat.le_refl _) (by rw [cf_may_f, HM.out])).mono ?_; rintro e w8 ⟨rfl, hb8⟩; have hcb := hb8; replace k0 := pw_cell_below hcb k0; replace k1 := pw_cell_below hcb k1; replace HR := Aside0.mk (Kd.C_below HR.out hcb); replace HB2 := Aside0.mk (below_step HB2.out hcb); clear hcb; clear hb8)
          | (go_at_call 12; (with_reducible refine calls_of_args (args' := #[Value.agg #[Value.int IntKind.i64 v, Value.slice (some ⟨g, 0, none⟩) l.length l.length], Value.int IntKind.i64 0, Value.int IntKind.i64 (-1)]) rfl ?_); refine (conf_Has.calls v (some ⟨g, 0, none⟩) l.length l 0 (-1) false _ HR.out (Nat.le_refl _) (cf_has _ _ _ _ HM.out)).mono ?_; rintro e w9 ⟨rfl, hb9⟩; have hcb := hb9; replace k0 := pw_cell_below hcb k0; replace k1 := pw_cell_below hcb k1; replace HR := Aside0.mk (Kd.C_below HR.out hcb); replace HB2 := Aside0.mk (below_step HB2.out hcb); clear hcb; clear hb9)
          | (go_at_call 9; refine (wharfagelaw0_Num.calls _ _ _ rfl).mono ?_; rintro e wn ⟨rfl, hn⟩; have hbn := drawn0_below hn; clear hn; have hcb := hbn; replace k0 := pw_cell_below hcb k0; replace k1 := pw_cell_below hcb k1; replace HR := Aside0.mk (Kd.C_below HR.out hcb); replace HB2 := Aside0.mk (below_step HB2.out hcb); clear hcb; clear hbn)
        go_ret
        exact ⟨ret_bool rfl, HB2.out⟩


end Go.Proofs.Ytfdmcleopakmcaa.PConfForms
