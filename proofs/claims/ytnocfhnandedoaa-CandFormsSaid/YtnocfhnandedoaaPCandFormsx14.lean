/- Contracts: what calls of these functions of the program do, each as a plain function; written by a program of this session. -/
import Derived.Test.YtnocfhnandedoaaPCandFormsx0
import Derived.Test.YtnocfhnandedoaaPCandFormsx2
import Derived.Test.YtnocfhnandedoaaPCandFormsx3
import Derived.Test.YtnocfhnandedoaaPCandFormsx5
import Derived.Test.YtnocfhnandedoaaPCandFormsx6
import Derived.Test.YtnocfhnandedoaaPCandFormsx8
import Derived.Test.YtnocfhnandedoaaPCandFormsx10
import Derived.Test.YtnocfhnandedoaaPCandFormsx12
import Derived.Test.YtnocfhnandedoaaPCandFormsx13
namespace Go.Proofs.Ytnocfhnandedoaa.PCandForms
open Go.RowKit Go.Proofs.YtnocfhnandedoaaW.PrintWords Go.Proofs.YtnocfhnandedoaaW.PrintLast Go.Proofs.YtnocfhnandedoaaW.PrintMore
attribute [local go_sem] max2_int min2_int max_two min_two max_three min_three max_four min_four   -- for this text's walks alone
set_option linter.unusedVariables false
set_option linter.unusedSimpArgs false

/-! ### wharfagelaw13_CandForms: function 9, by hand -/
def wharfagelaw13_CandForms.f (a0 a1 : Int) : Option Bool := some true
theorem gv_size (w : World) (o : Obj) : (w.alloc o).heap.size = w.heap.size + 1 := by simp
set_option maxHeartbeats 8000000 in
set_option maxRecDepth 100000 in
theorem gv_cells (w : World) : Calls Try.prog 36 #[] w fun e w' => ∃ g0 g1 g2 : Nat, e = .returned (.agg #[.int .i64 3, .slice (some ⟨g2, 0, none⟩) 2 2]) ∧ (w.heap.size ≤ g0 ∧ g0 < g1 ∧ g1 < g2 ∧ g2 < w'.heap.size) ∧ w'.heap[g0]? = some (.cells #[.int .i64 1, .bool false, .int .i64 3, .bool false] 74 (0, 0)) ∧ w'.heap[g1]? = some (.cells #[.int .i64 1, .bool false] 74 (0, 0)) ∧ w'.heap[g2]? = some (.cells #[.int .i64 2, .bool false, .int .i64 2, .slice (some ⟨g0, 0, none⟩) 2 2, .int .i64 1, .bool false, .int .i64 4, .slice (some ⟨g1, 0, none⟩) 1 1] 70 (0, 0)) ∧ Below w.heap.size w w' := by
  go_enter Try.func36, Try.ntmps36
  go_wp2_with fail
  refine bodyPost_ret (results_cell_row rfl _ _ w.heap.size 49 #[.int .i64 3, .slice (some ⟨w.heap.size + 1 + 1 + 1, 0, none⟩) 2 2] (0, 0) _ rfl (blk_alloc (blk_alloc (blk_alloc (blk_new _ _) _) _) _) Try.underlying49 rfl (by kernel_rfl)) rfl ?_
  obtain ⟨w1, h1⟩ : ∃ x_, x_ = w.alloc (.cells #[.int .i64 3, .slice (some ⟨w.heap.size + 1 + 1 + 1, 0, none⟩) 2 2] 49 (0, 0)) := ⟨_, rfl⟩
  rw [← h1]
  have s1 : w1.heap.size = w.heap.size + 1 := by rw [h1]; exact gv_size _ _
  have hb1 : Below w.heap.size w w1 := h1 ▸ below_alloc (Below.refl _ _) _
  clear h1
  obtain ⟨w2, h2⟩ : ∃ x_, x_ = w1.alloc (.cells #[.int .i64 1, .bool false, .int .i64 3, .bool false] 74 (0, 0)) := ⟨_, rfl⟩
  rw [← h2]
  have s2 : w2.heap.size = w1.heap.size + 1 := by rw [h2]; exact gv_size _ _
  have hb2 : Below w1.heap.size w1 w2 := h2 ▸ below_alloc (Below.refl _ _) _
  have H0 : w2.heap[w.heap.size + 1]? = some (.cells #[.int .i64 1, .bool false, .int .i64 3, .bool false] 74 (0, 0)) := by rw [← s1, h2]; exact blk_new _ _
  clear h2
  obtain ⟨w3, h3⟩ : ∃ x_, x_ = w2.alloc (.cells #[.int .i64 1, .bool false] 74 (0, 0)) := ⟨_, rfl⟩
  rw [← h3]
  have s3 : w3.heap.size = w2.heap.size + 1 := by rw [h3]; exact gv_size _ _
  have hb3 : Below w2.heap.size w2 w3 := h3 ▸ below_alloc (Below.refl _ _) _
  have H1 : w3.heap[w.heap.size + 1 + 1]? = some (.cells #[.int .i64 1, .bool false] 74 (0, 0)) := by rw [← s1, ← s2, h3]; exact blk_new _ _
  clear h3
  refine ⟨w.heap.size + 1, w.heap.size + 1 + 1, w.heap.size + 1 + 1 + 1, rfl, ⟨by omega, by omega, by omega, by rw [gv_size]; omega⟩, blk_alloc (blk_below H0 hb3) _, blk_alloc H1 _, ?_, below_alloc (below_step (below_step hb1 hb2) hb3) _⟩
  rw [← s1, ← s2, ← s3]
  exact blk_new _ _
theorem gv_flat {α : Type} {d : Kd α} {w : World} {g : Nat} {cs : Array Value} {t : TypeId} {fz : Nat × Nat} (h : w.heap[g]? = some (.cells cs t fz)) (enc : α → List Value) (hsz : ∀ x, (enc x).length = d.sz) (hK : ∀ x, d.K w x (enc x)) (xs : List α) (hl : xs.length ≤ 9223372036854775807) (hcs : cs.toList = xs.flatMap enc) : Kd.C d w (some ⟨g, 0, none⟩) xs.length xs :=
  Go.Proofs.Ytnocfhnandedoaa.Hand.hk_cells enc hsz hK _ xs hl (fun k u hu => by
    rw [Go.Proofs.Ytnocfhnandedoaa.Hand.hk_add0, Nat.zero_add, World.cell?, h]
    rw [← hcs] at hu
    simpa using hu)
theorem gv_backs {w : World} {g : Nat} {cs : Array Value} {t : TypeId} {fz : Nat × Nat} (h : w.heap[g]? = some (.cells cs t fz)) (xs : List S74) (hl : xs.length ≤ 9223372036854775807) (hcs : cs.toList = xs.flatMap (fun x => [.int .i64 x.f0, .bool x.f1])) : Kd.C k74 w (some ⟨g, 0, none⟩) xs.length xs :=
  gv_flat h (fun x => [.int .i64 x.f0, .bool x.f1]) (fun _ => rfl) (fun x => k74_mk w x) xs hl hcs
/-- Two sites, read from their block. -/
theorem gv_sites {w : World} {g : Nat} {t : TypeId} {fz : Nat × Nat} (x y : S70) (A B : Option Addr) (a b : Nat) (h : w.heap[g]? = some (.cells #[.int .i64 x.f0, .bool x.f1, .int .i64 x.f2, .slice A x.f3.length a, .int .i64 y.f0, .bool y.f1, .int .i64 y.f2, .slice B y.f3.length b] t fz)) (ha : x.f3.length ≤ a) (hA : Kd.C k74 w A x.f3.length x.f3) (hb : y.f3.length ≤ b) (hB : Kd.C k74 w B y.f3.length y.f3) : Kd.C k70 w (some ⟨g, 0, none⟩) [x, y].length [x, y] := by
  refine ⟨rfl, by simp, fun _ => ⟨_, rfl, fun j p hj => ?_⟩⟩
  match j, hj with
  | 0, hj =>
    obtain rfl : x = p := by simpa using hj
    refine ⟨_, rfl, k70_mk w x ha hA, fun i u hu => ?_⟩
    rw [Go.Proofs.Ytnocfhnandedoaa.Hand.hk_add0, World.cell?, h]
    match i, hu with
    | 0, hu => exact hu
    | 1, hu => exact hu
    | 2, hu => exact hu
    | 3, hu => exact hu
    | i + 4, hu => simp at hu
  | 1, hj =>
    obtain rfl : y = p := by simpa using hj
    refine ⟨_, rfl, k70_mk w y hb hB, fun i u hu => ?_⟩
    rw [Go.Proofs.Ytnocfhnandedoaa.Hand.hk_add0, World.cell?, h]
    match i, hu with
    | 0, hu => exact hu
    | 1, hu => exact hu
    | 2, hu => exact hu
    | 3, hu => exact hu
    | i + 4, hu => simp at hu
  | j + 2, hj => simp at hj
theorem cd_s1 (v : Int) (l : List S70) (hs : List S67) (h : mayC v l = false) : cand_Sites.f 60 v l hs = some ([], 1300) := by
  have h1 : conf_May.f v l = some (mayC v l) := rfl
  unfold cand_Sites.f
  rw [h1, h]; rfl
theorem cd_s2 (v : Int) (l : List S70) (hs : List S67) (h : health_All.f 60 hs 3 = some false) : cand_Sites.f 60 v l hs = some ([], 1300) := by
  have h1 : conf_May.f v l = some (mayC v l) := rfl
  unfold cand_Sites.f
  rw [h1]
  cases hm : mayC v l
  · rfl
  · rw [Option.bind_some, if_pos rfl, h]; rfl
theorem cd_b1 (v : Int) (l : List S70) (i : Int) (hs : List S67) (h : mayC v l = false) : cand_Backs.f v l i hs = some ([], 1300) := by
  unfold cand_Backs.f cand_Backs.ok
  rw [h]; rfl
theorem cd_b2 (v : Int) (l : List S70) (i : Int) (hs : List S67) (h : allB hs 4 = false) : cand_Backs.f v l i hs = some ([], 1300) := by
  unfold cand_Backs.f cand_Backs.ok
  rw [h]
  cases mayC v l <;> rfl
theorem cd_b3 (v : Int) (l : List S70) (i : Int) (hs : List S67) (h : i < 0 ∨ (l.length : Int) ≤ i) : cand_Backs.f v l i hs = some ([], 1300) := by
  unfold cand_Backs.f cand_Backs.ok
  rw [show decide (0 ≤ i ∧ i < (l.length : Int)) = false from by simp; omega]
  cases mayC v l <;> cases allB hs 4 <;> rfl
theorem cd_m0 (d : Int) (hd : 1 ≤ d ∧ d ≤ 1024) (l : List S70) : mayC (-d) l = false := by
  have h1 := hd.1
  unfold mayC
  rw [show decide (0 ≤ -d ∧ -d ≤ 1048576) = false from by simp; omega]
  simp
theorem cd_m4 (d : Int) (hd : 1 ≤ d ∧ d ≤ 1024) (v : Int) : mayC v ([⟨2, false, 2, [⟨16 + d, false⟩, ⟨3, false⟩]⟩, ⟨1, false, 4, [⟨1, false⟩]⟩] : List S70) = false := by
  have h1 := hd.1
  have h2 := hd.2
  simp [mayC, siteOk, backOk] <;> omega
theorem cd_h (d : Int) (hd : 1 ≤ d ∧ d ≤ 1024) : allB ([⟨true, 0⟩, ⟨true, 0⟩, ⟨true, 0⟩, ⟨true, -d⟩] : List S67) 4 = false := by
  have h1 := hd.1
  have h2 := hd.2
  simp [allB, healthOk] <;> omega
theorem cd_own {w : World} {base g n : Nat} {cs : Array Value} (ok : Nat → Prop) (hok : ok g) (h : w.heap[g]? = some (.cells cs 67 (0, 0))) (hb : base ≤ g) (xs : List S67) (hl : xs.length = n) (hm : n ≤ 1000) (hcs : cs.toList = xs.flatMap (fun x => [.bool x.f0, .int .i64 x.f1])) (hr : Reps (k67.M w base (fun _ => False)) 2 xs cs.toList) (hs : cs.size = n * 2) : Kd.R k67 67 w base ok (.slice (some ⟨g, 0, none⟩) n n) xs := by
  refine ⟨fun k hk => by (have : g = k := by simpa [Value.ownBlock] using hk); subst this; exact hok, cs.toList, ⟨by rw [hl, Array.length_toList]; exact hs, .inr ⟨g, n, cs, by rw [hl], hb, h, by rw [hl]; exact Nat.le_refl _, by simp only [maxLen]; omega, hs, by rw [hl]; exact List.take_of_length_le (by rw [Array.length_toList, hs]; exact Nat.le_refl _)⟩⟩, ?_⟩
  exact hr.imp_ (fun _ _ hp => k67.M_mono (fun _ hk => hk.elim) hp)
theorem cd_new2 (w : World) (o : Obj) (cs : Array Value) (ty : TypeId) : ((w.alloc o).alloc (.cells cs ty)).heap[w.heap.size + 1]? = some (.cells cs ty) := by
  have h := blk_new (w.alloc o) (.cells cs ty)
  rwa [gv_size] at h
theorem cd_hs {w : World} {g : Nat} {cs : Array Value} {t : TypeId} {fz : Nat × Nat} (h : w.heap[g]? = some (.cells cs t fz)) (xs : List S67) (hl : xs.length ≤ 9223372036854775807) (hcs : cs.toList = xs.flatMap (fun x => [.bool x.f0, .int .i64 x.f1])) : Kd.C k67 w (some ⟨g, 0, none⟩) xs.length xs :=
  gv_flat h (fun x => [.bool x.f0, .int .i64 x.f1]) (fun _ => rfl) (fun x => k67_mk w x) xs hl hcs
theorem drawn0_below' {w w1 : World} (h : Drawn0 w w1) : Below w.heap.size w w1 := by
  obtain ⟨nd, rfl⟩ := h
  exact pw_below_drewN (Below.refl _ _) _
theorem cd_lit (w : World) : Kd.C k67 (w.alloc (Obj.cells #[Value.bool true, Value.int IntKind.i64 0, Value.bool true, Value.int IntKind.i64 0, Value.bool true, Value.int IntKind.i64 0, Value.bool true, Value.int IntKind.i64 0] 67)) (some ⟨w.heap.size, 0, none⟩) 4 ([⟨true, 0⟩, ⟨true, 0⟩, ⟨true, 0⟩, ⟨true, 0⟩] : List S67) := cd_hs (blk_new w _) _ (by simp) rfl
def cdG : List S70 := [⟨2, false, 2, [⟨1, false⟩, ⟨3, false⟩]⟩, ⟨1, false, 4, [⟨1, false⟩]⟩]
theorem cd_backs (i : Int) (A : Option Addr) (n : Nat) (B : Addr) (w : World) (hR : Kd.C k70 w A cdG.length cdG) (hL : cdG.length ≤ n) (hC : Kd.C k67 w (some B) 4 ([⟨true, 0⟩, ⟨true, 0⟩, ⟨true, 0⟩, ⟨true, 0⟩] : List S67)) (hi : i < 0 ∨ 2 ≤ i) :
    Calls Try.prog 29 #[.agg #[.int .i64 3, .slice A cdG.length n], .int .i64 i, .slice (some B) 4 4] w fun e w' => ∃ v0_ : Value, e = .returned (.tuple #[v0_, .int .i64 1300]) ∧ Kd.R k72 72 w' w.heap.size (fun _ => True) v0_ [] ∧ Below w.heap.size w w' :=
  cand_Backs.calls 3 A n cdG i (some B) 4 [⟨true, 0⟩, ⟨true, 0⟩, ⟨true, 0⟩, ⟨true, 0⟩] [] 1300 w hR hL hC (Nat.le_refl _) (cd_b3 _ _ _ _ (by simpa [cdG] using hi))
/-- What the switch leaves: arguments that both calls refuse. -/
def CBad (w0 : World) (b : Nat) (s7 s8 : Value) (w : World) : Prop := ∃ (v : Int) (l : List S70) (g n : Nat) (A7 : Option Addr) (n7 c7 : Nat) (l7 : List S67) (A8 : Option Addr) (n8 c8 : Nat) (l8 : List S67), s7 = .slice A7 n7 c7 ∧ s8 = .slice A8 n8 c8 ∧ l.length = n ∧ l7.length = n7 ∧ l8.length = n8 ∧ Aside0 (cand_Sites.f 60 v l l7 = some ([], 1300)) ∧ Aside0 (cand_Backs.f v l 0 l8 = some ([], 1300)) ∧ Aside0 (w.heap[b]? = some (.cells #[.int .i64 v, .slice (some ⟨g, 0, none⟩) n n] 49 (0, 0))) ∧ Aside0 (Kd.C k70 w (some ⟨g, 0, none⟩) n l) ∧ Aside0 (Kd.C k67 w A7 n7 l7) ∧ Aside0 (n7 ≤ c7) ∧ Aside0 (Kd.C k67 w A8 n8 l8) ∧ Aside0 (n8 ≤ c8) ∧ Aside0 (Below w0.heap.size w0 w)
theorem CBad.mk' {w0 : World} {b : Nat} {w : World} (v : Int) (l : List S70) (g n : Nat) (A7 : Option Addr) (n7 c7 : Nat) (l7 : List S67) (A8 : Option Addr) (n8 c8 : Nat) (l8 : List S67) (hn : l.length = n) (hn7 : l7.length = n7) (hn8 : l8.length = n8) (h1 : cand_Sites.f 60 v l l7 = some ([], 1300)) (h2 : cand_Backs.f v l 0 l8 = some ([], 1300)) (h3 : w.heap[b]? = some (.cells #[.int .i64 v, .slice (some ⟨g, 0, none⟩) n n] 49 (0, 0))) (h4 : Kd.C k70 w (some ⟨g, 0, none⟩) n l) (h5 : Kd.C k67 w A7 n7 l7) (h6 : n7 ≤ c7) (h7 : Kd.C k67 w A8 n8 l8) (h8 : n8 ≤ c8) (h9 : Below w0.heap.size w0 w) : CBad w0 b (.slice A7 n7 c7) (.slice A8 n8 c8) w :=
  ⟨v, l, g, n, A7, n7, c7, l7, A8, n8, c8, l8, rfl, rfl, hn, hn7, hn8, ⟨h1⟩, ⟨h2⟩, ⟨h3⟩, ⟨h4⟩, ⟨h5⟩, ⟨h6⟩, ⟨h7⟩, ⟨h8⟩, ⟨h9⟩⟩
theorem wharfagelaw13_CandForms.hide {P : Program} {c : Code} {Q : Exit → Act → World → Prop} {a : Act} {w : World} (R : World → Prop) (h : R w) (k : ∀ w', R w' → c.wp P Q a w') : c.wp P Q a w := k w h
open Go.Proofs.Ytnocfhnandedoaa.NumMath (and1023 wrap_u64_mod wrap64_in) in
set_option maxHeartbeats 8000000 in
set_option maxRecDepth 100000 in
theorem wharfagelaw13_CandForms.calls (a0 a1 : Int) (r : Bool) (w : World) (h : wharfagelaw13_CandForms.f a0 a1 = some r) :
    Calls Try.prog 9 #[.int .i64 a0, .int .i64 a1] w fun e w' => e = .returned (.bool r) ∧ Below w.heap.size w w' := by
  obtain rfl := Option.some.inj h
  clear h
  have hu := Try.underlying70
  have hu2 := Try.underlying49
  have hu3 := Try.underlying74
  have hu4 := Try.underlying67
  obtain ⟨d, hd, HD⟩ : ∃ d : Int, wrap64 (1 + bits .and .i64 a1 1023) = d ∧ Aside0 (1 ≤ d ∧ d ≤ 1024) := by
    rw [and1023, wrap64_in _ (by omega) (by omega)]
    exact ⟨1 + a1 % 1024, rfl, ⟨by omega⟩⟩
  obtain ⟨p, hp, HP⟩ : ∃ p : Int, (IntKind.u64.wrap a0).tmod 5 = p ∧ Aside0 (0 ≤ p ∧ p < 5) := by
    rw [wrap_u64_mod]
    exact ⟨_, rfl, ⟨by rw [Int.tmod_eq_emod_of_nonneg (by omega)]; omega⟩⟩
  have HB := Aside0.mk (Below.refl w.heap.size w)
  go_enter Try.func9, Try.ntmps9
  go_upto_region 5 with (go_at_call 35; refine (wharfagelaw13_awake.calls 60 true _ (by decide +kernel)).mono ?_; rintro e w1 ⟨rfl, hb⟩; replace HB := Aside0.mk (below_step HB.out hb); clear hb)
  refine wharfagelaw13_CandForms.hide (fun W => Below w1.heap.size w1 W ∧ W.heap[w1.heap.size]? = some (.cells #[.bool true, .int .i64 0] 67 (0, 0))) ⟨below_alloc (Below.refl _ _) _, blk_new _ _⟩ ?_
  intro w2 ⟨hb, hz⟩
  have HU := Aside0.mk hz
  have HWU := Aside0.mk HB.out.size
  replace HB := Aside0.mk (below_step HB.out hb)
  have HS := Aside0.mk (show w1.heap.size < w2.heap.size from blk_lt hz)
  obtain ⟨u, huk⟩ : ∃ u, u = w1.heap.size := ⟨_, rfl⟩
  rw [← huk] at HU HS HWU ⊢
  clear hb hz huk
  have k0 : w2.cell? ⟨u, 0, none⟩ = some (.bool true) := (blk_cell HU.out 0).trans rfl
  have k1 : w2.cell? ⟨u, 1, none⟩ = some (.int .i64 0) := (blk_cell HU.out 1).trans rfl
  have m1 : u ≠ w2.heap.size := by have := HS.out; omega
  have m2 : w2.heap.size ≠ u := by have := HS.out; omega
  have m3 : u ≠ w2.heap.size + 1 := by have := HS.out; omega
  have m4 : w2.heap.size + 1 ≠ u := by have := HS.out; omega
  go_cut [5, 7, 8] (fun s5 p q wx => s5 = .int .i64 d ∧ ∃ x y : Nat, p = .slice (some ⟨x, 0, none⟩) 3 3 ∧ q = .slice (some ⟨y, 0, none⟩) 4 4 ∧ Aside0 (w2.heap.size ≤ x ∧ w2.heap.size ≤ y ∧ x ≠ y) ∧ Aside0 (wx.heap[x]? = some (.cells #[.bool true, .int .i64 0, .bool true, .int .i64 0, .bool true, .int .i64 0] 67 (0, 0))) ∧ Aside0 (wx.heap[y]? = some (.cells #[.bool true, .int .i64 0, .bool true, .int .i64 0, .bool true, .int .i64 0, .bool true, .int .i64 0] 67 (0, 0))) ∧ Aside0 (Below w2.heap.size w2 wx))
  case first =>
    go_region_held3 (fun w' => w'.cell? ⟨u, 0, none⟩ = some (.bool true) ∧ w'.cell? ⟨u, 1, none⟩ = some (.int .i64 0)) (first | (with_reducible exact ⟨k0, k1⟩) | go_keep) (fail)
    all_goals (go_wp2_with fail; go_meet; first
      | exact ⟨rfl, w2.heap.size, w2.heap.size + 1, rfl, rfl, ⟨by omega, by omega, by omega⟩, ⟨blk_alloc (blk_new _ _) _⟩, ⟨cd_new2 _ _ _ _⟩, ⟨below_drew1 (below_alloc (below_alloc (Below.refl _ _) _) _)⟩⟩
      | exact ⟨rfl, w2.heap.size + 1, w2.heap.size, rfl, rfl, ⟨by omega, by omega, by omega⟩, ⟨cd_new2 _ _ _ _⟩, ⟨blk_alloc (blk_new _ _) _⟩, ⟨below_drew1 (below_alloc (below_alloc (Below.refl _ _) _) _)⟩⟩)
  case rest =>
    obtain ⟨rfl, x, y, rfl, rfl, HXY, HX, HY, ⟨hb⟩⟩ := hcut
    clear m1 m2 m3 m4 k0 k1
    replace HU := Aside0.mk (blk_below HU.out hb)
    replace HB := Aside0.mk (below_step HB.out hb)
    clear hb
    have F0 := Aside0.mk trivial
    go_upto_block 0 with (go_at_call 36; clear F0; refine (gv_cells _).mono ?_; rintro e w3 ⟨g0, g1, g2, rfl, hg, h0, h1, h2, hb⟩; have HG := Aside0.mk hg; have H0 := Aside0.mk h0; have H1 := Aside0.mk h1; have H2 := Aside0.mk h2; have HZ3 := Aside0.mk (And.intro (blk_lt HX.out) (blk_lt HY.out)); replace HU := Aside0.mk (blk_below HU.out hb); replace HX := Aside0.mk (blk_below HX.out hb); replace HY := Aside0.mk (blk_below HY.out hb); replace HB := Aside0.mk (below_step HB.out hb); clear hb hg h0 h1 h2)
    refine wharfagelaw13_CandForms.hide (fun W => Below w3.heap.size w3 W ∧ W.heap[w3.heap.size]? = some (.cells #[.int .i64 3, .slice (some ⟨g2, 0, none⟩) 2 2] 49 (0, 0))) ⟨below_alloc (Below.refl _ _) _, blk_new _ _⟩ ?_
    intro w4 ⟨hb, hz⟩
    replace H0 := Aside0.mk (blk_below H0.out hb)
    replace H1 := Aside0.mk (blk_below H1.out hb)
    replace H2 := Aside0.mk (blk_below H2.out hb)
    replace HU := Aside0.mk (blk_below HU.out hb)
    replace HX := Aside0.mk (blk_below HX.out hb)
    replace HY := Aside0.mk (blk_below HY.out hb)
    have HC := Aside0.mk hz
    replace HB := Aside0.mk (below_step HB.out hb)
    have HS4 := Aside0.mk (show w3.heap.size < w4.heap.size from blk_lt hz)
    obtain ⟨b, hbk⟩ : ∃ b, b = w3.heap.size := ⟨_, rfl⟩
    rw [← hbk] at HC HS4 ⊢
    have HG2 := Aside0.mk (show w.heap.size ≤ u ∧ u < x ∧ u < y ∧ x ≠ y ∧ x < g0 ∧ y < g0 ∧ g0 < g1 ∧ g1 < g2 ∧ g2 < b from by have h1 := HG.out; have h2 := HXY.out; have h3 := HZ3.out; have h4 := HS.out; have h5 := HWU.out; omega)
    clear hb hz hbk HG HXY HZ3 HS HWU
    go_cut [5, 7, 8] (fun s5 s7 s8 wx => s5 = .int .i64 d ∧ CBad w b s7 s8 wx ∧ Aside0 (wx.heap[u]? = some (.cells #[.bool true, .int .i64 0] 67 (0, 0))))
    case first =>
      clear hd hp
      have hcs : p = 0 ∨ p = 1 ∨ p = 2 ∨ p = 3 ∨ p = 4 := by have := HP.out; omega
      have kb0 : w4.cell? ⟨b, 0, none⟩ = some (.int .i64 3) := (blk_cell HC.out 0).trans rfl
      have kbf0 : w4.frozen? ⟨b, 0, none⟩ = false := blk_frozen HC.out 0
      have kb1 : w4.cell? ⟨b, 1, none⟩ = some (.slice (some ⟨g2, 0, none⟩) 2 2) := (blk_cell HC.out 1).trans rfl
      have kbf1 : w4.frozen? ⟨b, 1, none⟩ = false := blk_frozen HC.out 1
      have kx0 : w4.cell? ⟨x, 0, none⟩ = some (.bool true) := (blk_cell HX.out 0).trans rfl
      have kxf0 : w4.frozen? ⟨x, 0, none⟩ = false := blk_frozen HX.out 0
      have kx1 : w4.cell? ⟨x, 1, none⟩ = some (.int .i64 0) := (blk_cell HX.out 1).trans rfl
      have kxf1 : w4.frozen? ⟨x, 1, none⟩ = false := blk_frozen HX.out 1
      have kx2 : w4.cell? ⟨x, 2, none⟩ = some (.bool true) := (blk_cell HX.out 2).trans rfl
      have kxf2 : w4.frozen? ⟨x, 2, none⟩ = false := blk_frozen HX.out 2
      have kx3 : w4.cell? ⟨x, 3, none⟩ = some (.int .i64 0) := (blk_cell HX.out 3).trans rfl
      have kxf3 : w4.frozen? ⟨x, 3, none⟩ = false := blk_frozen HX.out 3
      have kx4 : w4.cell? ⟨x, 4, none⟩ = some (.bool true) := (blk_cell HX.out 4).trans rfl
      have kxf4 : w4.frozen? ⟨x, 4, none⟩ = false := blk_frozen HX.out 4
      have kx5 : w4.cell? ⟨x, 5, none⟩ = some (.int .i64 0) := (blk_cell HX.out 5).trans rfl
      have kxf5 : w4.frozen? ⟨x, 5, none⟩ = false := blk_frozen HX.out 5
      have ky0 : w4.cell? ⟨y, 0, none⟩ = some (.bool true) := (blk_cell HY.out 0).trans rfl
      have kyf0 : w4.frozen? ⟨y, 0, none⟩ = false := blk_frozen HY.out 0
      have ky1 : w4.cell? ⟨y, 1, none⟩ = some (.int .i64 0) := (blk_cell HY.out 1).trans rfl
      have kyf1 : w4.frozen? ⟨y, 1, none⟩ = false := blk_frozen HY.out 1
      have ky2 : w4.cell? ⟨y, 2, none⟩ = some (.bool true) := (blk_cell HY.out 2).trans rfl
      have kyf2 : w4.frozen? ⟨y, 2, none⟩ = false := blk_frozen HY.out 2
      have ky3 : w4.cell? ⟨y, 3, none⟩ = some (.int .i64 0) := (blk_cell HY.out 3).trans rfl
      have kyf3 : w4.frozen? ⟨y, 3, none⟩ = false := blk_frozen HY.out 3
      have ky4 : w4.cell? ⟨y, 4, none⟩ = some (.bool true) := (blk_cell HY.out 4).trans rfl
      have kyf4 : w4.frozen? ⟨y, 4, none⟩ = false := blk_frozen HY.out 4
      have ky5 : w4.cell? ⟨y, 5, none⟩ = some (.int .i64 0) := (blk_cell HY.out 5).trans rfl
      have kyf5 : w4.frozen? ⟨y, 5, none⟩ = false := blk_frozen HY.out 5
      have ky6 : w4.cell? ⟨y, 6, none⟩ = some (.bool true) := (blk_cell HY.out 6).trans rfl
      have kyf6 : w4.frozen? ⟨y, 6, none⟩ = false := blk_frozen HY.out 6
      have ky7 : w4.cell? ⟨y, 7, none⟩ = some (.int .i64 0) := (blk_cell HY.out 7).trans rfl
      have kyf7 : w4.frozen? ⟨y, 7, none⟩ = false := blk_frozen HY.out 7
      have k20 : w4.cell? ⟨g2, 0, none⟩ = some (.int .i64 2) := (blk_cell H2.out 0).trans rfl
      have k2f0 : w4.frozen? ⟨g2, 0, none⟩ = false := blk_frozen H2.out 0
      have k21 : w4.cell? ⟨g2, 1, none⟩ = some (.bool false) := (blk_cell H2.out 1).trans rfl
      have k2f1 : w4.frozen? ⟨g2, 1, none⟩ = false := blk_frozen H2.out 1
      have k22 : w4.cell? ⟨g2, 2, none⟩ = some (.int .i64 2) := (blk_cell H2.out 2).trans rfl
      have k2f2 : w4.frozen? ⟨g2, 2, none⟩ = false := blk_frozen H2.out 2
      have k23 : w4.cell? ⟨g2, 3, none⟩ = some (.slice (some ⟨g0, 0, none⟩) 2 2) := (blk_cell H2.out 3).trans rfl
      have k2f3 : w4.frozen? ⟨g2, 3, none⟩ = false := blk_frozen H2.out 3
      have k24 : w4.cell? ⟨g2, 4, none⟩ = some (.int .i64 1) := (blk_cell H2.out 4).trans rfl
      have k2f4 : w4.frozen? ⟨g2, 4, none⟩ = false := blk_frozen H2.out 4
      have k25 : w4.cell? ⟨g2, 5, none⟩ = some (.bool false) := (blk_cell H2.out 5).trans rfl
      have k2f5 : w4.frozen? ⟨g2, 5, none⟩ = false := blk_frozen H2.out 5
      have k26 : w4.cell? ⟨g2, 6, none⟩ = some (.int .i64 4) := (blk_cell H2.out 6).trans rfl
      have k2f6 : w4.frozen? ⟨g2, 6, none⟩ = false := blk_frozen H2.out 6
      have k27 : w4.cell? ⟨g2, 7, none⟩ = some (.slice (some ⟨g1, 0, none⟩) 1 1) := (blk_cell H2.out 7).trans rfl
      have k2f7 : w4.frozen? ⟨g2, 7, none⟩ = false := blk_frozen H2.out 7
      have k00 : w4.cell? ⟨g0, 0, none⟩ = some (.int .i64 1) := (blk_cell H0.out 0).trans rfl
      have k0f0 : w4.frozen? ⟨g0, 0, none⟩ = false := blk_frozen H0.out 0
      have k01 : w4.cell? ⟨g0, 1, none⟩ = some (.bool false) := (blk_cell H0.out 1).trans rfl
      have k0f1 : w4.frozen? ⟨g0, 1, none⟩ = false := blk_frozen H0.out 1
      have k02 : w4.cell? ⟨g0, 2, none⟩ = some (.int .i64 3) := (blk_cell H0.out 2).trans rfl
      have k0f2 : w4.frozen? ⟨g0, 2, none⟩ = false := blk_frozen H0.out 2
      have k03 : w4.cell? ⟨g0, 3, none⟩ = some (.bool false) := (blk_cell H0.out 3).trans rfl
      have k0f3 : w4.frozen? ⟨g0, 3, none⟩ = false := blk_frozen H0.out 3
      have ku0 : w4.cell? ⟨u, 0, none⟩ = some (.bool true) := (blk_cell HU.out 0).trans rfl
      have kuf0 : w4.frozen? ⟨u, 0, none⟩ = false := blk_frozen HU.out 0
      have ku1 : w4.cell? ⟨u, 1, none⟩ = some (.int .i64 0) := (blk_cell HU.out 1).trans rfl
      have kuf1 : w4.frozen? ⟨u, 1, none⟩ = false := blk_frozen HU.out 1
      rcases hcs with rfl | rfl | rfl | rfl | rfl
      · have hg := HG2.out
        have hw : wrap64 (-d) = -d := by have := HD.out; unfold wrap64; omega
        go_wp2_with fail
        go_meet
        refine ⟨rfl, ?_, ⟨(blk_far HU.out (by simp only []; omega) _)⟩⟩
        exact CBad.mk' (-d) ([⟨2, false, 2, [⟨1, false⟩, ⟨3, false⟩]⟩, ⟨1, false, 4, [⟨1, false⟩]⟩] : List S70) g2 2 (some ⟨x, 0, none⟩) 3 3 [⟨true, 0⟩, ⟨true, 0⟩, ⟨true, 0⟩] (some ⟨y, 0, none⟩) 4 4 [⟨true, 0⟩, ⟨true, 0⟩, ⟨true, 0⟩, ⟨true, 0⟩] rfl rfl rfl (cd_s1 _ _ _ (cd_m0 d HD.out _)) (cd_b1 _ _ _ _ (cd_m0 d HD.out _)) (blk_put HC.out 0 _ rfl) (gv_sites _ _ _ _ _ _ (blk_far H2.out (by simp only []; omega) _) (Nat.le_refl _) (gv_backs (blk_far H0.out (by simp only []; omega) _) [⟨1, false⟩, ⟨3, false⟩] (by simp) rfl) (Nat.le_refl _) (gv_backs (blk_far H1.out (by simp only []; omega) _) [⟨1, false⟩] (by simp) rfl)) (cd_hs (blk_far HX.out (by simp only []; omega) _) [⟨true, 0⟩, ⟨true, 0⟩, ⟨true, 0⟩] (by simp) rfl) (by omega) (cd_hs (blk_far HY.out (by simp only []; omega) _) [⟨true, 0⟩, ⟨true, 0⟩, ⟨true, 0⟩, ⟨true, 0⟩] (by simp) rfl) (by omega) (below_set HB.out (by omega))
      · have hg := HG2.out
        go_wp2_with fail
        go_meet
        refine ⟨rfl, ?_, ⟨HU.out⟩⟩
        exact CBad.mk' 3 ([⟨2, false, 2, [⟨1, false⟩, ⟨3, false⟩]⟩, ⟨1, false, 4, [⟨1, false⟩]⟩] : List S70) g2 2 (some ⟨x, 0, none⟩) 2 3 [⟨true, 0⟩, ⟨true, 0⟩] (some ⟨y, 0, none⟩) 3 4 [⟨true, 0⟩, ⟨true, 0⟩, ⟨true, 0⟩] rfl rfl rfl (cd_s2 _ _ _ (by kernel_rfl)) (cd_b2 _ _ _ _ (by decide)) HC.out (gv_sites _ _ _ _ _ _ H2.out (Nat.le_refl _) (gv_backs H0.out [⟨1, false⟩, ⟨3, false⟩] (by simp) rfl) (Nat.le_refl _) (gv_backs H1.out [⟨1, false⟩] (by simp) rfl)) (Go.Proofs.Ytnocfhnandedoaa.Hand.hk_head (xs := ([⟨true, 0⟩, ⟨true, 0⟩] : List S67)) (ys := [⟨true, 0⟩]) (cd_hs HX.out [⟨true, 0⟩, ⟨true, 0⟩, ⟨true, 0⟩] (by simp) rfl) rfl) (by omega) (Go.Proofs.Ytnocfhnandedoaa.Hand.hk_head (xs := ([⟨true, 0⟩, ⟨true, 0⟩, ⟨true, 0⟩] : List S67)) (ys := [⟨true, 0⟩]) (cd_hs HY.out [⟨true, 0⟩, ⟨true, 0⟩, ⟨true, 0⟩, ⟨true, 0⟩] (by simp) rfl) rfl) (by omega) HB.out
      · have hg := HG2.out
        have hw : wrap64 (-d) = -d := by have := HD.out; unfold wrap64; omega
        have hxy : (⟨x, 3, none⟩ : Addr) ≠ ⟨y, 7, none⟩ := by simp
        go_wp2_with fail
        go_meet
        refine ⟨rfl, ?_, ⟨(blk_far (blk_far HU.out (by simp only []; omega) _) (by simp only []; omega) _)⟩⟩
        exact CBad.mk' 3 ([⟨2, false, 2, [⟨1, false⟩, ⟨3, false⟩]⟩, ⟨1, false, 4, [⟨1, false⟩]⟩] : List S70) g2 2 (some ⟨x, 0, none⟩) 3 3 [⟨true, 0⟩, ⟨true, 3⟩, ⟨true, 0⟩] (some ⟨y, 0, none⟩) 4 4 [⟨true, 0⟩, ⟨true, 0⟩, ⟨true, 0⟩, ⟨true, -d⟩] rfl rfl rfl (cd_s2 _ _ _ (by kernel_rfl)) (cd_b2 _ _ _ _ (cd_h d HD.out)) (blk_far (blk_far HC.out (by simp only []; omega) _) (by simp only []; omega) _) (gv_sites _ _ _ _ _ _ (blk_far (blk_far H2.out (by simp only []; omega) _) (by simp only []; omega) _) (Nat.le_refl _) (gv_backs (blk_far (blk_far H0.out (by simp only []; omega) _) (by simp only []; omega) _) [⟨1, false⟩, ⟨3, false⟩] (by simp) rfl) (Nat.le_refl _) (gv_backs (blk_far (blk_far H1.out (by simp only []; omega) _) (by simp only []; omega) _) [⟨1, false⟩] (by simp) rfl)) (cd_hs (blk_far (blk_put HX.out 3 _ rfl) (by simp only []; omega) _) [⟨true, 0⟩, ⟨true, 3⟩, ⟨true, 0⟩] (by simp) rfl) (by omega) (cd_hs (blk_put (blk_far HY.out (by simp only []; omega) _) 7 _ rfl) [⟨true, 0⟩, ⟨true, 0⟩, ⟨true, 0⟩, ⟨true, -d⟩] (by simp) rfl) (by omega) (below_set (below_set HB.out (by omega)) (by omega))
      · have hg := HG2.out
        have q1 : x ≠ y := by omega
        have q2 : ∀ k, w4.heap.size ≤ k → k ≠ y := by have := blk_lt HY.out; intro k hk; omega
        have q_x : w.heap.size ≤ x := by omega
        have q_y : w.heap.size ≤ y := by omega
        have nu : u ≠ x ∧ u ≠ y := by omega
        have ng0 : g0 ≠ x ∧ g0 ≠ y := by omega
        have ng1 : g1 ≠ x ∧ g1 ≠ y := by omega
        have ng2 : g2 ≠ x ∧ g2 ≠ y := by omega
        have nb : b ≠ x ∧ b ≠ y := by omega
        go_wp2_with (first
          | ((with_reducible refine gate_builtin (b := .append) (xs := #[.tmp 69, .tmp 71]) rfl ?_); at_builtin; refine Kd.R_append k67 (w0 := w) w.heap.size rfl (.tmp 69) (.tmp 71) 50 67 (.agg #[.bool false, .int .i64 0]) 16 rfl Try.underlying50 (by kernel_rfl) rfl (by decide) (by omega) (.slice (some ⟨x, 0, none⟩) 3 3) ([⟨true, 0⟩, ⟨true, 0⟩, ⟨true, 0⟩] : List S67) (⟨true, 0⟩ : S67) [.bool true, .int .i64 0] (fun k => k ≠ y) (fun _ => False) rfl rfl (k67_mkM _ _ _ (⟨true, 0⟩ : S67)) (fun _ hk => hk.elim) (q2) (cd_own (fun k => k ≠ y) (q1) HX.out q_x _ rfl (by decide) rfl (Reps.c2 (show Kd.M k67 _ _ _ (⟨true, 0⟩ : S67) [.bool true, .int .i64 0] from k67_mkM _ _ _ (⟨true, 0⟩ : S67)) (Reps.c2 (show Kd.M k67 _ _ _ (⟨true, 0⟩ : S67) [.bool true, .int .i64 0] from k67_mkM _ _ _ (⟨true, 0⟩ : S67)) (Reps.c2 (show Kd.M k67 _ _ _ (⟨true, 0⟩ : S67) [.bool true, .int .i64 0] from k67_mkM _ _ _ (⟨true, 0⟩ : S67)) (Reps.none _ _)))) rfl) HB.out HB.out.size (by decide) ?_; intro vw5 w5 ho hb hg hat; obtain ⟨Aw5, cw5, rfl⟩ := Kd.R_slice ho; have tr : ∀ k, k < w4.heap.size → k ≠ x → w5.heap[k]? = w4.heap[k]? := (fun k hk hne => hg.block k hk (fun h => hne (Option.some.inj h))); replace HB := Aside0.mk (hb); have zHU := blk_lt HU.out; replace HU := Aside0.mk ((tr _ zHU nu.1).trans HU.out); have zHY := blk_lt HY.out; replace HY := Aside0.mk ((tr _ zHY q1.symm).trans HY.out); have zH0 := blk_lt H0.out; replace H0 := Aside0.mk ((tr _ zH0 ng0.1).trans H0.out); have zH1 := blk_lt H1.out; replace H1 := Aside0.mk ((tr _ zH1 ng1.1).trans H1.out); have zH2 := blk_lt H2.out; replace H2 := Aside0.mk ((tr _ zH2 ng2.1).trans H2.out); have zHC := blk_lt HC.out; replace HC := Aside0.mk ((tr _ zHC nb.1).trans HC.out); have HO7 := Aside0.mk ho; replace ku0 : w5.cell? ⟨u, 0, none⟩ = some (.bool true) := (blk_cell HU.out 0).trans rfl; replace ku1 : w5.cell? ⟨u, 1, none⟩ = some (.int .i64 0) := (blk_cell HU.out 1).trans rfl; clear tr ho hb hg hat)
          | ((with_reducible refine gate_builtin (b := .append) (xs := #[.tmp 73, .tmp 75]) rfl ?_); at_builtin; refine Kd.R_append k67 (w0 := w) w.heap.size rfl (.tmp 73) (.tmp 75) 50 67 (.agg #[.bool false, .int .i64 0]) 16 rfl Try.underlying50 (by kernel_rfl) rfl (by decide) (by omega) (.slice (some ⟨y, 0, none⟩) 4 4) ([⟨true, 0⟩, ⟨true, 0⟩, ⟨true, 0⟩, ⟨true, 0⟩] : List S67) (⟨true, 0⟩ : S67) [.bool true, .int .i64 0] (fun _ => True) (fun _ => False) rfl rfl (k67_mkM _ _ _ (⟨true, 0⟩ : S67)) (fun _ hk => hk.elim) (fun _ _ => trivial) (cd_own (fun _ => True) (trivial) HY.out q_y _ rfl (by decide) rfl (Reps.c2 (show Kd.M k67 _ _ _ (⟨true, 0⟩ : S67) [.bool true, .int .i64 0] from k67_mkM _ _ _ (⟨true, 0⟩ : S67)) (Reps.c2 (show Kd.M k67 _ _ _ (⟨true, 0⟩ : S67) [.bool true, .int .i64 0] from k67_mkM _ _ _ (⟨true, 0⟩ : S67)) (Reps.c2 (show Kd.M k67 _ _ _ (⟨true, 0⟩ : S67) [.bool true, .int .i64 0] from k67_mkM _ _ _ (⟨true, 0⟩ : S67)) (Reps.c2 (show Kd.M k67 _ _ _ (⟨true, 0⟩ : S67) [.bool true, .int .i64 0] from k67_mkM _ _ _ (⟨true, 0⟩ : S67)) (Reps.none _ _))))) rfl) HB.out HB.out.size (by decide) ?_; intro vw6 w6 ho hb hg hat; obtain ⟨Aw6, cw6, rfl⟩ := Kd.R_slice ho; have tr : ∀ k, k < w5.heap.size → k ≠ y → w6.heap[k]? = w5.heap[k]? := (fun k hk hne => hg.block k hk (fun h => hne (Option.some.inj h))); replace HB := Aside0.mk (hb); have zHU := blk_lt HU.out; replace HU := Aside0.mk ((tr _ zHU nu.2).trans HU.out); have zH0 := blk_lt H0.out; replace H0 := Aside0.mk ((tr _ zH0 ng0.2).trans H0.out); have zH1 := blk_lt H1.out; replace H1 := Aside0.mk ((tr _ zH1 ng1.2).trans H1.out); have zH2 := blk_lt H2.out; replace H2 := Aside0.mk ((tr _ zH2 ng2.2).trans H2.out); have zHC := blk_lt HC.out; replace HC := Aside0.mk ((tr _ zHC nb.2).trans HC.out); replace HO7 := Aside0.mk (Kd.R_grown HO7.out hg (fun k hk e => hk (Option.some.inj e))); have HO8 := Aside0.mk ho; clear tr ho hb hg hat))
        go_meet
        refine ⟨rfl, ?_, ⟨HU.out⟩⟩
        exact CBad.mk' 3 ([⟨2, false, 2, [⟨1, false⟩, ⟨3, false⟩]⟩, ⟨1, false, 4, [⟨1, false⟩]⟩] : List S70) g2 2 Aw5 4 cw5 [⟨true, 0⟩, ⟨true, 0⟩, ⟨true, 0⟩, ⟨true, 0⟩] Aw6 5 cw6 [⟨true, 0⟩, ⟨true, 0⟩, ⟨true, 0⟩, ⟨true, 0⟩, ⟨true, 0⟩] rfl rfl rfl (cd_s2 _ _ _ (by kernel_rfl)) (cd_b2 _ _ _ _ (by decide)) HC.out (gv_sites _ _ _ _ _ _ H2.out (Nat.le_refl _) (gv_backs H0.out [⟨1, false⟩, ⟨3, false⟩] (by simp) rfl) (Nat.le_refl _) (gv_backs H1.out [⟨1, false⟩] (by simp) rfl)) (Kd.R_reads' HO7.out).2.2 (Kd.R_reads' HO7.out).2.1 (Kd.R_reads' HO8.out).2.2 (Kd.R_reads' HO8.out).2.1 HB.out
      · have hg := HG2.out
        have hw : wrap64 (16 + d) = 16 + d := by have := HD.out; unfold wrap64; omega
        go_wp2_with fail
        go_meet
        refine ⟨rfl, ?_, ⟨(blk_far HU.out (by simp only []; omega) _)⟩⟩
        exact CBad.mk' 3 ([⟨2, false, 2, [⟨16 + d, false⟩, ⟨3, false⟩]⟩, ⟨1, false, 4, [⟨1, false⟩]⟩] : List S70) g2 2 (some ⟨x, 0, none⟩) 3 3 [⟨true, 0⟩, ⟨true, 0⟩, ⟨true, 0⟩] (some ⟨y, 0, none⟩) 4 4 [⟨true, 0⟩, ⟨true, 0⟩, ⟨true, 0⟩, ⟨true, 0⟩] rfl rfl rfl (cd_s1 _ _ _ (cd_m4 d HD.out 3)) (cd_b1 _ _ _ _ (cd_m4 d HD.out 3)) (blk_far HC.out (by simp only []; omega) _) (gv_sites _ _ _ _ _ _ (blk_far H2.out (by simp only []; omega) _) (Nat.le_refl _) (gv_backs (blk_put H0.out 0 _ rfl) [⟨16 + d, false⟩, ⟨3, false⟩] (by simp) rfl) (Nat.le_refl _) (gv_backs (blk_far H1.out (by simp only []; omega) _) [⟨1, false⟩] (by simp) rfl)) (cd_hs (blk_far HX.out (by simp only []; omega) _) [⟨true, 0⟩, ⟨true, 0⟩, ⟨true, 0⟩] (by simp) rfl) (by omega) (cd_hs (blk_far HY.out (by simp only []; omega) _) [⟨true, 0⟩, ⟨true, 0⟩, ⟨true, 0⟩, ⟨true, 0⟩] (by simp) rfl) (by omega) (below_set HB.out (by omega))
    case rest =>
      obtain ⟨rfl, ⟨v, l, g, n, A7, n7, c7, l7, A8, n8, c8, l8, rfl, rfl, rfl, rfl, rfl, HS1, HB1, HC2, HR, HR7, L7, HR8, L8, HB2⟩, HU2⟩ := hcut
      clear HB HU HX HY H0 H1 H2 HC hd hp
      have k0 : wc.cell? ⟨b, 0, none⟩ = some (.int .i64 v) := (blk_cell HC2.out 0).trans rfl
      have k1 : wc.cell? ⟨b, 1, none⟩ = some (.slice (some ⟨g, 0, none⟩) l.length l.length) := (blk_cell HC2.out 1).trans rfl
      have ku0 : wc.cell? ⟨u, 0, none⟩ = some (.bool true) := (blk_cell HU2.out 0).trans rfl
      have ku1 : wc.cell? ⟨u, 1, none⟩ = some (.int .i64 0) := (blk_cell HU2.out 1).trans rfl
      go_upto_region 22 with (first
        | (go_at_call 27; (with_reducible refine calls_of_args (args' := #[Value.agg #[Value.int IntKind.i64 v, Value.slice (some ⟨g, 0, none⟩) l.length l.length], Value.slice A7 l7.length c7]) rfl ?_); refine (cand_Sites.calls 60 v (some ⟨g, 0, none⟩) l.length l A7 c7 l7 [] 1300 _ HR.out (Nat.le_refl _) HR7.out L7.out HS1.out).mono ?_; rintro e w5 ⟨v5, rfl, ho, hb⟩; obtain ⟨A5, n5, rfl⟩ := Kd.R_slice ho; clear HS1 HR7; have hcb := hb; replace k0 := pw_cell_below hcb k0; replace k1 := pw_cell_below hcb k1; replace ku0 := pw_cell_below hcb ku0; replace ku1 := pw_cell_below hcb ku1; replace HU2 := Aside0.mk (blk_below HU2.out hcb); replace HR := Aside0.mk (Kd.C_below HR.out hcb); replace HR8 := Aside0.mk (Kd.C_below HR8.out hcb); replace HB2 := Aside0.mk (below_step HB2.out hcb); clear hcb; clear ho hb)
        | (go_at_call 29; (with_reducible refine calls_of_args (args' := #[Value.agg #[Value.int IntKind.i64 v, Value.slice (some ⟨g, 0, none⟩) l.length l.length], Value.int IntKind.i64 0, Value.slice A8 l8.length c8]) rfl ?_); refine (cand_Backs.calls v (some ⟨g, 0, none⟩) l.length l 0 A8 c8 l8 [] 1300 _ HR.out (Nat.le_refl _) HR8.out L8.out HB1.out).mono ?_; rintro e w6 ⟨v6, rfl, ho, hb⟩; obtain ⟨A6, n6, rfl⟩ := Kd.R_slice ho; clear HB1; have hcb := hb; replace k0 := pw_cell_below hcb k0; replace k1 := pw_cell_below hcb k1; replace ku0 := pw_cell_below hcb ku0; replace ku1 := pw_cell_below hcb ku1; replace HU2 := Aside0.mk (blk_below HU2.out hcb); replace HR := Aside0.mk (Kd.C_below HR.out hcb); replace HR8 := Aside0.mk (Kd.C_below HR8.out hcb); replace HB2 := Aside0.mk (below_step HB2.out hcb); clear hcb; clear ho hb))
      clear k0 k1 HR HR8 HC2 L7 L8
      have HX := Aside0.mk (Below.refl w6.heap.size w6)
      have HLT := Aside0.mk (show u < w6.heap.size from blk_lt HU2.out)
      have m1 : u ≠ w6.heap.size := by have := HLT.out; omega
      have m2 : w6.heap.size ≠ u := by have := HLT.out; omega
      go_cut [14, 15] (fun p q wx => q = .int .i64 1300 ∧ Aside0 (Below w6.heap.size w6 wx))
      case first =>
        have hi3 : IntKind.i64.wrap (-d) < 0 ∨ 2 ≤ IntKind.i64.wrap (-d) := by have := HD.out; rw [IntKind.wrap_i64]; omega
        go_region_held3 (fun w' => w'.cell? ⟨u, 0, none⟩ = some (.bool true) ∧ w'.cell? ⟨u, 1, none⟩ = some (.int .i64 0)) (first | (with_reducible exact ⟨ku0, ku1⟩) | go_keep) (first | (go_at_call 36; (with_reducible refine (wharfagelaw13_given.calls 3 cdG (w6.alloc (Obj.cells #[Value.bool true, Value.int IntKind.i64 0, Value.bool true, Value.int IntKind.i64 0, Value.bool true, Value.int IntKind.i64 0, Value.bool true, Value.int IntKind.i64 0] 67)).drew rfl).mono ?_); rintro e w7 ⟨v7, rfl, ho, hb⟩; have HL := Aside0.mk (Kd.C_below (show Kd.C k67 (w6.alloc (Obj.cells #[Value.bool true, Value.int IntKind.i64 0, Value.bool true, Value.int IntKind.i64 0, Value.bool true, Value.int IntKind.i64 0, Value.bool true, Value.int IntKind.i64 0] 67)).drew (some ⟨w6.heap.size, 0, none⟩) 4 ([⟨true, 0⟩, ⟨true, 0⟩, ⟨true, 0⟩, ⟨true, 0⟩] : List S67) from Kd.C_below (cd_lit w6) (by first | exact below_drew1 (Below.refl _ _) | exact Below.refl _ _)) hb); obtain ⟨A7, n7, rfl⟩ := Kd.N_slice ho; have L7 := Aside0.mk (Kd.N_reads' ho).2.1; have R7 := Aside0.mk (Kd.N_reads' ho).2.2; replace HX := Aside0.mk (show Below w6.heap.size w6 w7 from below_step (below_drew1 (below_alloc HX.out _)) hb); have mw71 : u ≠ w7.heap.size := (by have h1 := HLT.out; have h2 := HX.out.size; omega); have mw72 : w7.heap.size ≠ u := (by have h1 := HLT.out; have h2 := HX.out.size; omega); replace ku0 : w7.cell? ⟨u, 0, none⟩ = some (.bool true) := (blk_cell (blk_below HU2.out HX.out) 0).trans rfl; replace ku1 : w7.cell? ⟨u, 1, none⟩ = some (.int .i64 0) := (blk_cell (blk_below HU2.out HX.out) 1).trans rfl; clear ho hb) | (go_at_call 36; (with_reducible refine (wharfagelaw13_given.calls 3 cdG (w6.drew.alloc (Obj.cells #[Value.bool true, Value.int IntKind.i64 0, Value.bool true, Value.int IntKind.i64 0, Value.bool true, Value.int IntKind.i64 0, Value.bool true, Value.int IntKind.i64 0] 67)) rfl).mono ?_); rintro e w7 ⟨v7, rfl, ho, hb⟩; have HL := Aside0.mk (Kd.C_below (show Kd.C k67 (w6.drew.alloc (Obj.cells #[Value.bool true, Value.int IntKind.i64 0, Value.bool true, Value.int IntKind.i64 0, Value.bool true, Value.int IntKind.i64 0, Value.bool true, Value.int IntKind.i64 0] 67)) (some ⟨w6.heap.size, 0, none⟩) 4 ([⟨true, 0⟩, ⟨true, 0⟩, ⟨true, 0⟩, ⟨true, 0⟩] : List S67) from Kd.C_below (cd_lit w6) (by first | exact below_drew1 (Below.refl _ _) | exact Below.refl _ _)) hb); obtain ⟨A7, n7, rfl⟩ := Kd.N_slice ho; have L7 := Aside0.mk (Kd.N_reads' ho).2.1; have R7 := Aside0.mk (Kd.N_reads' ho).2.2; replace HX := Aside0.mk (show Below w6.heap.size w6 w7 from below_step (below_alloc (below_drew1 HX.out) _) hb); have mw71 : u ≠ w7.heap.size := (by have h1 := HLT.out; have h2 := HX.out.size; omega); have mw72 : w7.heap.size ≠ u := (by have h1 := HLT.out; have h2 := HX.out.size; omega); replace ku0 : w7.cell? ⟨u, 0, none⟩ = some (.bool true) := (blk_cell (blk_below HU2.out HX.out) 0).trans rfl; replace ku1 : w7.cell? ⟨u, 1, none⟩ = some (.int .i64 0) := (blk_cell (blk_below HU2.out HX.out) 1).trans rfl; clear ho hb) | (go_at_call 36; (with_reducible refine (wharfagelaw13_given.calls 3 cdG w6.drew rfl).mono ?_); rintro e w7 ⟨v7, rfl, ho, hb⟩; obtain ⟨A7, n7, rfl⟩ := Kd.N_slice ho; have L7 := Aside0.mk (Kd.N_reads' ho).2.1; have R7 := Aside0.mk (Kd.N_reads' ho).2.2; replace HX := Aside0.mk (show Below w6.heap.size w6 w7 from below_step (below_drew1 HX.out) hb); have mw71 : u ≠ w7.heap.size := (by have h1 := HLT.out; have h2 := HX.out.size; omega); have mw72 : w7.heap.size ≠ u := (by have h1 := HLT.out; have h2 := HX.out.size; omega); replace ku0 : w7.cell? ⟨u, 0, none⟩ = some (.bool true) := (blk_cell (blk_below HU2.out HX.out) 0).trans rfl; replace ku1 : w7.cell? ⟨u, 1, none⟩ = some (.int .i64 0) := (blk_cell (blk_below HU2.out HX.out) 1).trans rfl; clear ho hb) | (go_at_call 29; (with_reducible refine (cd_backs _ A7 n7 ⟨w7.heap.size, 0, none⟩ (w7.alloc (Obj.cells #[Value.bool true, Value.int IntKind.i64 0, Value.bool true, Value.int IntKind.i64 0, Value.bool true, Value.int IntKind.i64 0, Value.bool true, Value.int IntKind.i64 0] 67)) (Kd.C_below R7.out (below_alloc (Below.refl _ _) _)) L7.out (cd_lit w7) hi3).mono ?_); rintro e w8 ⟨v8, rfl, ho, hb⟩; obtain ⟨A8, n8, rfl⟩ := Kd.R_slice ho; replace HX := Aside0.mk (show Below w6.heap.size w6 w8 from below_step (below_alloc HX.out _) hb); have mw81 : u ≠ w8.heap.size := (by have h1 := HLT.out; have h2 := HX.out.size; omega); have mw82 : w8.heap.size ≠ u := (by have h1 := HLT.out; have h2 := HX.out.size; omega); replace ku0 : w8.cell? ⟨u, 0, none⟩ = some (.bool true) := (blk_cell (blk_below HU2.out HX.out) 0).trans rfl; replace ku1 : w8.cell? ⟨u, 1, none⟩ = some (.int .i64 0) := (blk_cell (blk_below HU2.out HX.out) 1).trans rfl; clear ho hb) | (go_at_call 29; (with_reducible refine (cd_backs _ A7 n7 ⟨w6.heap.size, 0, none⟩ w7 R7.out L7.out HL.out hi3).mono ?_); rintro e w8 ⟨v8, rfl, ho, hb⟩; obtain ⟨A8, n8, rfl⟩ := Kd.R_slice ho; replace HX := Aside0.mk (show Below w6.heap.size w6 w8 from below_step HX.out hb); have mw81 : u ≠ w8.heap.size := (by have h1 := HLT.out; have h2 := HX.out.size; omega); have mw82 : w8.heap.size ≠ u := (by have h1 := HLT.out; have h2 := HX.out.size; omega); replace ku0 : w8.cell? ⟨u, 0, none⟩ = some (.bool true) := (blk_cell (blk_below HU2.out HX.out) 0).trans rfl; replace ku1 : w8.cell? ⟨u, 1, none⟩ = some (.int .i64 0) := (blk_cell (blk_below HU2.out HX.out) 1).trans rfl; clear ho hb))
        all_goals (go_wp2_with fail; go_meet; refine ⟨rfl, ⟨?_⟩⟩; repeat (first | exact HX.out | refine below_alloc ?_ _ | refine below_drew1 ?_))
      case rest =>
        obtain ⟨rfl, ⟨hcb⟩⟩ := hcut
        clear HX HLT m1 m2 ku0 ku1
        replace HU2 := Aside0.mk (blk_below HU2.out hcb)
        replace HB2 := Aside0.mk (below_step HB2.out hcb)
        clear hcb
        have ku0 : wc.cell? ⟨u, 0, none⟩ = some (.bool true) := (blk_cell HU2.out 0).trans rfl
        have ku1 : wc.cell? ⟨u, 1, none⟩ = some (.int .i64 0) := (blk_cell HU2.out 1).trans rfl
        go_upto_region 23 with fail
        have HX := Aside0.mk (Below.refl wc.heap.size wc)
        have HLT := Aside0.mk (show u < wc.heap.size from blk_lt HU2.out)
        have m1 : u ≠ wc.heap.size := by have := HLT.out; omega
        have m2 : wc.heap.size ≠ u := by have := HLT.out; omega
        go_cut [16, 17] (fun p q wx => q = .int .i64 1300 ∧ Aside0 (Below wc.heap.size wc wx))
        case first =>
          have hi3 : IntKind.i64.wrap (1 + d) < 0 ∨ 2 ≤ IntKind.i64.wrap (1 + d) := by have := HD.out; rw [IntKind.wrap_i64]; omega
          go_region_held3 (fun w' => w'.cell? ⟨u, 0, none⟩ = some (.bool true) ∧ w'.cell? ⟨u, 1, none⟩ = some (.int .i64 0)) (first | (with_reducible exact ⟨ku0, ku1⟩) | go_keep) (first | (go_at_call 36; (with_reducible refine (wharfagelaw13_given.calls 3 cdG (wc.alloc (Obj.cells #[Value.bool true, Value.int IntKind.i64 0, Value.bool true, Value.int IntKind.i64 0, Value.bool true, Value.int IntKind.i64 0, Value.bool true, Value.int IntKind.i64 0] 67)).drew rfl).mono ?_); rintro e w7 ⟨v7, rfl, ho, hb⟩; have HL := Aside0.mk (Kd.C_below (show Kd.C k67 (wc.alloc (Obj.cells #[Value.bool true, Value.int IntKind.i64 0, Value.bool true, Value.int IntKind.i64 0, Value.bool true, Value.int IntKind.i64 0, Value.bool true, Value.int IntKind.i64 0] 67)).drew (some ⟨wc.heap.size, 0, none⟩) 4 ([⟨true, 0⟩, ⟨true, 0⟩, ⟨true, 0⟩, ⟨true, 0⟩] : List S67) from Kd.C_below (cd_lit wc) (by first | exact below_drew1 (Below.refl _ _) | exact Below.refl _ _)) hb); obtain ⟨A7, n7, rfl⟩ := Kd.N_slice ho; have L7 := Aside0.mk (Kd.N_reads' ho).2.1; have R7 := Aside0.mk (Kd.N_reads' ho).2.2; replace HX := Aside0.mk (show Below wc.heap.size wc w7 from below_step (below_drew1 (below_alloc HX.out _)) hb); have mw71 : u ≠ w7.heap.size := (by have h1 := HLT.out; have h2 := HX.out.size; omega); have mw72 : w7.heap.size ≠ u := (by have h1 := HLT.out; have h2 := HX.out.size; omega); replace ku0 : w7.cell? ⟨u, 0, none⟩ = some (.bool true) := (blk_cell (blk_below HU2.out HX.out) 0).trans rfl; replace ku1 : w7.cell? ⟨u, 1, none⟩ = some (.int .i64 0) := (blk_cell (blk_below HU2.out HX.out) 1).trans rfl; clear ho hb) | (go_at_call 36; (with_reducible refine (wharfagelaw13_given.calls 3 cdG (wc.drew.alloc (Obj.cells #[Value.bool true, Value.int IntKind.i64 0, Value.bool true, Value.int IntKind.i64 0, Value.bool true, Value.int IntKind.i64 0, Value.bool true, Value.int IntKind.i64 0] 67)) rfl).mono ?_); rintro e w7 ⟨v7, rfl, ho, hb⟩; have HL := Aside0.mk (Kd.C_below (show Kd.C k67 (wc.drew.alloc (Obj.cells #[Value.bool true, Value.int IntKind.i64 0, Value.bool true, Value.int IntKind.i64 0, Value.bool true, Value.int IntKind.i64 0, Value.bool true, Value.int IntKind.i64 0] 67)) (some ⟨wc.heap.size, 0, none⟩) 4 ([⟨true, 0⟩, ⟨true, 0⟩, ⟨true, 0⟩, ⟨true, 0⟩] : List S67) from Kd.C_below (cd_lit wc) (by first | exact below_drew1 (Below.refl _ _) | exact Below.refl _ _)) hb); obtain ⟨A7, n7, rfl⟩ := Kd.N_slice ho; have L7 := Aside0.mk (Kd.N_reads' ho).2.1; have R7 := Aside0.mk (Kd.N_reads' ho).2.2; replace HX := Aside0.mk (show Below wc.heap.size wc w7 from below_step (below_alloc (below_drew1 HX.out) _) hb); have mw71 : u ≠ w7.heap.size := (by have h1 := HLT.out; have h2 := HX.out.size; omega); have mw72 : w7.heap.size ≠ u := (by have h1 := HLT.out; have h2 := HX.out.size; omega); replace ku0 : w7.cell? ⟨u, 0, none⟩ = some (.bool true) := (blk_cell (blk_below HU2.out HX.out) 0).trans rfl; replace ku1 : w7.cell? ⟨u, 1, none⟩ = some (.int .i64 0) := (blk_cell (blk_below HU2.out HX.out) 1).trans rfl; clear ho hb) | (go_at_call 36; (with_reducible refine (wharfagelaw13_given.calls 3 cdG wc.drew rfl).mono ?_); rintro e w7 ⟨v7, rfl, ho, hb⟩; obtain ⟨A7, n7, rfl⟩ := Kd.N_slice ho; have L7 := Aside0.mk (Kd.N_reads' ho).2.1; have R7 := Aside0.mk (Kd.N_reads' ho).2.2; replace HX := Aside0.mk (show Below wc.heap.size wc w7 from below_step (below_drew1 HX.out) hb); have mw71 : u ≠ w7.heap.size := (by have h1 := HLT.out; have h2 := HX.out.size; omega); have mw72 : w7.heap.size ≠ u := (by have h1 := HLT.out; have h2 := HX.out.size; omega); replace ku0 : w7.cell? ⟨u, 0, none⟩ = some (.bool true) := (blk_cell (blk_below HU2.out HX.out) 0).trans rfl; replace ku1 : w7.cell? ⟨u, 1, none⟩ = some (.int .i64 0) := (blk_cell (blk_below HU2.out HX.out) 1).trans rfl; clear ho hb) | (go_at_call 29; (with_reducible refine (cd_backs _ A7 n7 ⟨w7.heap.size, 0, none⟩ (w7.alloc (Obj.cells #[Value.bool true, Value.int IntKind.i64 0, Value.bool true, Value.int IntKind.i64 0, Value.bool true, Value.int IntKind.i64 0, Value.bool true, Value.int IntKind.i64 0] 67)) (Kd.C_below R7.out (below_alloc (Below.refl _ _) _)) L7.out (cd_lit w7) hi3).mono ?_); rintro e w8 ⟨v8, rfl, ho, hb⟩; obtain ⟨A8, n8, rfl⟩ := Kd.R_slice ho; replace HX := Aside0.mk (show Below wc.heap.size wc w8 from below_step (below_alloc HX.out _) hb); have mw81 : u ≠ w8.heap.size := (by have h1 := HLT.out; have h2 := HX.out.size; omega); have mw82 : w8.heap.size ≠ u := (by have h1 := HLT.out; have h2 := HX.out.size; omega); replace ku0 : w8.cell? ⟨u, 0, none⟩ = some (.bool true) := (blk_cell (blk_below HU2.out HX.out) 0).trans rfl; replace ku1 : w8.cell? ⟨u, 1, none⟩ = some (.int .i64 0) := (blk_cell (blk_below HU2.out HX.out) 1).trans rfl; clear ho hb) | (go_at_call 29; (with_reducible refine (cd_backs _ A7 n7 ⟨wc.heap.size, 0, none⟩ w7 R7.out L7.out HL.out hi3).mono ?_); rintro e w8 ⟨v8, rfl, ho, hb⟩; obtain ⟨A8, n8, rfl⟩ := Kd.R_slice ho; replace HX := Aside0.mk (show Below wc.heap.size wc w8 from below_step HX.out hb); have mw81 : u ≠ w8.heap.size := (by have h1 := HLT.out; have h2 := HX.out.size; omega); have mw82 : w8.heap.size ≠ u := (by have h1 := HLT.out; have h2 := HX.out.size; omega); replace ku0 : w8.cell? ⟨u, 0, none⟩ = some (.bool true) := (blk_cell (blk_below HU2.out HX.out) 0).trans rfl; replace ku1 : w8.cell? ⟨u, 1, none⟩ = some (.int .i64 0) := (blk_cell (blk_below HU2.out HX.out) 1).trans rfl; clear ho hb))
          all_goals (go_wp2_with fail; go_meet; refine ⟨rfl, ⟨?_⟩⟩; repeat (first | exact HX.out | refine below_alloc ?_ _ | refine below_drew1 ?_))
        case rest =>
          obtain ⟨rfl, ⟨hcb⟩⟩ := hcut
          clear HX HLT m1 m2 ku0 ku1
          replace HU2 := Aside0.mk (blk_below HU2.out hcb)
          replace HB2 := Aside0.mk (below_step HB2.out hcb)
          clear hcb
          go_wp2_with (go_at_call 21; refine (wharfagelaw0_Num.calls _ _ _ rfl).mono ?_; rintro e wn ⟨rfl, hn⟩; have hbn := drawn0_below' hn; replace HB2 := Aside0.mk (below_step HB2.out hbn); clear hbn hn)
          go_ret
          exact ⟨ret_bool rfl, HB2.out⟩


end Go.Proofs.Ytnocfhnandedoaa.PCandForms
