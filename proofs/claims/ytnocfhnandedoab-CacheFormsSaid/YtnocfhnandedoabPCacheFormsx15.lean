/- Contracts: what calls of these functions of the program do, each as a plain function; written by a program of this session. -/
import Derived.Test.YtnocfhnandedoabPCacheFormsx0
import Derived.Test.YtnocfhnandedoabPCacheFormsx2
import Derived.Test.YtnocfhnandedoabPCacheFormsx3
import Derived.Test.YtnocfhnandedoabPCacheFormsx4
import Derived.Test.YtnocfhnandedoabPCacheFormsx5
import Derived.Test.YtnocfhnandedoabPCacheFormsx6
import Derived.Test.YtnocfhnandedoabPCacheFormsx8
import Derived.Test.YtnocfhnandedoabPCacheFormsx9
import Derived.Test.YtnocfhnandedoabPCacheFormsx10
import Derived.Test.YtnocfhnandedoabPCacheFormsx11
import Derived.Test.YtnocfhnandedoabPCacheFormsx12
import Derived.Test.YtnocfhnandedoabPCacheFormsx14
namespace Go.Proofs.Ytnocfhnandedoab.PCacheForms
open Go.RowKit Go.Proofs.YtnocfhnandedoabW.PrintWords Go.Proofs.YtnocfhnandedoabW.PrintLast Go.Proofs.YtnocfhnandedoabW.PrintMore
attribute [local go_sem] max2_int min2_int max_two min_two max_three min_three max_four min_four   -- for this text's walks alone
set_option linter.unusedVariables false
set_option linter.unusedSimpArgs false

/-! ### wharfagelaw16_CacheForms: function 6, by hand -/
def wharfagelaw16_CacheForms.f (a0 a1 : Int) : Option Bool := some true
theorem gv_flat {α : Type} {d : Kd α} {w : World} {g : Nat} {cs : Array Value} {t : TypeId} {fz : Nat × Nat} (h : w.heap[g]? = some (.cells cs t fz)) (enc : α → List Value) (hsz : ∀ x, (enc x).length = d.sz) (hK : ∀ x, d.K w x (enc x)) (xs : List α) (hl : xs.length ≤ 9223372036854775807) (hcs : cs.toList = xs.flatMap enc) : Kd.C d w (some ⟨g, 0, none⟩) xs.length xs :=
  Go.Proofs.Ytnocfhnandedoab.Hand.hk_cells enc hsz hK _ xs hl (fun k u hu => by
    rw [Go.Proofs.Ytnocfhnandedoab.Hand.hk_add0, Nat.zero_add, World.cell?, h]
    rw [← hcs] at hu
    simpa using hu)
theorem nd_get {α : Type} {d : Kd α} (enc : α → List Value) (hop : ∀ w x cs, d.K w x cs → cs = enc x) {w : World} {g n : Nat} {xs : List α} (h : Kd.C d w (some ⟨g, 0, none⟩) n xs) (k j i : Nat) (p : α) (u : Value) (hp : xs[j]? = some p) (hu : (enc p)[i]? = some u) (hk : k = j * d.sz + i) : w.cell? ⟨g, k, none⟩ = some u := by
  subst hk
  have hj0 : j < xs.length := (List.getElem?_eq_some_iff.1 hp).1
  obtain ⟨ad, e, hr⟩ := h.2.2 (by have := h.1; omega)
  cases e
  obtain ⟨c, _, hc, hcell⟩ := hr j p hp
  have hcc := hop _ _ _ hc
  subst hcc
  have h9 := hcell i u hu
  rwa [Go.Proofs.Ytnocfhnandedoab.Hand.hk_add0, Nat.zero_add] at h9
theorem nd_own {α : Type} {d : Kd α} {e : Nat} {W : World} {base : Nat} {ok : Nat → Prop} {v : Value} {xs : List α} (h : Kd.R d e W base ok v xs) (hn : 0 < xs.length) : ∃ g cap cur, v = .slice (some ⟨g, 0, none⟩) xs.length cap ∧ base ≤ g ∧ W.heap[g]? = some (.cells cur e (0, 0)) ∧ xs.length ≤ cap ∧ Kd.C d W (some ⟨g, 0, none⟩) xs.length xs := by
  have hr := h
  obtain ⟨_, inner, ⟨_, ho⟩, _⟩ := h
  rcases ho with ⟨_, h0⟩ | ⟨g, cap, cur, rfl, hg, hh, hc, _⟩
  · omega
  · exact ⟨g, cap, cur, rfl, hg, hh, hc, (Kd.R_reads' hr).2.2⟩
def encE (x : S37) : List Value := [.int .i64 x.f0.f0, .int .i64 x.f0.f1, .int .i64 x.f0.f2, .int .i64 x.f0.f3, .int .i64 x.f0.f4, .int .i64 x.f1, .bool x.f2, .int .i64 x.f3, .int .i64 x.f4]
theorem ndE_get {w : World} {g n : Nat} {xs : List S37} (h : Kd.C k37 w (some ⟨g, 0, none⟩) n xs) (k j i : Nat) (p : S37) (u : Value) (hp : xs[j]? = some p) (hu : (encE p)[i]? = some u) (hk : k = j * 9 + i) : w.cell? ⟨g, k, none⟩ = some u :=
  nd_get encE (fun _ _ _ h => k37_open h) h k j i p u hp hu hk
def manyL (i : Nat) : List S37 := (List.range i).map (fun (j : Nat) => (⟨⟨(j : Int), 167772161, 6, 7, 80⟩, 0, false, 0, 0⟩ : S37))
theorem manyL_succ (i : Nat) : manyL (i + 1) = manyL i ++ [(⟨⟨(i : Int), 167772161, 6, 7, 80⟩, 0, false, 0, 0⟩ : S37)] := by simp [manyL, List.range_succ]
theorem manyL_len (i : Nat) : (manyL i).length = i := by simp [manyL]
set_option maxHeartbeats 8000000 in
set_option maxRecDepth 100000 in
theorem fl_same (a : Int) (w : World) : Calls Try.prog 37 #[.int .i64 a] w fun e w' => e = .returned (.agg #[.int .i64 a, .int .i64 167772161, .int .i64 6, .int .i64 7, .int .i64 80]) ∧ w' = w.alloc (.cells #[.int .i64 a, .int .i64 167772161, .int .i64 6, .int .i64 7, .int .i64 80] 35) := by
  have hu := Try.underlying35
  go_enter Try.func37, Try.ntmps37
  go_wp2_with fail
  exact bodyPost_ret (results_cell_row rfl _ _ w.heap.size 35 #[.int .i64 a, .int .i64 167772161, .int .i64 6, .int .i64 7, .int .i64 80] (0, 0) _ rfl (blk_new _ _) Try.underlying35 rfl (by kernel_rfl)) rfl ⟨rfl, rfl⟩
def wharfagelaw16_CacheForms.B9 : List Nat := [0, 0, 2, 6, 0, 16, 48, 126, 0, 256, 0, 0, 2048, 7168, 15360, 1024, 0, 65536, 230400, 492544, 1048575, 2097151]
theorem wharfagelaw16_CacheForms.tab9 : rtab .any (opsOf Try.f6 9) = rtab .any (opsOf Try.f6 9) := rfl
theorem wharfagelaw16_CacheForms.bits9 : waitsOk (rtab .any (opsOf Try.f6 9)).2 wharfagelaw16_CacheForms.B9 = true := by kernel_rfl
namespace CfLaw
open Go.Proofs.Ytnocfhnandedoab.NumMath (wrap64_in)
def Fm (a b c d e : Int) : Prop := (0 ≤ a ∧ a < 4294967296) ∧ (0 ≤ b ∧ b < 4294967296) ∧ (c = 6 ∨ c = 17) ∧ (0 ≤ d ∧ d < 65536) ∧ (0 ≤ e ∧ e < 65536)
instance (a b c d e : Int) : Decidable (Fm a b c d e) := by unfold Fm; infer_instance
def Em (a b c d e t p u : Int) : Prop := Fm a b c d e ∧ (0 ≤ t ∧ t < 256) ∧ (0 ≤ p ∧ p ≤ 2) ∧ (0 ≤ u ∧ u ≤ 1048576)
instance (a b c d e t p u : Int) : Decidable (Em a b c d e t p u) := by unfold Em; infer_instance
theorem in_any (x : Int) (b n : Nat) (hb : b ≤ 64) (hn : 2 ^ b = n) : ip_In.f x (b : Int) = some (decide (0 ≤ x ∧ x < (n : Int))) := by
  unfold ip_In.f
  by_cases h : x ≥ 0
  · rw [if_pos h, if_pos (by omega)]
    have hn0 : 0 < n := by rw [← hn]; exact Nat.two_pow_pos b
    have e : shr .i64 x (b : Int) = x / (n : Int) := by
      unfold shr
      rw [Int.toNat_natCast, Nat.min_eq_left (by simpa [IntKind.bits] using hb), ← hn]
      simp
    rw [e]; congr 1
    rw [Bool.eq_iff_iff]
    simp only [beq_iff_eq, decide_eq_true_eq]
    constructor
    · intro hz
      refine ⟨h, ?_⟩
      have := Int.lt_ediv_add_one_mul_self x (show (0 : Int) < n by omega)
      rw [hz] at this
      omega
    · rintro ⟨_, hlt⟩
      exact Int.ediv_eq_zero_of_lt h hlt
  · rw [if_neg h]; congr 1; simp; omega
theorem in32 (x : Int) : ip_In.f x 32 = some (decide (0 ≤ x ∧ x < 4294967296)) := in_any x 32 4294967296 (by decide) (by decide)
theorem in16 (x : Int) : ip_In.f x 16 = some (decide (0 ≤ x ∧ x < 65536)) := in_any x 16 65536 (by decide) (by decide)
theorem in8 (x : Int) : ip_In.f x 8 = some (decide (0 ≤ x ∧ x < 256)) := in_any x 8 256 (by decide) (by decide)
theorem handled_f (c : Int) : flow_handled.f c = some (decide (c = 6 ∨ c = 17)) := by
  unfold flow_handled.f
  by_cases h : c = 6
  · simp [h]
  · rw [if_neg h]; simp [h]
    rfl
theorem flowMay_f (a b c d e : Int) : flow_May.f a b c d e = some (decide (Fm a b c d e)) := by
  unfold flow_May.f
  rw [in32, in32, in16, in16, handled_f]
  simp only [Option.bind_some]
  by_cases h1 : 0 ≤ a ∧ a < 4294967296 <;> by_cases h2 : 0 ≤ b ∧ b < 4294967296 <;> by_cases h3 : c = 6 ∨ c = 17 <;> by_cases h4 : 0 ≤ d ∧ d < 65536 <;> by_cases h5 : 0 ≤ e ∧ e < 65536 <;> simp [Fm, h1, h2, h3, h4, h5]
theorem to_f (x m : Int) : conf_to.f x m = some (decide (0 ≤ x ∧ x ≤ m)) := by
  unfold conf_to.f
  by_cases h : x ≥ 0
  · rw [if_pos h]; congr 1; simp; omega
  · rw [if_neg h]; congr 1; simp; omega
theorem time_f (x : Int) : conf_Time.f x = some (decide (0 ≤ x ∧ x ≤ 1048576)) := by
  unfold conf_Time.f
  rw [to_f]; rfl
theorem may_f (a : Int) : track_May.f a = some (decide (0 ≤ a ∧ a ≤ 2)) := by
  unfold track_May.f
  by_cases h : a ≥ 0
  · rw [if_pos h]; congr 1; simp; omega
  · rw [if_neg h]; congr 1; simp; omega
theorem entryMay_f (a b c d e t : Int) (z : Bool) (p u : Int) : entry_May.f a b c d e t z p u = some (decide (Em a b c d e t p u)) := by
  unfold entry_May.f
  rw [flowMay_f, in8, may_f, time_f]
  simp only [Option.bind_some]
  by_cases h1 : Fm a b c d e <;> by_cases h2 : 0 ≤ t ∧ t < 256 <;> by_cases h3 : 0 ≤ p ∧ p ≤ 2 <;> by_cases h4 : 0 ≤ u ∧ u ≤ 1048576 <;> simp [Em, h1, h2, h3, h4]
theorem num_f (a : Int) : wharfagelaw0_Num.f a = some a := rfl
def lim (p : Int) : Int := if p = 0 then 40 else 6
theorem ran_in (a b c d e t : Int) (z : Bool) (p u now : Int) (hm : Em a b c d e t p u) : entry_Ran.f a b c d e t z p u now = some (decide (u + lim p ≤ now)) := by
  unfold entry_Ran.f track_Limit.f
  have hu := hm.2.2.2
  rw [may_f, entryMay_f, decide_eq_true hm, decide_eq_true hm.2.2.1]
  simp only [Option.bind_some, if_true]
  by_cases h : p = 0
  · rw [if_pos h]
    simp only [Option.bind_some]
    rw [wrap64_in _ (by omega) (by omega)]
    simp [lim, h]
  · rw [if_neg h]
    simp only [Option.bind_some]
    rw [wrap64_in _ (by omega) (by omega)]
    simp [lim, h]
theorem ran_out (a b c d e t : Int) (z : Bool) (p u now : Int) (hm : ¬ Em a b c d e t p u) : entry_Ran.f a b c d e t z p u now = some true := by
  unfold entry_Ran.f track_Limit.f
  rw [may_f, entryMay_f, decide_eq_false hm]
  by_cases hp : 0 ≤ p ∧ p ≤ 2
  · rw [decide_eq_true hp]
    simp only [Option.bind_some, if_true]
    split <;> rfl
  · rw [decide_eq_false hp]; rfl

abbrev En := S37
abbrev Fl := S35
def emB (x : En) : Bool := decide (Em x.f0.f0 x.f0.f1 x.f0.f2 x.f0.f3 x.f0.f4 x.f1 x.f3 x.f4)
theorem em_f (x : En) : entry_May.f x.f0.f0 x.f0.f1 x.f0.f2 x.f0.f3 x.f0.f4 x.f1 x.f2 x.f3 x.f4 = some (emB x) := entryMay_f _ _ _ _ _ _ _ _ _
theorem rdE (l : List En) (i : Nat) (h : i < l.length) : rd_T37 l (i : Int) = l[i] := by
  unfold rd_T37
  simp [List.getD, List.getElem?_eq_getElem h]
theorem idx_lo (f : Fl) : ∀ (l : List En) (n : Nat), idxFrom f l n = -1 ∨ (n : Int) ≤ idxFrom f l n
  | [], n => .inl rfl
  | x :: r, n => by
    unfold idxFrom
    split
    · exact .inr (Int.le_refl _)
    · rcases idx_lo f r (n + 1) with h | h
      · exact .inl h
      · exact .inr (by omega)
theorem idx_none (f : Fl) : ∀ (l : List En) (n : Nat), (∀ x ∈ l, x.f0 ≠ f) → idxFrom f l n = -1
  | [], n, _ => rfl
  | x :: r, n, h => by
    unfold idxFrom
    rw [if_neg (fun hb => h x List.mem_cons_self ((beqF_iff _ _).1 hb))]
    exact idx_none f r (n + 1) (fun y hy => h y (List.mem_cons_of_mem _ hy))
theorem idx_first (f : Fl) : ∀ (l : List En) (n j : Nat) (hj : j < l.length), (∀ i (hi : i < j), (l[i]'(by omega)).f0 ≠ f) → (l[j]).f0 = f → idxFrom f l n = ((n + j : Nat) : Int)
  | [], n, j, hj, _, _ => by simp at hj
  | x :: r, n, 0, _, _, he => by
    unfold idxFrom
    rw [if_pos (show beqF x.f0 f = true from (beqF_iff _ _).2 he)]
    rfl
  | x :: r, n, j + 1, hj, hn, he => by
    unfold idxFrom
    rw [if_neg (show ¬ (beqF x.f0 f = true) from fun hb => hn 0 (by omega) ((beqF_iff _ _).1 hb)), idx_first f r (n + 1) j (by simpa using hj) (fun i hi => hn (i + 1) (by omega)) he]
    congr 1
    omega
theorem idx_le (f : Fl) : ∀ (l : List En) (n i : Nat) (hi : i < l.length), (l[i]).f0 = f → idxFrom f l n ≤ ((n + i : Nat) : Int)
  | [], n, i, hi, _ => by simp at hi
  | x :: r, n, i, hi, he => by
    unfold idxFrom
    split
    · omega
    · rename_i hb
      cases i with
      | zero => exact absurd ((beqF_iff _ _).2 he) hb
      | succ i =>
        have := idx_le f r (n + 1) i (by simpa using hi) he
        omega
def Good (l : List En) : Prop := (∀ x ∈ l, emB x = true) ∧ l.Pairwise (fun a b => a.f0 ≠ b.f0) ∧ l.length ≤ 8
noncomputable instance (l : List En) : Decidable (Good l) := Classical.propDecidable _
theorem good_ix (l : List En) : Good l ↔ ((∀ j (hj : j < l.length), emB l[j] = true ∧ idxFrom (l[j]).f0 l 0 = (j : Int)) ∧ l.length ≤ 8) := by
  constructor
  · rintro ⟨h1, h2, h3⟩
    refine ⟨fun j hj => ⟨h1 _ (List.getElem_mem hj), ?_⟩, h3⟩
    have := idx_first (l[j]).f0 l 0 j hj (fun i hi => List.pairwise_iff_getElem.1 h2 i j (by omega) hj hi) rfl
    rw [this, Nat.zero_add]
  · rintro ⟨h1, h3⟩
    refine ⟨fun x hx => ?_, List.pairwise_iff_getElem.2 (fun i j hi hj hij he => ?_), h3⟩
    · obtain ⟨j, hj, rfl⟩ := List.getElem_of_mem hx
      exact (h1 j hj).1
    · have h4 := idx_le (l[j]).f0 l 0 i hi he
      rw [(h1 j hj).2] at h4
      omega
theorem may_l0 (l : List En) (hl : l.length ≤ 9223372036854775807) (d : Nat) : ∀ (k i : Nat), l.length - i ≤ d → d < k → i ≤ l.length → (∀ j (hj : j < l.length), j < i → emB l[j] = true ∧ idxFrom (l[j]).f0 l 0 = (j : Int)) → cache_May.l0 k l l (l.length : Int) (i : Int) = some (decide (Good l)) := by
  induction d with
  | zero =>
    intro k i hd hk hi hp
    obtain ⟨k, rfl⟩ : ∃ m, k = m + 1 := ⟨k - 1, by omega⟩
    simp only [cache_May.l0]
    rw [if_neg (by omega)]
    congr 1
    rw [decide_eq_decide, good_ix]
    constructor
    · intro h
      exact ⟨fun j hj => hp j hj (by omega), by omega⟩
    · intro h
      have := h.2
      omega
  | succ d ih =>
    intro k i hd hk hi hp
    obtain ⟨k, rfl⟩ : ∃ m, k = m + 1 := ⟨k - 1, by omega⟩
    simp only [cache_May.l0]
    by_cases h : (i : Int) < (l.length : Int)
    · have hlt : i < l.length := by omega
      rw [if_pos h, if_pos (show (0 : Int) ≤ (i : Int) by omega), if_pos h, rdE l i hlt, em_f, Option.bind_some]
      cases hb : emB l[i]
      · rw [if_neg (by simp)]
        congr 1
        rw [eq_comm, decide_eq_false_iff_not]
        intro hg
        rw [hg.1 _ (List.getElem_mem hlt)] at hb
        cases hb
      · rw [if_pos rfl]
        unfold cache_at.f
        rw [Option.bind_some]
        by_cases hx : idxFrom (l[i]).f0 l 0 = (i : Int)
        · rw [if_pos hx, show wrap64 ((i : Int) + 1) = ((i + 1 : Nat) : Int) by unfold wrap64; omega]
          refine ih k (i + 1) (by omega) (by omega) (by omega) (fun j hj hji => ?_)
          by_cases hj2 : j = i
          · subst hj2
            exact ⟨hb, hx⟩
          · exact hp j hj (by omega)
        · rw [if_neg hx]
          congr 1
          rw [eq_comm, decide_eq_false_iff_not]
          intro hg
          exact hx (((good_ix l).1 hg).1 i hlt).2
    · rw [if_neg h]
      congr 1
      rw [decide_eq_decide, good_ix]
      constructor
      · intro h
        exact ⟨fun j hj => hp j hj (by omega), by omega⟩
      · intro h
        have := h.2
        omega
theorem mayE_f (l : List En) (k : Nat) (hl : l.length < k) (hl2 : l.length ≤ 9223372036854775807) : cache_May.f k l = some (decide (Good l)) := may_l0 l hl2 l.length k 0 (by omega) hl (by omega) (fun j _ h => absurd h (by omega))
theorem bad_put (l : List En) (a b c d e f : Int) (g : Bool) (h i : Int) (hm : cache_May.f 60 l = some false) : cache_Put.f 60 l a b c d e f g h i = some ([], 0, 0, 0, 0, 0, 0, false, 0, 0, false, 1600) := by
  unfold cache_Put.f
  rw [hm]; rfl
theorem bad_drop (l : List En) (a b c d e : Int) (hm : cache_May.f 60 l = some false) : cache_Drop.f 60 l a b c d e = some ([], 1600) := by
  unfold cache_Drop.f
  rw [hm]; rfl
theorem bad_sweep (l : List En) (t : Int) (hm : cache_May.f 60 l = some false) : cache_Sweep.f 60 l t = some ([], [], 1600) := by
  unfold cache_Sweep.f
  rw [hm]; rfl
theorem bad_find (l : List En) (a b c d e t : Int) (hm : cache_May.f 60 l = some false) : cache_Find.f 60 l a b c d e t = some (0, 0, 0, 0, 0, 0, false, 0, 0, false) := by
  unfold cache_Find.f cache_at.f
  rw [Option.bind_some, hm]
  split
  · rfl
  · rfl
theorem bad_time (t : Int) (h : t < 0 ∨ 1048576 < t) : cache_Sweep.f 60 [] t = some ([], [], 1600) := by
  unfold cache_Sweep.f
  rw [show cache_May.f 60 [] = some true from by kernel_rfl, Option.bind_some, if_pos rfl, time_f, decide_eq_false (by omega)]; rfl
theorem bad_phase (d : Int) (h : 1 ≤ d) : cache_Put.f 60 [] 1 167772161 6 7 80 0 false (-d) 0 = some ([], 0, 0, 0, 0, 0, 0, false, 0, 0, false, 1600) := by
  unfold cache_Put.f
  rw [show cache_May.f 60 [] = some true from by kernel_rfl, Option.bind_some, if_pos rfl, entryMay_f, decide_eq_false (by unfold Em; omega)]; rfl
theorem bad_one (x : En) (h : emB x = false) : cache_May.f 60 [x] = some false := by
  rw [mayE_f [x] 60 (by simp) (by simp), decide_eq_false (fun hg => by have h1 := hg.1 x (by simp); rw [h] at h1; cases h1)]
theorem bad_to (d : Int) (h : 1 ≤ d) : cache_May.f 60 [(⟨⟨1, 167772161, 6, 7, 80⟩, -d, false, 0, 0⟩ : En)] = some false := bad_one _ (by unfold emB; exact decide_eq_false (by unfold Em; simp only []; omega))
theorem bad_used (d : Int) (h : 1 ≤ d) : cache_May.f 60 [(⟨⟨1, 167772161, 6, 7, 80⟩, 0, false, 0, -d⟩ : En)] = some false := bad_one _ (by unfold emB; exact decide_eq_false (by unfold Em; simp only []; omega))
end CfLaw
open CfLaw
def CB (w0 : World) (s9 : Value) (w : World) : Prop := ∃ (A : Option Addr) (n c : Nat) (l : List S37), s9 = .slice A n c ∧ l.length = n ∧ Aside0 (n ≤ c) ∧ Aside0 (Kd.C k37 w A n l) ∧ Aside0 (cache_May.f 60 l = some false) ∧ Aside0 (Below w0.heap.size w0 w)
theorem CB.mk' {w0 w : World} (A : Option Addr) (n c : Nat) (l : List S37) (h1 : l.length = n) (h2 : n ≤ c) (h3 : Kd.C k37 w A n l) (h4 : cache_May.f 60 l = some false) (h5 : Below w0.heap.size w0 w) : CB w0 (.slice A n c) w := ⟨A, n, c, l, rfl, h1, ⟨h2⟩, ⟨h3⟩, ⟨h4⟩, ⟨h5⟩⟩
theorem ce_ents {w : World} {g : Nat} {cs : Array Value} {t : TypeId} {fz : Nat × Nat} (h : w.heap[g]? = some (.cells cs t fz)) (xs : List S37) (hl : xs.length ≤ 9223372036854775807) (hcs : cs.toList = xs.flatMap encE) : Kd.C k37 w (some ⟨g, 0, none⟩) xs.length xs :=
  gv_flat h encE (fun _ => rfl) (fun x => k37_mk w x) xs hl hcs
theorem wf_below {W wf : World} {o : Obj} (h : wf = W.alloc o) : Below W.heap.size W wf := h ▸ below_alloc (Below.refl _ _) _
theorem cf_hide {P : Program} {c : Code} {Q : Exit → Act → World → Prop} {a : Act} {w : World} (R : World → Prop) (h : R w) (k : ∀ w', R w' → c.wp P Q a w') : c.wp P Q a w := k w h
open Go.Proofs.Ytnocfhnandedoab.NumMath (and1023 wrap_u64_mod wrap64_in) in
set_option maxHeartbeats 8000000 in
set_option maxRecDepth 100000 in
theorem wharfagelaw16_CacheForms.calls (a0 a1 : Int) (r : Bool) (w : World) (h : wharfagelaw16_CacheForms.f a0 a1 = some r) :
    Calls Try.prog 6 #[.int .i64 a0, .int .i64 a1] w fun e w' => e = .returned (.bool r) ∧ Below w.heap.size w w' := by
  obtain rfl := Option.some.inj h
  clear h
  have hu := Try.underlying37
  have hu2 := Try.underlying35
  obtain ⟨d, hd, HD⟩ : ∃ d : Int, wrap64 (1 + bits .and .i64 a1 1023) = d ∧ Aside0 (1 ≤ d ∧ d ≤ 1024) := by
    rw [and1023, wrap64_in _ (by omega) (by omega)]
    exact ⟨1 + a1 % 1024, rfl, ⟨by omega⟩⟩
  obtain ⟨p, hp, HP⟩ : ∃ p : Int, (IntKind.u64.wrap a0).tmod 5 = p ∧ Aside0 (0 ≤ p ∧ p < 5) := by
    rw [wrap_u64_mod]
    exact ⟨_, rfl, ⟨by rw [Int.tmod_eq_emod_of_nonneg (by omega)]; omega⟩⟩
  have HB := Aside0.mk (Below.refl w.heap.size w)
  go_enter Try.func6, Try.ntmps6
  go_wp2_with (go_at_call 36; refine (wharfagelaw16_awake.calls true _ rfl).mono ?_; rintro e w1 ⟨rfl, hb⟩; replace HB := Aside0.mk (below_step HB.out hb); clear hb)
  rw [hd]
  clear hd
  go_loopw [6, 7] (fun v6 v7 wr => ∃ i : Nat, v7 = .int .i64 (i : Int) ∧ i ≤ 9 ∧ Aside0 (Kd.R k37 37 wr w.heap.size (fun _ => True) v6 (manyL i)) ∧ Aside0 (Below w.heap.size w wr)) (fun _ v _ => 9 - (intOf v).toNat)
  case atStart => exact ⟨0, rfl, by omega, ⟨Kd.R_nil _ _ _ _ _⟩, HB⟩
  case round =>
    clear HB
    obtain ⟨i, rfl, hi, HO, HB⟩ := hrel
    obtain ⟨A0, c0, rfl⟩ := Kd.R_slice HO.out
    by_cases hlt : i < 9
    · have hle : (i : Int) ≤ 8 := by omega
      have hw1 : wrap64 ((i : Int) + 1) = (i : Int) + 1 := by unfold wrap64; omega
      go_wp2_with (first
        | (go_at_call 37; refine (fl_same _ _).mono ?_; rintro e wf ⟨rfl, hWf⟩; have hbf : Below wr.heap.size wr wf := hWf ▸ below_alloc (Below.refl _ _) _; clear hWf; replace HO := Aside0.mk (Kd.R_below HO.out hbf); replace HB := Aside0.mk (below_step HB.out hbf); clear hbf)
        | ((with_reducible refine gate_builtin (b := .append) (xs := #[.tmp 40, .tmp 44]) rfl ?_); at_builtin; refine Kd.R_append k37 (w0 := w) w.heap.size rfl (.tmp 40) (.tmp 44) 33 37 (.agg #[(.int .i64 0), (.int .i64 0), (.int .i64 0), (.int .i64 0), (.int .i64 0), (.int .i64 0), (.bool false), (.int .i64 0), (.int .i64 0)]) 72 rfl Try.underlying33 (by kernel_rfl) rfl (by decide) (by omega) (.slice A0 (manyL i).length c0) (manyL i) (⟨⟨(i : Int), 167772161, 6, 7, 80⟩, 0, false, 0, 0⟩ : S37) [.int .i64 (i : Int), .int .i64 167772161, .int .i64 6, .int .i64 7, .int .i64 80, .int .i64 0, .bool false, .int .i64 0, .int .i64 0] (fun _ => True) (fun _ => False) rfl rfl (k37_mkM _ _ _ (⟨⟨(i : Int), 167772161, 6, 7, 80⟩, 0, false, 0, 0⟩ : S37)) (fun _ hk => hk.elim) (fun _ _ => trivial) HO.out HB.out HB.out.size (by rw [manyL_len]; omega) ?_; intro v1 w5 ho hb hg hat; rw [← manyL_succ] at ho; replace HO := Aside0.mk ho; replace HB := Aside0.mk hb; clear ho hb hg hat))
      go_roundw
      case rel => exact ⟨i + 1, by simp, by omega, HO, HB⟩
      case measure => simp [intOf]; omega
    · have hle : ¬ ((i : Int) ≤ 8) := by omega
      have hi9 : i = 9 := by omega
      subst hi9
      clear hlt hle
      obtain ⟨gm, cm, curm, eM, hgm, hkm, hcm, hrm⟩ := nd_own HO.out (by decide)
      obtain ⟨rfl, rfl⟩ : some ⟨gm, 0, none⟩ = A0 ∧ cm = c0 := by injection eM with e1 e2 e3; exact ⟨e1.symm, e3.symm⟩
      have HKM := Aside0.mk hkm
      have HCM := Aside0.mk (show 9 ≤ cm from hcm)
      have HRM := Aside0.mk (show Kd.C k37 wr (some ⟨gm, 0, none⟩) 9 (manyL 9) from hrm)
      have HGM := Aside0.mk (show w.heap.size ≤ gm ∧ gm < wr.heap.size from ⟨hgm, blk_lt hkm⟩)
      clear eM hgm hkm hcm hrm HO
      rw [show (manyL 9).length = 9 from rfl]
      go_upto_region 9 with fail
      have k0 : wr.cell? ⟨gm, 0, none⟩ = some (.int .i64 0) := ndE_get HRM.out 0 0 0 _ _ rfl rfl rfl
      have k1 : wr.cell? ⟨gm, 1, none⟩ = some (.int .i64 167772161) := ndE_get HRM.out 1 0 1 _ _ rfl rfl rfl
      have k2 : wr.cell? ⟨gm, 2, none⟩ = some (.int .i64 6) := ndE_get HRM.out 2 0 2 _ _ rfl rfl rfl
      have k3 : wr.cell? ⟨gm, 3, none⟩ = some (.int .i64 7) := ndE_get HRM.out 3 0 3 _ _ rfl rfl rfl
      have k4 : wr.cell? ⟨gm, 4, none⟩ = some (.int .i64 80) := ndE_get HRM.out 4 0 4 _ _ rfl rfl rfl
      have k5 : wr.cell? ⟨gm, 5, none⟩ = some (.int .i64 0) := ndE_get HRM.out 5 0 5 _ _ rfl rfl rfl
      have k6 : wr.cell? ⟨gm, 6, none⟩ = some (.bool false) := ndE_get HRM.out 6 0 6 _ _ rfl rfl rfl
      have k7 : wr.cell? ⟨gm, 7, none⟩ = some (.int .i64 0) := ndE_get HRM.out 7 0 7 _ _ rfl rfl rfl
      have k8 : wr.cell? ⟨gm, 8, none⟩ = some (.int .i64 0) := ndE_get HRM.out 8 0 8 _ _ rfl rfl rfl
      have m0a : gm ≠ wr.heap.size := by have := HGM.out; omega
      have m0b : wr.heap.size ≠ gm := by have := HGM.out; omega
      have m1a : gm ≠ wr.heap.size + 1 := by have := HGM.out; omega
      have m1b : wr.heap.size + 1 ≠ gm := by have := HGM.out; omega
      have m2a : gm ≠ wr.heap.size + 1 + 1 := by have := HGM.out; omega
      have m2b : wr.heap.size + 1 + 1 ≠ gm := by have := HGM.out; omega
      have m3a : gm ≠ wr.heap.size + 1 + 1 + 1 := by have := HGM.out; omega
      have m3b : wr.heap.size + 1 + 1 + 1 ≠ gm := by have := HGM.out; omega
      have m4a : gm ≠ wr.heap.size + 1 + 1 + 1 + 1 := by have := HGM.out; omega
      have m4b : wr.heap.size + 1 + 1 + 1 + 1 ≠ gm := by have := HGM.out; omega
      have m5a : gm ≠ wr.heap.size + 1 + 1 + 1 + 1 + 1 := by have := HGM.out; omega
      have m5b : wr.heap.size + 1 + 1 + 1 + 1 + 1 ≠ gm := by have := HGM.out; omega
      have m6a : gm ≠ wr.heap.size + 1 + 1 + 1 + 1 + 1 + 1 := by have := HGM.out; omega
      have m6b : wr.heap.size + 1 + 1 + 1 + 1 + 1 + 1 ≠ gm := by have := HGM.out; omega
      have m7a : gm ≠ wr.heap.size + 1 + 1 + 1 + 1 + 1 + 1 + 1 := by have := HGM.out; omega
      have m7b : wr.heap.size + 1 + 1 + 1 + 1 + 1 + 1 + 1 ≠ gm := by have := HGM.out; omega
      go_cut [8] (fun s8 wx => ∃ bb x1 x2 x3 x4 : Nat, s8 = .slice (some ⟨bb, 0, none⟩) 5 5 ∧ Aside0 (wx.heap[bb]? = some (.cells #[.slice (some ⟨gm, 0, none⟩) 9 cm, .slice (some ⟨x1, 0, none⟩) 2 2, .slice (some ⟨x2, 0, none⟩) 1 1, .slice (some ⟨x3, 0, none⟩) 1 1, .slice (some ⟨x4, 0, none⟩) 1 1] 33 (0, 0))) ∧ Aside0 (wx.heap[x1]? = some (.cells #[.int .i64 0, .int .i64 167772161, .int .i64 6, .int .i64 7, .int .i64 80, .int .i64 0, .bool false, .int .i64 0, .int .i64 0, .int .i64 0, .int .i64 167772161, .int .i64 6, .int .i64 7, .int .i64 80, .int .i64 0, .bool false, .int .i64 0, .int .i64 0] 37 (0, 0))) ∧ Aside0 (wx.heap[x2]? = some (.cells #[.int .i64 0, .int .i64 0, .int .i64 0, .int .i64 0, .int .i64 0, .int .i64 0, .bool false, .int .i64 0, .int .i64 0] 37 (0, 0))) ∧ Aside0 (wx.heap[x3]? = some (.cells #[.int .i64 1, .int .i64 167772161, .int .i64 6, .int .i64 7, .int .i64 80, .int .i64 (-d), .bool false, .int .i64 0, .int .i64 0] 37 (0, 0))) ∧ Aside0 (wx.heap[x4]? = some (.cells #[.int .i64 1, .int .i64 167772161, .int .i64 6, .int .i64 7, .int .i64 80, .int .i64 0, .bool false, .int .i64 0, .int .i64 (-d)] 37 (0, 0))) ∧ Aside0 (Below wr.heap.size wr wx))
      have KA := Aside0.mk (show ∀ W, Below wr.heap.size wr W → (W.cell? ⟨gm, 0, none⟩ = some (.int .i64 0) ∧ W.cell? ⟨gm, 1, none⟩ = some (.int .i64 167772161) ∧ W.cell? ⟨gm, 2, none⟩ = some (.int .i64 6) ∧ W.cell? ⟨gm, 3, none⟩ = some (.int .i64 7) ∧ W.cell? ⟨gm, 4, none⟩ = some (.int .i64 80) ∧ W.cell? ⟨gm, 5, none⟩ = some (.int .i64 0) ∧ W.cell? ⟨gm, 6, none⟩ = some (.bool false) ∧ W.cell? ⟨gm, 7, none⟩ = some (.int .i64 0) ∧ W.cell? ⟨gm, 8, none⟩ = some (.int .i64 0)) from fun W hW => ⟨pw_cell_below hW k0, pw_cell_below hW k1, pw_cell_below hW k2, pw_cell_below hW k3, pw_cell_below hW k4, pw_cell_below hW k5, pw_cell_below hW k6, pw_cell_below hW k7, pw_cell_below hW k8⟩)
      case first =>
        have hw2 : IntKind.i64.wrap (-d) = -d := by have := HD.out; rw [IntKind.wrap_i64]; omega
        have hw3 : wrap64 (-d) = -d := by have := HD.out; unfold wrap64; omega
        refine start_ (n := 22) (S := fun w' => True) (ds := []) #[false, false, false, false, false, false, false, false, false, false, false, false, false, false, false, false, false, false, false, false, false, false] (by kernel_rfl) rfl rfl trivial (fun hHeld => ?_); refine with_tabW wharfagelaw16_CacheForms.tab9 wharfagelaw16_CacheForms.bits9 (fun HT_ HW_ => ?_)
        have hbd : Below wr.heap.size wr wr.drew := below_drew1 (Below.refl _ _)
        refine inv_at [0, 1, 2, 3, 4, 5, 6, 7, 8, 9, 10, 11, 12, 13, 14, 15, 16, 17, 18, 19, 20, 21] (fun a0_ b a w' => ∃ (x1 x2 x3 x4 bb b2 : Nat), a = putSel a0_ b [(0, 46, .slice (some ⟨gm, 0, none⟩) 9 cm), (1, 47, .slice (some ⟨gm, 0, none⟩) 9 cm), (2, 48, .pointer (some ⟨gm, 0, none⟩)), (3, 49, .agg #[.int .i64 0, .int .i64 167772161, .int .i64 6, .int .i64 7, .int .i64 80, .int .i64 0, .bool false, .int .i64 0, .int .i64 0]), (4, 50, .slice (some ⟨gm, 0, none⟩) 9 cm), (5, 51, .pointer (some ⟨gm, 0, none⟩)), (6, 52, .agg #[.int .i64 0, .int .i64 167772161, .int .i64 6, .int .i64 7, .int .i64 80, .int .i64 0, .bool false, .int .i64 0, .int .i64 0]), (7, 53, .slice (some ⟨x1, 0, none⟩) 2 2), (8, 54, .agg #[.int .i64 0, .int .i64 0, .int .i64 0, .int .i64 0, .int .i64 0, .int .i64 0, .bool false, .int .i64 0, .int .i64 0]), (9, 55, .slice (some ⟨x2, 0, none⟩) 1 1), (10, 56, .agg #[.int .i64 1, .int .i64 167772161, .int .i64 6, .int .i64 7, .int .i64 80]), (11, 57, .int .i64 d), (12, 58, .int .i64 (-d)), (13, 59, .agg #[.int .i64 1, .int .i64 167772161, .int .i64 6, .int .i64 7, .int .i64 80, .int .i64 (-d), .bool false, .int .i64 0, .int .i64 0]), (14, 60, .slice (some ⟨x3, 0, none⟩) 1 1), (15, 61, .agg #[.int .i64 1, .int .i64 167772161, .int .i64 6, .int .i64 7, .int .i64 80]), (16, 62, .int .i64 d), (17, 63, .int .i64 (-d)), (18, 64, .agg #[.int .i64 1, .int .i64 167772161, .int .i64 6, .int .i64 7, .int .i64 80, .int .i64 0, .bool false, .int .i64 0, .int .i64 (-d)]), (19, 65, .slice (some ⟨x4, 0, none⟩) 1 1), (20, 66, .slice (some ⟨bb, 0, none⟩) 5 5), (21, 8, .slice (some ⟨b2, 0, none⟩) 5 5)] ∧ Below wr.heap.size wr w' ∧ (b 7 = true → w'.heap[x1]? = some (.cells #[.int .i64 0, .int .i64 167772161, .int .i64 6, .int .i64 7, .int .i64 80, .int .i64 0, .bool false, .int .i64 0, .int .i64 0, .int .i64 0, .int .i64 167772161, .int .i64 6, .int .i64 7, .int .i64 80, .int .i64 0, .bool false, .int .i64 0, .int .i64 0] 37 (0, 0))) ∧ (b 9 = true → w'.heap[x2]? = some (.cells #[.int .i64 0, .int .i64 0, .int .i64 0, .int .i64 0, .int .i64 0, .int .i64 0, .bool false, .int .i64 0, .int .i64 0] 37 (0, 0))) ∧ (b 14 = true → w'.heap[x3]? = some (.cells #[.int .i64 1, .int .i64 167772161, .int .i64 6, .int .i64 7, .int .i64 80, .int .i64 (-d), .bool false, .int .i64 0, .int .i64 0] 37 (0, 0))) ∧ (b 19 = true → w'.heap[x4]? = some (.cells #[.int .i64 1, .int .i64 167772161, .int .i64 6, .int .i64 7, .int .i64 80, .int .i64 0, .bool false, .int .i64 0, .int .i64 (-d)] 37 (0, 0))) ∧ (b 20 = true → w'.heap[bb]? = some (.cells #[.slice (some ⟨gm, 0, none⟩) 9 cm, .slice (some ⟨x1, 0, none⟩) 2 2, .slice (some ⟨x2, 0, none⟩) 1 1, .slice (some ⟨x3, 0, none⟩) 1 1, .slice (some ⟨x4, 0, none⟩) 1 1] 33 (0, 0))) ∧ (b 21 = true → b2 = bb)) HT_.out HW_.out (by kernel_rfl) (by kernel_rfl) ?_ ?_ ?_
        · exact ⟨0, 0, 0, 0, 0, 0, by simp only [putSel, Bool.false_eq_true, if_false], hbd, fun h_ => absurd h_ (by decide), fun h_ => absurd h_ (by decide), fun h_ => absurd h_ (by decide), fun h_ => absurd h_ (by decide), fun h_ => absurd h_ (by decide), fun h_ => absurd h_ (by decide)⟩
        · skip
          refine steps_cons ?_ ?_
          · rintro b a w' ⟨x1, x2, x3, x4, bb, b2, ha, QB, Q1, Q2, Q3, Q4, Q5, Q6⟩ hb_ hon hoff
            refine ⟨_, rfl, fun K hK => ?_⟩
            have e6 : a.tmps[6]? = some (.slice (some ⟨gm, 0, none⟩) 9 cm) := by rw [ha]; exact (putSel_off rfl).trans rfl
            replace ha := Aside0.mk ha
            refine value_ (w1 := w') (v := .slice (some ⟨gm, 0, none⟩) 9 cm) (by rfl) rfl ?_ ?_
            · go_simp
              (try simp only [hw2, hw3])
              try rfl
            exact hK.out _ _ ⟨x1, x2, x3, x4, bb, b2, (by rw [ha.out]; exact putSel_upk 0 hb_ rfl rfl rfl), QB, Q1, Q2, Q3, Q4, fun h0_ => absurd ((hoff 20 (by kernel_rfl)).symm.trans h0_) (by decide), fun h0_ => absurd ((hoff 21 (by kernel_rfl)).symm.trans h0_) (by decide)⟩
          refine steps_cons ?_ ?_
          · rintro b a w' ⟨x1, x2, x3, x4, bb, b2, ha, QB, Q1, Q2, Q3, Q4, Q5, Q6⟩ hb_ hon hoff
            refine ⟨_, rfl, fun K hK => ?_⟩
            have e6 : a.tmps[6]? = some (.slice (some ⟨gm, 0, none⟩) 9 cm) := by rw [ha]; exact (putSel_off rfl).trans rfl
            replace ha := Aside0.mk ha
            refine value_ (w1 := w') (v := .slice (some ⟨gm, 0, none⟩) 9 cm) (by rfl) rfl ?_ ?_
            · go_simp
              (try simp only [hw2, hw3])
              try rfl
            exact hK.out _ _ ⟨x1, x2, x3, x4, bb, b2, (by rw [ha.out]; exact putSel_upk 1 hb_ rfl rfl rfl), QB, fun h0_ => absurd ((hoff 7 (by kernel_rfl)).symm.trans h0_) (by decide), Q2, Q3, Q4, fun h0_ => absurd ((hoff 20 (by kernel_rfl)).symm.trans h0_) (by decide), fun h0_ => absurd ((hoff 21 (by kernel_rfl)).symm.trans h0_) (by decide)⟩
          refine steps_cons ?_ ?_
          · rintro b a w' ⟨x1, x2, x3, x4, bb, b2, ha, QB, Q1, Q2, Q3, Q4, Q5, Q6⟩ hb_ hon hoff
            refine ⟨_, rfl, fun K hK => ?_⟩
            have e47 : a.tmps[47]? = some (.slice (some ⟨gm, 0, none⟩) 9 cm) := by rw [ha]; exact putSel_on (e := (1, 47, .slice (some ⟨gm, 0, none⟩) 9 cm)) 1 rfl rfl (hon 1 (by kernel_rfl)) rfl
            replace ha := Aside0.mk ha
            refine value_ (w1 := w') (v := .pointer (some ⟨gm, 0, none⟩)) (by rfl) rfl ?_ ?_
            · go_simp
              (try simp only [hw2, hw3])
              try rfl
            exact hK.out _ _ ⟨x1, x2, x3, x4, bb, b2, (by rw [ha.out]; exact putSel_upk 2 hb_ rfl rfl rfl), QB, fun h0_ => absurd ((hoff 7 (by kernel_rfl)).symm.trans h0_) (by decide), Q2, Q3, Q4, fun h0_ => absurd ((hoff 20 (by kernel_rfl)).symm.trans h0_) (by decide), fun h0_ => absurd ((hoff 21 (by kernel_rfl)).symm.trans h0_) (by decide)⟩
          refine steps_cons ?_ ?_
          · rintro b a w' ⟨x1, x2, x3, x4, bb, b2, ha, QB, Q1, Q2, Q3, Q4, Q5, Q6⟩ hb_ hon hoff
            refine ⟨_, rfl, fun K hK => ?_⟩
            have e48 : a.tmps[48]? = some (.pointer (some ⟨gm, 0, none⟩)) := by rw [ha]; exact putSel_on (e := (2, 48, .pointer (some ⟨gm, 0, none⟩))) 2 rfl rfl (hon 2 (by kernel_rfl)) rfl
            replace ha := Aside0.mk ha
            obtain ⟨c0, c1, c2, c3, c4, c5, c6, c7, c8⟩ := KA.out w' QB
            refine value_ (w1 := w') (v := .agg #[.int .i64 0, .int .i64 167772161, .int .i64 6, .int .i64 7, .int .i64 80, .int .i64 0, .bool false, .int .i64 0, .int .i64 0]) (by rfl) rfl ?_ ?_
            · go_simp
              (try simp only [hw2, hw3])
              try rfl
            exact hK.out _ _ ⟨x1, x2, x3, x4, bb, b2, (by rw [ha.out]; exact putSel_upk 3 hb_ rfl rfl rfl), QB, fun h0_ => absurd ((hoff 7 (by kernel_rfl)).symm.trans h0_) (by decide), Q2, Q3, Q4, fun h0_ => absurd ((hoff 20 (by kernel_rfl)).symm.trans h0_) (by decide), fun h0_ => absurd ((hoff 21 (by kernel_rfl)).symm.trans h0_) (by decide)⟩
          refine steps_cons ?_ ?_
          · rintro b a w' ⟨x1, x2, x3, x4, bb, b2, ha, QB, Q1, Q2, Q3, Q4, Q5, Q6⟩ hb_ hon hoff
            refine ⟨_, rfl, fun K hK => ?_⟩
            have e6 : a.tmps[6]? = some (.slice (some ⟨gm, 0, none⟩) 9 cm) := by rw [ha]; exact (putSel_off rfl).trans rfl
            replace ha := Aside0.mk ha
            refine value_ (w1 := w') (v := .slice (some ⟨gm, 0, none⟩) 9 cm) (by rfl) rfl ?_ ?_
            · go_simp
              (try simp only [hw2, hw3])
              try rfl
            exact hK.out _ _ ⟨x1, x2, x3, x4, bb, b2, (by rw [ha.out]; exact putSel_upk 4 hb_ rfl rfl rfl), QB, fun h0_ => absurd ((hoff 7 (by kernel_rfl)).symm.trans h0_) (by decide), Q2, Q3, Q4, fun h0_ => absurd ((hoff 20 (by kernel_rfl)).symm.trans h0_) (by decide), fun h0_ => absurd ((hoff 21 (by kernel_rfl)).symm.trans h0_) (by decide)⟩
          refine steps_cons ?_ ?_
          · rintro b a w' ⟨x1, x2, x3, x4, bb, b2, ha, QB, Q1, Q2, Q3, Q4, Q5, Q6⟩ hb_ hon hoff
            refine ⟨_, rfl, fun K hK => ?_⟩
            have e50 : a.tmps[50]? = some (.slice (some ⟨gm, 0, none⟩) 9 cm) := by rw [ha]; exact putSel_on (e := (4, 50, .slice (some ⟨gm, 0, none⟩) 9 cm)) 4 rfl rfl (hon 4 (by kernel_rfl)) rfl
            replace ha := Aside0.mk ha
            refine value_ (w1 := w') (v := .pointer (some ⟨gm, 0, none⟩)) (by rfl) rfl ?_ ?_
            · go_simp
              (try simp only [hw2, hw3])
              try rfl
            exact hK.out _ _ ⟨x1, x2, x3, x4, bb, b2, (by rw [ha.out]; exact putSel_upk 5 hb_ rfl rfl rfl), QB, fun h0_ => absurd ((hoff 7 (by kernel_rfl)).symm.trans h0_) (by decide), Q2, Q3, Q4, fun h0_ => absurd ((hoff 20 (by kernel_rfl)).symm.trans h0_) (by decide), fun h0_ => absurd ((hoff 21 (by kernel_rfl)).symm.trans h0_) (by decide)⟩
          refine steps_cons ?_ ?_
          · rintro b a w' ⟨x1, x2, x3, x4, bb, b2, ha, QB, Q1, Q2, Q3, Q4, Q5, Q6⟩ hb_ hon hoff
            refine ⟨_, rfl, fun K hK => ?_⟩
            have e51 : a.tmps[51]? = some (.pointer (some ⟨gm, 0, none⟩)) := by rw [ha]; exact putSel_on (e := (5, 51, .pointer (some ⟨gm, 0, none⟩))) 5 rfl rfl (hon 5 (by kernel_rfl)) rfl
            replace ha := Aside0.mk ha
            obtain ⟨c0, c1, c2, c3, c4, c5, c6, c7, c8⟩ := KA.out w' QB
            refine value_ (w1 := w') (v := .agg #[.int .i64 0, .int .i64 167772161, .int .i64 6, .int .i64 7, .int .i64 80, .int .i64 0, .bool false, .int .i64 0, .int .i64 0]) (by rfl) rfl ?_ ?_
            · go_simp
              (try simp only [hw2, hw3])
              try rfl
            exact hK.out _ _ ⟨x1, x2, x3, x4, bb, b2, (by rw [ha.out]; exact putSel_upk 6 hb_ rfl rfl rfl), QB, fun h0_ => absurd ((hoff 7 (by kernel_rfl)).symm.trans h0_) (by decide), Q2, Q3, Q4, fun h0_ => absurd ((hoff 20 (by kernel_rfl)).symm.trans h0_) (by decide), fun h0_ => absurd ((hoff 21 (by kernel_rfl)).symm.trans h0_) (by decide)⟩
          refine steps_cons ?_ ?_
          · rintro b a w' ⟨x1, x2, x3, x4, bb, b2, ha, QB, Q1, Q2, Q3, Q4, Q5, Q6⟩ hb_ hon hoff
            refine ⟨_, rfl, fun K hK => ?_⟩
            have e49 : a.tmps[49]? = some (.agg #[.int .i64 0, .int .i64 167772161, .int .i64 6, .int .i64 7, .int .i64 80, .int .i64 0, .bool false, .int .i64 0, .int .i64 0]) := by rw [ha]; exact putSel_on (e := (3, 49, .agg #[.int .i64 0, .int .i64 167772161, .int .i64 6, .int .i64 7, .int .i64 80, .int .i64 0, .bool false, .int .i64 0, .int .i64 0])) 3 rfl rfl (hon 3 (by kernel_rfl)) rfl
            have e52 : a.tmps[52]? = some (.agg #[.int .i64 0, .int .i64 167772161, .int .i64 6, .int .i64 7, .int .i64 80, .int .i64 0, .bool false, .int .i64 0, .int .i64 0]) := by rw [ha]; exact putSel_on (e := (6, 52, .agg #[.int .i64 0, .int .i64 167772161, .int .i64 6, .int .i64 7, .int .i64 80, .int .i64 0, .bool false, .int .i64 0, .int .i64 0])) 6 rfl rfl (hon 6 (by kernel_rfl)) rfl
            replace ha := Aside0.mk ha
            refine value_ (w1 := w'.alloc (.cells #[.int .i64 0, .int .i64 167772161, .int .i64 6, .int .i64 7, .int .i64 80, .int .i64 0, .bool false, .int .i64 0, .int .i64 0, .int .i64 0, .int .i64 167772161, .int .i64 6, .int .i64 7, .int .i64 80, .int .i64 0, .bool false, .int .i64 0, .int .i64 0] 37)) (v := .slice (some ⟨w'.heap.size, 0, none⟩) 2 2) (by rfl) rfl ?_ ?_
            · go_simp
              try rfl
            exact hK.out _ _ ⟨w'.heap.size, x2, x3, x4, bb, b2, (by rw [ha.out]; exact putSel_upk 7 hb_ rfl rfl rfl), below_alloc QB _, fun _ => blk_new _ _, fun h0_ => blk_alloc (Q2 h0_) _, fun h0_ => blk_alloc (Q3 h0_) _, fun h0_ => blk_alloc (Q4 h0_) _, fun h0_ => absurd ((hoff 20 (by kernel_rfl)).symm.trans h0_) (by decide), fun h0_ => absurd ((hoff 21 (by kernel_rfl)).symm.trans h0_) (by decide)⟩
          refine steps_cons ?_ ?_
          · rintro b a w' ⟨x1, x2, x3, x4, bb, b2, ha, QB, Q1, Q2, Q3, Q4, Q5, Q6⟩ hb_ hon hoff
            refine ⟨_, rfl, fun K hK => ?_⟩
            replace ha := Aside0.mk ha
            refine value_ (w1 := w') (v := .agg #[.int .i64 0, .int .i64 0, .int .i64 0, .int .i64 0, .int .i64 0, .int .i64 0, .bool false, .int .i64 0, .int .i64 0]) (by rfl) rfl ?_ ?_
            · go_simp
              (try simp only [hw2, hw3])
              try rfl
            exact hK.out _ _ ⟨x1, x2, x3, x4, bb, b2, (by rw [ha.out]; exact putSel_upk 8 hb_ rfl rfl rfl), QB, Q1, fun h0_ => absurd ((hoff 9 (by kernel_rfl)).symm.trans h0_) (by decide), Q3, Q4, fun h0_ => absurd ((hoff 20 (by kernel_rfl)).symm.trans h0_) (by decide), fun h0_ => absurd ((hoff 21 (by kernel_rfl)).symm.trans h0_) (by decide)⟩
          refine steps_cons ?_ ?_
          · rintro b a w' ⟨x1, x2, x3, x4, bb, b2, ha, QB, Q1, Q2, Q3, Q4, Q5, Q6⟩ hb_ hon hoff
            refine ⟨_, rfl, fun K hK => ?_⟩
            have e54 : a.tmps[54]? = some (.agg #[.int .i64 0, .int .i64 0, .int .i64 0, .int .i64 0, .int .i64 0, .int .i64 0, .bool false, .int .i64 0, .int .i64 0]) := by rw [ha]; exact putSel_on (e := (8, 54, .agg #[.int .i64 0, .int .i64 0, .int .i64 0, .int .i64 0, .int .i64 0, .int .i64 0, .bool false, .int .i64 0, .int .i64 0])) 8 rfl rfl (hon 8 (by kernel_rfl)) rfl
            replace ha := Aside0.mk ha
            refine value_ (w1 := w'.alloc (.cells #[.int .i64 0, .int .i64 0, .int .i64 0, .int .i64 0, .int .i64 0, .int .i64 0, .bool false, .int .i64 0, .int .i64 0] 37)) (v := .slice (some ⟨w'.heap.size, 0, none⟩) 1 1) (by rfl) rfl ?_ ?_
            · go_simp
              try rfl
            exact hK.out _ _ ⟨x1, w'.heap.size, x3, x4, bb, b2, (by rw [ha.out]; exact putSel_upk 9 hb_ rfl rfl rfl), below_alloc QB _, fun h0_ => blk_alloc (Q1 h0_) _, fun _ => blk_new _ _, fun h0_ => blk_alloc (Q3 h0_) _, fun h0_ => blk_alloc (Q4 h0_) _, fun h0_ => absurd ((hoff 20 (by kernel_rfl)).symm.trans h0_) (by decide), fun h0_ => absurd ((hoff 21 (by kernel_rfl)).symm.trans h0_) (by decide)⟩
          refine steps_cons ?_ ?_
          · rintro b a w' ⟨x1, x2, x3, x4, bb, b2, ha, QB, Q1, Q2, Q3, Q4, Q5, Q6⟩ hb_ hon hoff
            refine ⟨_, rfl, fun K hK => ?_⟩
            replace ha := Aside0.mk ha
            refine goes_ Try.func37 (by kernel_rfl) rfl #[.int .i64 1] (by rfl) rfl rfl (by first | (simp only [List.map_toArray, List.map_cons, List.map_nil, Act.eval, Array.getD_eq_getD_getElem?, Option.getD_some]; done) | (simp only [List.map_toArray, List.map_cons, List.map_nil, Act.eval, Array.getD_eq_getD_getElem?, Option.getD_some]; rfl)) ?_
            refine (fl_same 1 _).mono ?_
            rintro e wf ⟨rfl, rfl⟩
            refine ⟨_, rfl, ?_⟩
            exact hK.out _ _ ⟨x1, x2, x3, x4, bb, b2, (by rw [ha.out]; exact putSel_upk 10 hb_ rfl rfl rfl), below_alloc QB _, fun h0_ => blk_alloc (Q1 h0_) _, fun h0_ => blk_alloc (Q2 h0_) _, fun h0_ => absurd ((hoff 14 (by kernel_rfl)).symm.trans h0_) (by decide), fun h0_ => absurd ((hoff 19 (by kernel_rfl)).symm.trans h0_) (by decide), fun h0_ => absurd ((hoff 20 (by kernel_rfl)).symm.trans h0_) (by decide), fun h0_ => absurd ((hoff 21 (by kernel_rfl)).symm.trans h0_) (by decide)⟩
          refine steps_cons ?_ ?_
          · rintro b a w' ⟨x1, x2, x3, x4, bb, b2, ha, QB, Q1, Q2, Q3, Q4, Q5, Q6⟩ hb_ hon hoff
            refine ⟨_, rfl, fun K hK => ?_⟩
            have e5 : a.tmps[5]? = some (.int .i64 d) := by rw [ha]; exact (putSel_off rfl).trans rfl
            replace ha := Aside0.mk ha
            refine value_ (w1 := w') (v := .int .i64 d) (by rfl) rfl ?_ ?_
            · go_simp
              (try simp only [hw2, hw3])
              try rfl
            exact hK.out _ _ ⟨x1, x2, x3, x4, bb, b2, (by rw [ha.out]; exact putSel_upk 11 hb_ rfl rfl rfl), QB, Q1, Q2, fun h0_ => absurd ((hoff 14 (by kernel_rfl)).symm.trans h0_) (by decide), Q4, fun h0_ => absurd ((hoff 20 (by kernel_rfl)).symm.trans h0_) (by decide), fun h0_ => absurd ((hoff 21 (by kernel_rfl)).symm.trans h0_) (by decide)⟩
          refine steps_cons ?_ ?_
          · rintro b a w' ⟨x1, x2, x3, x4, bb, b2, ha, QB, Q1, Q2, Q3, Q4, Q5, Q6⟩ hb_ hon hoff
            refine ⟨_, rfl, fun K hK => ?_⟩
            have e57 : a.tmps[57]? = some (.int .i64 d) := by rw [ha]; exact putSel_on (e := (11, 57, .int .i64 d)) 11 rfl rfl (hon 11 (by kernel_rfl)) rfl
            replace ha := Aside0.mk ha
            refine value_ (w1 := w') (v := .int .i64 (-d)) (by rfl) rfl ?_ ?_
            · go_simp
              (try simp only [hw2, hw3])
              try rfl
            exact hK.out _ _ ⟨x1, x2, x3, x4, bb, b2, (by rw [ha.out]; exact putSel_upk 12 hb_ rfl rfl rfl), QB, Q1, Q2, fun h0_ => absurd ((hoff 14 (by kernel_rfl)).symm.trans h0_) (by decide), Q4, fun h0_ => absurd ((hoff 20 (by kernel_rfl)).symm.trans h0_) (by decide), fun h0_ => absurd ((hoff 21 (by kernel_rfl)).symm.trans h0_) (by decide)⟩
          refine steps_cons ?_ ?_
          · rintro b a w' ⟨x1, x2, x3, x4, bb, b2, ha, QB, Q1, Q2, Q3, Q4, Q5, Q6⟩ hb_ hon hoff
            refine ⟨_, rfl, fun K hK => ?_⟩
            have e56 : a.tmps[56]? = some (.agg #[.int .i64 1, .int .i64 167772161, .int .i64 6, .int .i64 7, .int .i64 80]) := by rw [ha]; exact putSel_on (e := (10, 56, .agg #[.int .i64 1, .int .i64 167772161, .int .i64 6, .int .i64 7, .int .i64 80])) 10 rfl rfl (hon 10 (by kernel_rfl)) rfl
            have e58 : a.tmps[58]? = some (.int .i64 (-d)) := by rw [ha]; exact putSel_on (e := (12, 58, .int .i64 (-d))) 12 rfl rfl (hon 12 (by kernel_rfl)) rfl
            replace ha := Aside0.mk ha
            refine value_ (w1 := w') (v := .agg #[.int .i64 1, .int .i64 167772161, .int .i64 6, .int .i64 7, .int .i64 80, .int .i64 (-d), .bool false, .int .i64 0, .int .i64 0]) (by rfl) rfl ?_ ?_
            · go_simp
              (try simp only [hw2, hw3])
              try rfl
            exact hK.out _ _ ⟨x1, x2, x3, x4, bb, b2, (by rw [ha.out]; exact putSel_upk 13 hb_ rfl rfl rfl), QB, Q1, Q2, fun h0_ => absurd ((hoff 14 (by kernel_rfl)).symm.trans h0_) (by decide), Q4, fun h0_ => absurd ((hoff 20 (by kernel_rfl)).symm.trans h0_) (by decide), fun h0_ => absurd ((hoff 21 (by kernel_rfl)).symm.trans h0_) (by decide)⟩
          refine steps_cons ?_ ?_
          · rintro b a w' ⟨x1, x2, x3, x4, bb, b2, ha, QB, Q1, Q2, Q3, Q4, Q5, Q6⟩ hb_ hon hoff
            refine ⟨_, rfl, fun K hK => ?_⟩
            have e59 : a.tmps[59]? = some (.agg #[.int .i64 1, .int .i64 167772161, .int .i64 6, .int .i64 7, .int .i64 80, .int .i64 (-d), .bool false, .int .i64 0, .int .i64 0]) := by rw [ha]; exact putSel_on (e := (13, 59, .agg #[.int .i64 1, .int .i64 167772161, .int .i64 6, .int .i64 7, .int .i64 80, .int .i64 (-d), .bool false, .int .i64 0, .int .i64 0])) 13 rfl rfl (hon 13 (by kernel_rfl)) rfl
            replace ha := Aside0.mk ha
            refine value_ (w1 := w'.alloc (.cells #[.int .i64 1, .int .i64 167772161, .int .i64 6, .int .i64 7, .int .i64 80, .int .i64 (-d), .bool false, .int .i64 0, .int .i64 0] 37)) (v := .slice (some ⟨w'.heap.size, 0, none⟩) 1 1) (by rfl) rfl ?_ ?_
            · go_simp
              try rfl
            exact hK.out _ _ ⟨x1, x2, w'.heap.size, x4, bb, b2, (by rw [ha.out]; exact putSel_upk 14 hb_ rfl rfl rfl), below_alloc QB _, fun h0_ => blk_alloc (Q1 h0_) _, fun h0_ => blk_alloc (Q2 h0_) _, fun _ => blk_new _ _, fun h0_ => blk_alloc (Q4 h0_) _, fun h0_ => absurd ((hoff 20 (by kernel_rfl)).symm.trans h0_) (by decide), fun h0_ => absurd ((hoff 21 (by kernel_rfl)).symm.trans h0_) (by decide)⟩
          refine steps_cons ?_ ?_
          · rintro b a w' ⟨x1, x2, x3, x4, bb, b2, ha, QB, Q1, Q2, Q3, Q4, Q5, Q6⟩ hb_ hon hoff
            refine ⟨_, rfl, fun K hK => ?_⟩
            replace ha := Aside0.mk ha
            refine goes_ Try.func37 (by kernel_rfl) rfl #[.int .i64 1] (by rfl) rfl rfl (by first | (simp only [List.map_toArray, List.map_cons, List.map_nil, Act.eval, Array.getD_eq_getD_getElem?, Option.getD_some]; done) | (simp only [List.map_toArray, List.map_cons, List.map_nil, Act.eval, Array.getD_eq_getD_getElem?, Option.getD_some]; rfl)) ?_
            refine (fl_same 1 _).mono ?_
            rintro e wf ⟨rfl, rfl⟩
            refine ⟨_, rfl, ?_⟩
            exact hK.out _ _ ⟨x1, x2, x3, x4, bb, b2, (by rw [ha.out]; exact putSel_upk 15 hb_ rfl rfl rfl), below_alloc QB _, fun h0_ => blk_alloc (Q1 h0_) _, fun h0_ => blk_alloc (Q2 h0_) _, fun h0_ => blk_alloc (Q3 h0_) _, fun h0_ => absurd ((hoff 19 (by kernel_rfl)).symm.trans h0_) (by decide), fun h0_ => absurd ((hoff 20 (by kernel_rfl)).symm.trans h0_) (by decide), fun h0_ => absurd ((hoff 21 (by kernel_rfl)).symm.trans h0_) (by decide)⟩
          refine steps_cons ?_ ?_
          · rintro b a w' ⟨x1, x2, x3, x4, bb, b2, ha, QB, Q1, Q2, Q3, Q4, Q5, Q6⟩ hb_ hon hoff
            refine ⟨_, rfl, fun K hK => ?_⟩
            have e5 : a.tmps[5]? = some (.int .i64 d) := by rw [ha]; exact (putSel_off rfl).trans rfl
            replace ha := Aside0.mk ha
            refine value_ (w1 := w') (v := .int .i64 d) (by rfl) rfl ?_ ?_
            · go_simp
              (try simp only [hw2, hw3])
              try rfl
            exact hK.out _ _ ⟨x1, x2, x3, x4, bb, b2, (by rw [ha.out]; exact putSel_upk 16 hb_ rfl rfl rfl), QB, Q1, Q2, Q3, fun h0_ => absurd ((hoff 19 (by kernel_rfl)).symm.trans h0_) (by decide), fun h0_ => absurd ((hoff 20 (by kernel_rfl)).symm.trans h0_) (by decide), fun h0_ => absurd ((hoff 21 (by kernel_rfl)).symm.trans h0_) (by decide)⟩
          refine steps_cons ?_ ?_
          · rintro b a w' ⟨x1, x2, x3, x4, bb, b2, ha, QB, Q1, Q2, Q3, Q4, Q5, Q6⟩ hb_ hon hoff
            refine ⟨_, rfl, fun K hK => ?_⟩
            have e62 : a.tmps[62]? = some (.int .i64 d) := by rw [ha]; exact putSel_on (e := (16, 62, .int .i64 d)) 16 rfl rfl (hon 16 (by kernel_rfl)) rfl
            replace ha := Aside0.mk ha
            refine value_ (w1 := w') (v := .int .i64 (-d)) (by rfl) rfl ?_ ?_
            · go_simp
              (try simp only [hw2, hw3])
              try rfl
            exact hK.out _ _ ⟨x1, x2, x3, x4, bb, b2, (by rw [ha.out]; exact putSel_upk 17 hb_ rfl rfl rfl), QB, Q1, Q2, Q3, fun h0_ => absurd ((hoff 19 (by kernel_rfl)).symm.trans h0_) (by decide), fun h0_ => absurd ((hoff 20 (by kernel_rfl)).symm.trans h0_) (by decide), fun h0_ => absurd ((hoff 21 (by kernel_rfl)).symm.trans h0_) (by decide)⟩
          refine steps_cons ?_ ?_
          · rintro b a w' ⟨x1, x2, x3, x4, bb, b2, ha, QB, Q1, Q2, Q3, Q4, Q5, Q6⟩ hb_ hon hoff
            refine ⟨_, rfl, fun K hK => ?_⟩
            have e61 : a.tmps[61]? = some (.agg #[.int .i64 1, .int .i64 167772161, .int .i64 6, .int .i64 7, .int .i64 80]) := by rw [ha]; exact putSel_on (e := (15, 61, .agg #[.int .i64 1, .int .i64 167772161, .int .i64 6, .int .i64 7, .int .i64 80])) 15 rfl rfl (hon 15 (by kernel_rfl)) rfl
            have e63 : a.tmps[63]? = some (.int .i64 (-d)) := by rw [ha]; exact putSel_on (e := (17, 63, .int .i64 (-d))) 17 rfl rfl (hon 17 (by kernel_rfl)) rfl
            replace ha := Aside0.mk ha
            refine value_ (w1 := w') (v := .agg #[.int .i64 1, .int .i64 167772161, .int .i64 6, .int .i64 7, .int .i64 80, .int .i64 0, .bool false, .int .i64 0, .int .i64 (-d)]) (by rfl) rfl ?_ ?_
            · go_simp
              (try simp only [hw2, hw3])
              try rfl
            exact hK.out _ _ ⟨x1, x2, x3, x4, bb, b2, (by rw [ha.out]; exact putSel_upk 18 hb_ rfl rfl rfl), QB, Q1, Q2, Q3, fun h0_ => absurd ((hoff 19 (by kernel_rfl)).symm.trans h0_) (by decide), fun h0_ => absurd ((hoff 20 (by kernel_rfl)).symm.trans h0_) (by decide), fun h0_ => absurd ((hoff 21 (by kernel_rfl)).symm.trans h0_) (by decide)⟩
          refine steps_cons ?_ ?_
          · rintro b a w' ⟨x1, x2, x3, x4, bb, b2, ha, QB, Q1, Q2, Q3, Q4, Q5, Q6⟩ hb_ hon hoff
            refine ⟨_, rfl, fun K hK => ?_⟩
            have e64 : a.tmps[64]? = some (.agg #[.int .i64 1, .int .i64 167772161, .int .i64 6, .int .i64 7, .int .i64 80, .int .i64 0, .bool false, .int .i64 0, .int .i64 (-d)]) := by rw [ha]; exact putSel_on (e := (18, 64, .agg #[.int .i64 1, .int .i64 167772161, .int .i64 6, .int .i64 7, .int .i64 80, .int .i64 0, .bool false, .int .i64 0, .int .i64 (-d)])) 18 rfl rfl (hon 18 (by kernel_rfl)) rfl
            replace ha := Aside0.mk ha
            refine value_ (w1 := w'.alloc (.cells #[.int .i64 1, .int .i64 167772161, .int .i64 6, .int .i64 7, .int .i64 80, .int .i64 0, .bool false, .int .i64 0, .int .i64 (-d)] 37)) (v := .slice (some ⟨w'.heap.size, 0, none⟩) 1 1) (by rfl) rfl ?_ ?_
            · go_simp
              try rfl
            exact hK.out _ _ ⟨x1, x2, x3, w'.heap.size, bb, b2, (by rw [ha.out]; exact putSel_upk 19 hb_ rfl rfl rfl), below_alloc QB _, fun h0_ => blk_alloc (Q1 h0_) _, fun h0_ => blk_alloc (Q2 h0_) _, fun h0_ => blk_alloc (Q3 h0_) _, fun _ => blk_new _ _, fun h0_ => absurd ((hoff 20 (by kernel_rfl)).symm.trans h0_) (by decide), fun h0_ => absurd ((hoff 21 (by kernel_rfl)).symm.trans h0_) (by decide)⟩
          refine steps_cons ?_ ?_
          · rintro b a w' ⟨x1, x2, x3, x4, bb, b2, ha, QB, Q1, Q2, Q3, Q4, Q5, Q6⟩ hb_ hon hoff
            refine ⟨_, rfl, fun K hK => ?_⟩
            have e46 : a.tmps[46]? = some (.slice (some ⟨gm, 0, none⟩) 9 cm) := by rw [ha]; exact putSel_on (e := (0, 46, .slice (some ⟨gm, 0, none⟩) 9 cm)) 0 rfl rfl (hon 0 (by kernel_rfl)) rfl
            have e53 : a.tmps[53]? = some (.slice (some ⟨x1, 0, none⟩) 2 2) := by rw [ha]; exact putSel_on (e := (7, 53, .slice (some ⟨x1, 0, none⟩) 2 2)) 7 rfl rfl (hon 7 (by kernel_rfl)) rfl
            have e55 : a.tmps[55]? = some (.slice (some ⟨x2, 0, none⟩) 1 1) := by rw [ha]; exact putSel_on (e := (9, 55, .slice (some ⟨x2, 0, none⟩) 1 1)) 9 rfl rfl (hon 9 (by kernel_rfl)) rfl
            have e60 : a.tmps[60]? = some (.slice (some ⟨x3, 0, none⟩) 1 1) := by rw [ha]; exact putSel_on (e := (14, 60, .slice (some ⟨x3, 0, none⟩) 1 1)) 14 rfl rfl (hon 14 (by kernel_rfl)) rfl
            have e65 : a.tmps[65]? = some (.slice (some ⟨x4, 0, none⟩) 1 1) := by rw [ha]; exact putSel_on (e := (19, 65, .slice (some ⟨x4, 0, none⟩) 1 1)) 19 rfl rfl (hon 19 (by kernel_rfl)) rfl
            replace ha := Aside0.mk ha
            refine value_ (w1 := w'.alloc (.cells #[.slice (some ⟨gm, 0, none⟩) 9 cm, .slice (some ⟨x1, 0, none⟩) 2 2, .slice (some ⟨x2, 0, none⟩) 1 1, .slice (some ⟨x3, 0, none⟩) 1 1, .slice (some ⟨x4, 0, none⟩) 1 1] 33)) (v := .slice (some ⟨w'.heap.size, 0, none⟩) 5 5) (by rfl) rfl ?_ ?_
            · go_simp
              try rfl
            exact hK.out _ _ ⟨x1, x2, x3, x4, w'.heap.size, b2, (by rw [ha.out]; exact putSel_upk 20 hb_ rfl rfl rfl), below_alloc QB _, fun h0_ => blk_alloc (Q1 h0_) _, fun h0_ => blk_alloc (Q2 h0_) _, fun h0_ => blk_alloc (Q3 h0_) _, fun h0_ => blk_alloc (Q4 h0_) _, fun _ => blk_new _ _, fun h0_ => absurd ((hoff 21 (by kernel_rfl)).symm.trans h0_) (by decide)⟩
          refine steps_cons ?_ ?_
          · rintro b a w' ⟨x1, x2, x3, x4, bb, b2, ha, QB, Q1, Q2, Q3, Q4, Q5, Q6⟩ hb_ hon hoff
            refine ⟨_, rfl, fun K hK => ?_⟩
            have e66 : a.tmps[66]? = some (.slice (some ⟨bb, 0, none⟩) 5 5) := by rw [ha]; exact putSel_on (e := (20, 66, .slice (some ⟨bb, 0, none⟩) 5 5)) 20 rfl rfl (hon 20 (by kernel_rfl)) rfl
            replace ha := Aside0.mk ha
            refine value_ (w1 := w') (v := .slice (some ⟨bb, 0, none⟩) 5 5) (by rfl) rfl ?_ ?_
            · go_simp
              (try simp only [hw2, hw3])
              try rfl
            exact hK.out _ _ ⟨x1, x2, x3, x4, bb, bb, (by rw [ha.out]; exact putSel_upk 21 hb_ rfl rfl rfl), QB, Q1, Q2, Q3, Q4, Q5, fun _ => rfl⟩
          exact steps_nil
        rintro b a w30 hall ⟨x1, x2, x3, x4, bb, b2, ha, QB, Q1, Q2, Q3, Q4, Q5, Q6⟩
        have hb0_ := hall 0 (by kernel_rfl)
        have hb1_ := hall 1 (by kernel_rfl)
        have hb2_ := hall 2 (by kernel_rfl)
        have hb3_ := hall 3 (by kernel_rfl)
        have hb4_ := hall 4 (by kernel_rfl)
        have hb5_ := hall 5 (by kernel_rfl)
        have hb6_ := hall 6 (by kernel_rfl)
        have hb7_ := hall 7 (by kernel_rfl)
        have hb8_ := hall 8 (by kernel_rfl)
        have hb9_ := hall 9 (by kernel_rfl)
        have hb10_ := hall 10 (by kernel_rfl)
        have hb11_ := hall 11 (by kernel_rfl)
        have hb12_ := hall 12 (by kernel_rfl)
        have hb13_ := hall 13 (by kernel_rfl)
        have hb14_ := hall 14 (by kernel_rfl)
        have hb15_ := hall 15 (by kernel_rfl)
        have hb16_ := hall 16 (by kernel_rfl)
        have hb17_ := hall 17 (by kernel_rfl)
        have hb18_ := hall 18 (by kernel_rfl)
        have hb19_ := hall 19 (by kernel_rfl)
        have hb20_ := hall 20 (by kernel_rfl)
        have hb21_ := hall 21 (by kernel_rfl)
        subst ha
        simp only [putSel, hb0_, hb1_, hb2_, hb3_, hb4_, hb5_, hb6_, hb7_, hb8_, hb9_, hb10_, hb11_, hb12_, hb13_, hb14_, hb15_, hb16_, hb17_, hb18_, hb19_, hb20_, hb21_, if_true, Act.put, List.setIfInBounds_toArray, List.set_cons_zero, List.set_cons_succ]
        have QB1 := Q1 hb7_
        have QB2 := Q2 hb9_
        have QB3 := Q3 hb14_
        have QB4 := Q4 hb19_
        have QB5 := Q5 hb20_
        obtain rfl := Q6 hb21_
        go_wp2_with fail
        go_meet
        exact ⟨_, x1, x2, x3, x4, rfl, ⟨QB5⟩, ⟨QB1⟩, ⟨QB2⟩, ⟨QB3⟩, ⟨QB4⟩, ⟨QB⟩⟩
      case rest =>
        obtain ⟨bb, x1, x2, x3, x4, rfl, HBB, HX1, HX2, HX3, HX4, ⟨hb⟩⟩ := hcut
        replace HRM := Aside0.mk (Kd.C_below HRM.out hb)
        replace HB := Aside0.mk (below_step HB.out hb)
        clear hb HKM m0a m0b m1a m1b m2a m2b m3a m3b m4a m4b m5a m5b m6a m6b m7a m7b k0 k1 k2 k3 k4 k5 k6 k7 k8
        go_upto_region 10 with fail
        go_cut [9] (fun s9 wx => CB wc s9 wx)
        case first =>
          have hcs : p = 0 ∨ p = 1 ∨ p = 2 ∨ p = 3 ∨ p = 4 := by have := HP.out; omega
          have b0 : wc.cell? ⟨bb, 0, none⟩ = some (.slice (some ⟨gm, 0, none⟩) 9 cm) := (blk_cell HBB.out 0).trans rfl
          have b1 : wc.cell? ⟨bb, 1, none⟩ = some (.slice (some ⟨x1, 0, none⟩) 2 2) := (blk_cell HBB.out 1).trans rfl
          have b2 : wc.cell? ⟨bb, 2, none⟩ = some (.slice (some ⟨x2, 0, none⟩) 1 1) := (blk_cell HBB.out 2).trans rfl
          have b3 : wc.cell? ⟨bb, 3, none⟩ = some (.slice (some ⟨x3, 0, none⟩) 1 1) := (blk_cell HBB.out 3).trans rfl
          have b4 : wc.cell? ⟨bb, 4, none⟩ = some (.slice (some ⟨x4, 0, none⟩) 1 1) := (blk_cell HBB.out 4).trans rfl
          rcases hcs with rfl | rfl | rfl | rfl | rfl
          · go_wp2_with fail
            go_meet
            exact CB.mk' (some ⟨gm, 0, none⟩) 9 cm (manyL 9) rfl HCM.out HRM.out (by kernel_rfl) (Below.refl _ _)
          · go_wp2_with fail
            go_meet
            exact CB.mk' (some ⟨x1, 0, none⟩) 2 2 [⟨⟨0, 167772161, 6, 7, 80⟩, 0, false, 0, 0⟩, ⟨⟨0, 167772161, 6, 7, 80⟩, 0, false, 0, 0⟩] rfl (Nat.le_refl _) (ce_ents HX1.out [⟨⟨0, 167772161, 6, 7, 80⟩, 0, false, 0, 0⟩, ⟨⟨0, 167772161, 6, 7, 80⟩, 0, false, 0, 0⟩] (by simp) rfl) (by kernel_rfl) (Below.refl _ _)
          · go_wp2_with fail
            go_meet
            exact CB.mk' (some ⟨x2, 0, none⟩) 1 1 [⟨⟨0, 0, 0, 0, 0⟩, 0, false, 0, 0⟩] rfl (Nat.le_refl _) (ce_ents HX2.out [⟨⟨0, 0, 0, 0, 0⟩, 0, false, 0, 0⟩] (by simp) rfl) (by kernel_rfl) (Below.refl _ _)
          · go_wp2_with fail
            go_meet
            exact CB.mk' (some ⟨x3, 0, none⟩) 1 1 [⟨⟨1, 167772161, 6, 7, 80⟩, -d, false, 0, 0⟩] rfl (Nat.le_refl _) (ce_ents HX3.out [⟨⟨1, 167772161, 6, 7, 80⟩, -d, false, 0, 0⟩] (by simp) rfl) (bad_to d HD.out.1) (Below.refl _ _)
          · go_wp2_with fail
            go_meet
            exact CB.mk' (some ⟨x4, 0, none⟩) 1 1 [⟨⟨1, 167772161, 6, 7, 80⟩, 0, false, 0, -d⟩] rfl (Nat.le_refl _) (ce_ents HX4.out [⟨⟨1, 167772161, 6, 7, 80⟩, 0, false, 0, -d⟩] (by simp) rfl) (bad_used d HD.out.1) (Below.refl _ _)
        case rest =>
          obtain ⟨A, n, c, l, rfl, rfl, HLc, HRb, HM, ⟨hb⟩⟩ := hcut
          replace HRM := Aside0.mk (Kd.C_below HRM.out hb)
          replace HB := Aside0.mk (below_step HB.out hb)
          clear hb hp HP HBB HX1 HX2 HX3 HX4
          have hd2 := HD.out
          have hw3 : wrap64 (-d) = -d := by unfold wrap64; omega
          have hw4 : wrap64 (1048576 + d) = 1048576 + d := by unfold wrap64; omega
          have hs2 := bad_time (-d) (by omega)
          have hs3 := bad_time (1048576 + d) (by omega)
          have hs4 := bad_phase d (by omega)
          have hc9 : 8 ≤ cm := by have := HCM.out; omega
          have hc9i : (8 : Int) ≤ (cm : Int) := by omega
          have hc8 : (manyL 8).length ≤ cm := by have := HCM.out; rw [manyL_len]; omega
          have k0 : wc.cell? ⟨gm, 0, none⟩ = some (.int .i64 0) := ndE_get HRM.out 0 0 0 _ _ rfl rfl rfl
          have k1 : wc.cell? ⟨gm, 1, none⟩ = some (.int .i64 167772161) := ndE_get HRM.out 1 0 1 _ _ rfl rfl rfl
          have k2 : wc.cell? ⟨gm, 2, none⟩ = some (.int .i64 6) := ndE_get HRM.out 2 0 2 _ _ rfl rfl rfl
          have k3 : wc.cell? ⟨gm, 3, none⟩ = some (.int .i64 7) := ndE_get HRM.out 3 0 3 _ _ rfl rfl rfl
          have k4 : wc.cell? ⟨gm, 4, none⟩ = some (.int .i64 80) := ndE_get HRM.out 4 0 4 _ _ rfl rfl rfl
          have k5 : wc.cell? ⟨gm, 5, none⟩ = some (.int .i64 0) := ndE_get HRM.out 5 0 5 _ _ rfl rfl rfl
          have k6 : wc.cell? ⟨gm, 6, none⟩ = some (.bool false) := ndE_get HRM.out 6 0 6 _ _ rfl rfl rfl
          have k7 : wc.cell? ⟨gm, 7, none⟩ = some (.int .i64 0) := ndE_get HRM.out 7 0 7 _ _ rfl rfl rfl
          have k8 : wc.cell? ⟨gm, 8, none⟩ = some (.int .i64 0) := ndE_get HRM.out 8 0 8 _ _ rfl rfl rfl
          go_wp2_with (first
            | (go_at_call 25; (with_reducible refine calls_of_args (args' := #[Value.slice A l.length c, Value.agg #[Value.int IntKind.i64 0, Value.int IntKind.i64 167772161, Value.int IntKind.i64 6, Value.int IntKind.i64 7, Value.int IntKind.i64 80], Value.int IntKind.i64 0]) rfl ?_); refine (cache_Find.calls 60 A c l 0 167772161 6 7 80 0 0 0 0 0 0 0 false 0 0 false _ HRb.out HLc.out (bad_find _ _ _ _ _ _ _ HM.out)).mono ?_; rintro e wn ⟨rfl, hcb⟩; replace HRb := Aside0.mk (Kd.C_below HRb.out hcb); replace HRM := Aside0.mk (Kd.C_below HRM.out hcb); replace HB := Aside0.mk (below_step HB.out hcb); replace k0 := pw_cell_below hcb k0; replace k1 := pw_cell_below hcb k1; replace k2 := pw_cell_below hcb k2; replace k3 := pw_cell_below hcb k3; replace k4 := pw_cell_below hcb k4; replace k5 := pw_cell_below hcb k5; replace k6 := pw_cell_below hcb k6; replace k7 := pw_cell_below hcb k7; replace k8 := pw_cell_below hcb k8; clear hcb; have kz0 : ∀ o_, (wn.alloc o_).cell? ⟨gm, 0, none⟩ = some (.int .i64 0) := (fun o_ => pw_cell_below (below_alloc (Below.refl _ _) _) k0); have kz1 : ∀ o_, (wn.alloc o_).cell? ⟨gm, 1, none⟩ = some (.int .i64 167772161) := (fun o_ => pw_cell_below (below_alloc (Below.refl _ _) _) k1); have kz2 : ∀ o_, (wn.alloc o_).cell? ⟨gm, 2, none⟩ = some (.int .i64 6) := (fun o_ => pw_cell_below (below_alloc (Below.refl _ _) _) k2); have kz3 : ∀ o_, (wn.alloc o_).cell? ⟨gm, 3, none⟩ = some (.int .i64 7) := (fun o_ => pw_cell_below (below_alloc (Below.refl _ _) _) k3); have kz4 : ∀ o_, (wn.alloc o_).cell? ⟨gm, 4, none⟩ = some (.int .i64 80) := (fun o_ => pw_cell_below (below_alloc (Below.refl _ _) _) k4); have kz5 : ∀ o_, (wn.alloc o_).cell? ⟨gm, 5, none⟩ = some (.int .i64 0) := (fun o_ => pw_cell_below (below_alloc (Below.refl _ _) _) k5); have kz6 : ∀ o_, (wn.alloc o_).cell? ⟨gm, 6, none⟩ = some (.bool false) := (fun o_ => pw_cell_below (below_alloc (Below.refl _ _) _) k6); have kz7 : ∀ o_, (wn.alloc o_).cell? ⟨gm, 7, none⟩ = some (.int .i64 0) := (fun o_ => pw_cell_below (below_alloc (Below.refl _ _) _) k7); have kz8 : ∀ o_, (wn.alloc o_).cell? ⟨gm, 8, none⟩ = some (.int .i64 0) := (fun o_ => pw_cell_below (below_alloc (Below.refl _ _) _) k8); skip)
            | (go_at_call 23; (with_reducible refine calls_of_args (args' := #[Value.slice A l.length c, Value.agg #[Value.int IntKind.i64 0, Value.int IntKind.i64 167772161, Value.int IntKind.i64 6, Value.int IntKind.i64 7, Value.int IntKind.i64 80, Value.int IntKind.i64 0, Value.bool false, Value.int IntKind.i64 0, Value.int IntKind.i64 0]]) rfl ?_); refine (cache_Put.calls 60 A c l 0 167772161 6 7 80 0 false 0 0 [] 0 0 0 0 0 0 false 0 0 false 1600 _ (Kd.C_alloc HRb.out _) HLc.out (bad_put _ _ _ _ _ _ _ _ _ _ HM.out)).mono ?_; rintro e wn ⟨v7, rfl, ho, hcb⟩; obtain ⟨A7, n7, rfl, _⟩ := Kd.Q_slice ho; clear ho; clear kz0 kz1 kz2 kz3 kz4 kz5 kz6 kz7 kz8; replace hcb := below_step (below_alloc (Below.refl _ _) _) hcb; replace HRb := Aside0.mk (Kd.C_below HRb.out hcb); replace HRM := Aside0.mk (Kd.C_below HRM.out hcb); replace HB := Aside0.mk (below_step HB.out hcb); replace k0 := pw_cell_below hcb k0; replace k1 := pw_cell_below hcb k1; replace k2 := pw_cell_below hcb k2; replace k3 := pw_cell_below hcb k3; replace k4 := pw_cell_below hcb k4; replace k5 := pw_cell_below hcb k5; replace k6 := pw_cell_below hcb k6; replace k7 := pw_cell_below hcb k7; replace k8 := pw_cell_below hcb k8; clear hcb)
            | (go_at_call 27; (with_reducible refine calls_of_args (args' := #[Value.slice A l.length c, Value.agg #[Value.int IntKind.i64 0, Value.int IntKind.i64 167772161, Value.int IntKind.i64 6, Value.int IntKind.i64 7, Value.int IntKind.i64 80]]) rfl ?_); refine (cache_Drop.calls 60 A c l 0 167772161 6 7 80 [] 1600 _ HRb.out HLc.out (bad_drop _ _ _ _ _ _ HM.out)).mono ?_; rintro e wn ⟨v8, rfl, ho, hcb⟩; clear ho; replace HRb := Aside0.mk (Kd.C_below HRb.out hcb); replace HRM := Aside0.mk (Kd.C_below HRM.out hcb); replace HB := Aside0.mk (below_step HB.out hcb); replace k0 := pw_cell_below hcb k0; replace k1 := pw_cell_below hcb k1; replace k2 := pw_cell_below hcb k2; replace k3 := pw_cell_below hcb k3; replace k4 := pw_cell_below hcb k4; replace k5 := pw_cell_below hcb k5; replace k6 := pw_cell_below hcb k6; replace k7 := pw_cell_below hcb k7; replace k8 := pw_cell_below hcb k8; clear hcb)
            | (go_at_call 29; (with_reducible refine calls_of_args (args' := #[Value.slice A l.length c, Value.int IntKind.i64 0]) rfl ?_); refine (cache_Sweep.calls 60 A c l 0 [] [] 1600 _ HRb.out HLc.out (bad_sweep _ _ HM.out)).mono ?_; rintro e wn ⟨v9, u9, rfl, ho, ho2, hcb⟩; clear ho ho2; replace HRb := Aside0.mk (Kd.C_below HRb.out hcb); replace HRM := Aside0.mk (Kd.C_below HRM.out hcb); replace HB := Aside0.mk (below_step HB.out hcb); replace k0 := pw_cell_below hcb k0; replace k1 := pw_cell_below hcb k1; replace k2 := pw_cell_below hcb k2; replace k3 := pw_cell_below hcb k3; replace k4 := pw_cell_below hcb k4; replace k5 := pw_cell_below hcb k5; replace k6 := pw_cell_below hcb k6; replace k7 := pw_cell_below hcb k7; replace k8 := pw_cell_below hcb k8; clear hcb)
            | (go_at_call 29; (with_reducible refine calls_of_args (args' := #[Value.slice none 0 0, Value.int IntKind.i64 (-d)]) rfl ?_); refine (cache_Sweep.calls 60 none 0 [] (-d) [] [] 1600 _ (Kd.C_nil _ _) (Nat.le_refl _) hs2).mono ?_; rintro e wn ⟨v9, u9, rfl, ho, ho2, hcb⟩; clear ho ho2; replace HRb := Aside0.mk (Kd.C_below HRb.out hcb); replace HRM := Aside0.mk (Kd.C_below HRM.out hcb); replace HB := Aside0.mk (below_step HB.out hcb); replace k0 := pw_cell_below hcb k0; replace k1 := pw_cell_below hcb k1; replace k2 := pw_cell_below hcb k2; replace k3 := pw_cell_below hcb k3; replace k4 := pw_cell_below hcb k4; replace k5 := pw_cell_below hcb k5; replace k6 := pw_cell_below hcb k6; replace k7 := pw_cell_below hcb k7; replace k8 := pw_cell_below hcb k8; clear hcb)
            | (go_at_call 29; (with_reducible refine calls_of_args (args' := #[Value.slice none 0 0, Value.int IntKind.i64 (1048576 + d)]) rfl ?_); refine (cache_Sweep.calls 60 none 0 [] (1048576 + d) [] [] 1600 _ (Kd.C_nil _ _) (Nat.le_refl _) hs3).mono ?_; rintro e wn ⟨v9, u9, rfl, ho, ho2, hcb⟩; clear ho ho2; replace HRb := Aside0.mk (Kd.C_below HRb.out hcb); replace HRM := Aside0.mk (Kd.C_below HRM.out hcb); replace HB := Aside0.mk (below_step HB.out hcb); replace k0 := pw_cell_below hcb k0; replace k1 := pw_cell_below hcb k1; replace k2 := pw_cell_below hcb k2; replace k3 := pw_cell_below hcb k3; replace k4 := pw_cell_below hcb k4; replace k5 := pw_cell_below hcb k5; replace k6 := pw_cell_below hcb k6; replace k7 := pw_cell_below hcb k7; replace k8 := pw_cell_below hcb k8; clear hcb)
            | (go_at_call 23; (with_reducible refine calls_of_args (args' := #[Value.slice none 0 0, Value.agg #[Value.int IntKind.i64 1, Value.int IntKind.i64 167772161, Value.int IntKind.i64 6, Value.int IntKind.i64 7, Value.int IntKind.i64 80, Value.int IntKind.i64 0, Value.bool false, Value.int IntKind.i64 (-d), Value.int IntKind.i64 0]]) rfl ?_); refine (cache_Put.calls 60 none 0 [] 1 167772161 6 7 80 0 false (-d) 0 [] 0 0 0 0 0 0 false 0 0 false 1600 _ (Kd.C_nil _ _) (Nat.le_refl _) hs4).mono ?_; rintro e wn ⟨v10, rfl, ho, hcb⟩; clear ho; replace HRb := Aside0.mk (Kd.C_below HRb.out hcb); replace HRM := Aside0.mk (Kd.C_below HRM.out hcb); replace HB := Aside0.mk (below_step HB.out hcb); replace k0 := pw_cell_below hcb k0; replace k1 := pw_cell_below hcb k1; replace k2 := pw_cell_below hcb k2; replace k3 := pw_cell_below hcb k3; replace k4 := pw_cell_below hcb k4; replace k5 := pw_cell_below hcb k5; replace k6 := pw_cell_below hcb k6; replace k7 := pw_cell_below hcb k7; replace k8 := pw_cell_below hcb k8; clear hcb)
            | (go_at_call 32; (with_reducible refine calls_of_args (args' := #[Value.slice A l.length c]) rfl ?_); refine (cache_May.calls 60 A c l false _ HRb.out HLc.out HM.out).mono ?_; rintro e wn ⟨rfl, hcb⟩; replace HRb := Aside0.mk (Kd.C_below HRb.out hcb); replace HRM := Aside0.mk (Kd.C_below HRM.out hcb); replace HB := Aside0.mk (below_step HB.out hcb); replace k0 := pw_cell_below hcb k0; replace k1 := pw_cell_below hcb k1; replace k2 := pw_cell_below hcb k2; replace k3 := pw_cell_below hcb k3; replace k4 := pw_cell_below hcb k4; replace k5 := pw_cell_below hcb k5; replace k6 := pw_cell_below hcb k6; replace k7 := pw_cell_below hcb k7; replace k8 := pw_cell_below hcb k8; clear hcb)
            | (go_at_call 32; (with_reducible refine calls_of_args (args' := #[Value.slice A l.length c]) rfl ?_); refine (cache_May.calls 60 A c l false _ (Kd.C_alloc HRb.out _) HLc.out HM.out).mono ?_; rintro e wn ⟨rfl, hcb⟩; replace hcb := below_step (below_alloc (Below.refl _ _) _) hcb; replace HRb := Aside0.mk (Kd.C_below HRb.out hcb); replace HRM := Aside0.mk (Kd.C_below HRM.out hcb); replace HB := Aside0.mk (below_step HB.out hcb); replace k0 := pw_cell_below hcb k0; replace k1 := pw_cell_below hcb k1; replace k2 := pw_cell_below hcb k2; replace k3 := pw_cell_below hcb k3; replace k4 := pw_cell_below hcb k4; replace k5 := pw_cell_below hcb k5; replace k6 := pw_cell_below hcb k6; replace k7 := pw_cell_below hcb k7; replace k8 := pw_cell_below hcb k8; clear hcb)
            | (go_at_call 32; (with_reducible refine calls_of_args (args' := #[Value.slice (some ⟨gm, 0, none⟩) 8 cm]) rfl ?_); refine (cache_May.calls 60 (some ⟨gm, 0, none⟩) cm (manyL 8) true _ (Go.Proofs.Ytnocfhnandedoab.Hand.hk_head (n := 8) (m := 9) (xs := manyL 8) (ys := [⟨⟨8, 167772161, 6, 7, 80⟩, 0, false, 0, 0⟩]) HRM.out rfl) hc8 (by kernel_rfl)).mono ?_; rintro e wn ⟨rfl, hcb⟩; replace HRb := Aside0.mk (Kd.C_below HRb.out hcb); replace HRM := Aside0.mk (Kd.C_below HRM.out hcb); replace HB := Aside0.mk (below_step HB.out hcb); replace k0 := pw_cell_below hcb k0; replace k1 := pw_cell_below hcb k1; replace k2 := pw_cell_below hcb k2; replace k3 := pw_cell_below hcb k3; replace k4 := pw_cell_below hcb k4; replace k5 := pw_cell_below hcb k5; replace k6 := pw_cell_below hcb k6; replace k7 := pw_cell_below hcb k7; replace k8 := pw_cell_below hcb k8; clear hcb)
            | (go_at_call 37; refine (fl_same _ _).mono ?_; rintro e wf ⟨rfl, hWf⟩; have hcb := wf_below hWf; clear hWf; replace HRb := Aside0.mk (Kd.C_below HRb.out hcb); replace HRM := Aside0.mk (Kd.C_below HRM.out hcb); replace HB := Aside0.mk (below_step HB.out hcb); replace k0 := pw_cell_below hcb k0; replace k1 := pw_cell_below hcb k1; replace k2 := pw_cell_below hcb k2; replace k3 := pw_cell_below hcb k3; replace k4 := pw_cell_below hcb k4; replace k5 := pw_cell_below hcb k5; replace k6 := pw_cell_below hcb k6; replace k7 := pw_cell_below hcb k7; replace k8 := pw_cell_below hcb k8; clear hcb)
            | (go_at_call 37; refine (fl_same _ _).mono ?_; rintro e wf ⟨rfl, hWf⟩; have hcb := wf_below hWf; clear hWf; replace hcb := below_step (below_alloc (Below.refl _ _) _) hcb; replace HRb := Aside0.mk (Kd.C_below HRb.out hcb); replace HRM := Aside0.mk (Kd.C_below HRM.out hcb); replace HB := Aside0.mk (below_step HB.out hcb); replace k0 := pw_cell_below hcb k0; replace k1 := pw_cell_below hcb k1; replace k2 := pw_cell_below hcb k2; replace k3 := pw_cell_below hcb k3; replace k4 := pw_cell_below hcb k4; replace k5 := pw_cell_below hcb k5; replace k6 := pw_cell_below hcb k6; replace k7 := pw_cell_below hcb k7; replace k8 := pw_cell_below hcb k8; clear hcb)
            | (go_at_call 17; refine (wharfagelaw0_Num.calls _ _ _ rfl).mono ?_; rintro e wn ⟨rfl, hn⟩; have hcb := Go.Proofs.Ytnocfhnandedoab.Hand.hk_drawn hn; clear hn; replace HRb := Aside0.mk (Kd.C_below HRb.out hcb); replace HRM := Aside0.mk (Kd.C_below HRM.out hcb); replace HB := Aside0.mk (below_step HB.out hcb); replace k0 := pw_cell_below hcb k0; replace k1 := pw_cell_below hcb k1; replace k2 := pw_cell_below hcb k2; replace k3 := pw_cell_below hcb k3; replace k4 := pw_cell_below hcb k4; replace k5 := pw_cell_below hcb k5; replace k6 := pw_cell_below hcb k6; replace k7 := pw_cell_below hcb k7; replace k8 := pw_cell_below hcb k8; clear hcb))
          go_ret
          exact ⟨Go.Proofs.Ytnocfhnandedoab.Hand.hk_bool rfl, HB.out⟩


end Go.Proofs.Ytnocfhnandedoab.PCacheForms
