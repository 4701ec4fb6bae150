/- Contracts: what calls of these functions of the program do, each as a plain function; written by a program of this session. -/
import Derived.Test.YtnocfhnandedoabPViewx0
import Derived.Test.YtnocfhnandedoabPViewx9
import Derived.Test.YtnocfhnandedoabPViewx16
namespace Go.Proofs.Ytnocfhnandedoab.PView
open Go.RowKit Go.Proofs.YtnocfhnandedoabW.PrintWords Go.Proofs.YtnocfhnandedoabW.PrintLast Go.Proofs.YtnocfhnandedoabW.PrintMore
attribute [local go_sem] max2_int min2_int max_two min_two max_three min_three max_four min_four   -- for this text's walks alone
set_option linter.unusedVariables false
set_option linter.unusedSimpArgs false

/-! ### wharfagelaw0_KeptSeens: function 49, by hand -/
def wharfagelaw0_KeptSeens.f (l0 l1 : List S85) : Option Bool := none
theorem sameSeen_l0 (l : List S85) (hl : l.length ≤ 9223372036854775806) (d : Nat) : ∀ (k i : Nat), l.length - i ≤ d → d < k → i ≤ l.length → wharfagelaw0_SameSeens.l0 k l l (i : Int) = some true := by
  induction d with
  | zero =>
    intro k i hd hk hi
    obtain ⟨k, rfl⟩ : ∃ m, k = m + 1 := ⟨k - 1, by omega⟩
    simp only [wharfagelaw0_SameSeens.l0]
    rw [if_neg (by omega)]
  | succ d ih =>
    intro k i hd hk hi
    obtain ⟨k, rfl⟩ : ∃ m, k = m + 1 := ⟨k - 1, by omega⟩
    simp only [wharfagelaw0_SameSeens.l0]
    by_cases h : (i : Int) < (l.length : Int)
    · rw [if_pos h, if_pos (show (0 : Int) ≤ (i : Int) by omega), if_pos h, if_neg (by simp), show wrap64 ((i : Int) + 1) = ((i + 1 : Nat) : Int) by unfold wrap64; omega]
      exact ih k (i + 1) (by omega) (by omega) (by omega)
    · rw [if_neg h]
theorem sameSeen (l : List S85) (k : Nat) (hl : l.length < k) (hl2 : l.length ≤ 9223372036854775806) : wharfagelaw0_SameSeens.f k l l = some true := by
  unfold wharfagelaw0_SameSeens.f
  rw [if_pos rfl]
  exact sameSeen_l0 l hl2 l.length k 0 (by omega) hl (by omega)
theorem keptSeen_at {w : World} {g n : Nat} {l : List S85} (h : Kd.C k85 w (some ⟨g, 0, none⟩) n l) (j : Nat) (p : S85) (hj : l[j]? = some p) (hp : p = lendSeenM) : ∀ i u, ([.int .i64 0, .int .i64 0, .int .i64 0, .int .i64 0, .int .i64 77777] : List Value)[i]? = some u → w.cell? ⟨g, j * 5 + i, none⟩ = some u := by
  obtain ⟨ad, e, hc⟩ := h.2.2 (by have := h.1; have := (List.getElem?_eq_some_iff.1 hj).1; omega)
  injection e with e
  subst e
  obtain ⟨c, _, hk, hcell⟩ := hc j p hj
  subst hp
  obtain rfl := k85_open hk
  intro i u hu
  have h1 := hcell i u hu
  rw [Go.Proofs.Ytnocfhnandedoab.Hand.hk_add0, Nat.zero_add] at h1
  exact h1
set_option maxHeartbeats 8000000 in
set_option maxRecDepth 100000 in
theorem wharfagelaw0_KeptSeens.kept (g c : Nat) (A1 : Option Addr) (c1 : Nat) (l : List S85) (w : World) (hb : l.length + 2 < 3518437208883) (hc : l.length + 2 ≤ c) (hr : Kd.C k85 w (some ⟨g, 0, none⟩) (l ++ [lendSeenM, lendSeenM]).length (l ++ [lendSeenM, lendSeenM])) (hr1 : Kd.C k85 w A1 l.length l) (hc1 : l.length ≤ c1) :
    Calls Try.prog 49 #[.slice (some ⟨g, 0, none⟩) l.length c, .slice A1 l.length c1] w fun e w' => e = .returned (.bool true) ∧ Below w.heap.size w w' := by
  have h0 : Kd.C k85 w (some ⟨g, 0, none⟩) l.length l := Go.Proofs.Ytnocfhnandedoab.Hand.hk_head hr rfl
  obtain ⟨n, hn⟩ : ∃ n, l.length = n := ⟨_, rfl⟩
  have m1 := keptSeen_at hr n lendSeenM (by rw [List.getElem?_append_right (by omega), ← hn, Nat.sub_self]; rfl) rfl
  have m2 := keptSeen_at hr (n + 1) lendSeenM (by rw [List.getElem?_append_right (by omega), ← hn, Nat.add_sub_cancel_left]; rfl) rfl
  have u1_0 : w.cell? ⟨g, n * 5, none⟩ = some _ := m1 0 _ rfl
  have u1_1 : w.cell? ⟨g, n * 5 + 1, none⟩ = some _ := m1 1 _ rfl
  have u1_2 : w.cell? ⟨g, n * 5 + 2, none⟩ = some _ := m1 2 _ rfl
  have u1_3 : w.cell? ⟨g, n * 5 + 3, none⟩ = some _ := m1 3 _ rfl
  have u1_4 : w.cell? ⟨g, n * 5 + 4, none⟩ = some _ := m1 4 _ rfl
  have u2_0 : w.cell? ⟨g, (n + 1) * 5, none⟩ = some _ := m2 0 _ rfl
  have u2_1 : w.cell? ⟨g, (n + 1) * 5 + 1, none⟩ = some _ := m2 1 _ rfl
  have u2_2 : w.cell? ⟨g, (n + 1) * 5 + 2, none⟩ = some _ := m2 2 _ rfl
  have u2_3 : w.cell? ⟨g, (n + 1) * 5 + 3, none⟩ = some _ := m2 3 _ rfl
  have u2_4 : w.cell? ⟨g, (n + 1) * 5 + 4, none⟩ = some _ := m2 4 _ rfl
  have q1 : wrap64 ((n : Int) + 2) = (n : Int) + 2 := by unfold wrap64; omega
  have q2 : wrap64 ((n : Int) + 1) = (n : Int) + 1 := by unfold wrap64; omega
  have q3 : ((n : Int) + 2).toNat = n + 2 := by omega
  have q4 : ((n : Int) + 1).toNat = n + 1 := by omega
  have q5 : ((n : Int)).toNat = n := by omega
  have q6 : n + 2 ≤ c := by omega
  have q7 : (0 : Int) ≤ (n : Int) + 2 := by omega
  have q8 : (n : Int) + 2 ≤ (c : Int) := by omega
  have q9 : (0 : Int) ≤ (n : Int) := by omega
  have qa : (n : Int) < ((n + 2 : Nat) : Int) := by omega
  have qb : (0 : Int) ≤ (n : Int) + 1 := by omega
  have qc : (n : Int) + 1 < ((n + 2 : Nat) : Int) := by omega
  have H0 := Aside0.mk h0
  have H1 := Aside0.mk hr1
  have HC := Aside0.mk (And.intro hc hc1)
  have HN := Aside0.mk (And.intro hb hn)
  have hsm := Aside0.mk (sameSeen l (l.length + 1) (by omega) (by omega))
  clear m1 m2 h0 hr hr1 hc hc1 hb
  rw [hn]
  go_enter Try.func49, Try.ntmps49
  go_wp2_with first
    | (go_at_call 43; (with_reducible refine calls_of_args (args' := #[.slice (some ⟨g, 0, none⟩) l.length c, .slice A1 l.length c1]) (by rw [hn]) ?_); refine (wharfagelaw0_SameSeens.calls (l.length + 1) _ c l A1 c1 l true _ H0.out (by have := HC.out.1; omega) H1.out HC.out.2 hsm.out).mono ?_; rintro e w1 ⟨rfl, ⟨nd, rfl⟩⟩)
  go_ret
  exact ⟨Go.Proofs.Ytnocfhnandedoab.Hand.hk_bool rfl, pw_below_drewN (Below.refl _ _) _⟩


end Go.Proofs.Ytnocfhnandedoab.PView
