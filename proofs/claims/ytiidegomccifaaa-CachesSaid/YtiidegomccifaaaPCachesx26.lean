/- Contracts: what calls of these functions of the program do, each as a plain function; written by a program of this session. -/
import Derived.Test.YtiidegomccifaaaPCachesx0
import Derived.Test.YtiidegomccifaaaPCachesx3
import Derived.Test.YtiidegomccifaaaPCachesx24
namespace Go.Proofs.Ytiidegomccifaaa.PCaches
open Go.RowKit Go.Proofs.YtiidegomccifaaaW.PrintWords Go.Proofs.YtiidegomccifaaaW.PrintLast Go.Proofs.YtiidegomccifaaaW.PrintMore
attribute [local go_sem] max2_int min2_int max_two min_two max_three min_three max_four min_four   -- for this text's walks alone
set_option linter.unusedVariables false
set_option linter.unusedSimpArgs false

/-! ### wharfagelaw0_KeptEntrys: function 19, by hand -/
def wharfagelaw0_KeptEntrys.f (l0 l1 : List S26) : Option Bool := none
theorem sameEntry_l0 (l : List S26) (hl : l.length ≤ 9223372036854775806) (d : Nat) : ∀ (k i : Nat), l.length - i ≤ d → d < k → i ≤ l.length → wharfagelaw0_SameEntrys.l0 k l l (i : Int) = some true := by
  induction d with
  | zero =>
    intro k i hd hk hi
    obtain ⟨k, rfl⟩ : ∃ m, k = m + 1 := ⟨k - 1, by omega⟩
    simp only [wharfagelaw0_SameEntrys.l0]
    rw [if_neg (by omega)]
  | succ d ih =>
    intro k i hd hk hi
    obtain ⟨k, rfl⟩ : ∃ m, k = m + 1 := ⟨k - 1, by omega⟩
    simp only [wharfagelaw0_SameEntrys.l0]
    by_cases h : (i : Int) < (l.length : Int)
    · rw [if_pos h, if_pos (show (0 : Int) ≤ (i : Int) by omega), if_pos h, if_neg (by simp), show wrap64 ((i : Int) + 1) = ((i + 1 : Nat) : Int) by unfold wrap64; omega]
      exact ih k (i + 1) (by omega) (by omega) (by omega)
    · rw [if_neg h]
theorem sameEntry (l : List S26) (k : Nat) (hl : l.length < k) (hl2 : l.length ≤ 9223372036854775806) : wharfagelaw0_SameEntrys.f k l l = some true := by
  unfold wharfagelaw0_SameEntrys.f
  rw [if_pos rfl]
  exact sameEntry_l0 l hl2 l.length k 0 (by omega) hl (by omega)
theorem keptEntry_at {w : World} {g n : Nat} {l : List S26} (h : Kd.C k26 w (some ⟨g, 0, none⟩) n l) (j : Nat) (p : S26) (hj : l[j]? = some p) (hp : p = lendEntryM) : ∀ i u, ([.int .i64 0, .int .i64 0, .int .i64 0, .int .i64 0, .int .i64 0, .int .i64 77777, .bool false, .int .i64 0, .int .i64 0] : List Value)[i]? = some u → w.cell? ⟨g, j * 9 + i, none⟩ = some u := by
  obtain ⟨ad, e, hc⟩ := h.2.2 (by have := h.1; have := (List.getElem?_eq_some_iff.1 hj).1; omega)
  injection e with e
  subst e
  obtain ⟨c, _, hk, hcell⟩ := hc j p hj
  subst hp
  obtain rfl := k26_open hk
  intro i u hu
  have h1 := hcell i u hu
  rw [Go.Proofs.Ytiidegomccifaaa.Hand.hk_add0, Nat.zero_add] at h1
  exact h1
set_option maxHeartbeats 8000000 in
set_option maxRecDepth 100000 in
theorem wharfagelaw0_KeptEntrys.kept (g c : Nat) (A1 : Option Addr) (c1 : Nat) (l : List S26) (w : World) (hb : l.length + 2 < 1954687338268) (hc : l.length + 2 ≤ c) (hr : Kd.C k26 w (some ⟨g, 0, none⟩) (l ++ [lendEntryM, lendEntryM]).length (l ++ [lendEntryM, lendEntryM])) (hr1 : Kd.C k26 w A1 l.length l) (hc1 : l.length ≤ c1) :
    Calls Try.prog 19 #[.slice (some ⟨g, 0, none⟩) l.length c, .slice A1 l.length c1] w fun e w' => e = .returned (.bool true) ∧ Below w.heap.size w w' := by
  have h0 : Kd.C k26 w (some ⟨g, 0, none⟩) l.length l := Go.Proofs.Ytiidegomccifaaa.Hand.hk_head hr rfl
  obtain ⟨n, hn⟩ : ∃ n, l.length = n := ⟨_, rfl⟩
  have m1 := keptEntry_at hr n lendEntryM (by rw [List.getElem?_append_right (by omega), ← hn, Nat.sub_self]; rfl) rfl
  have m2 := keptEntry_at hr (n + 1) lendEntryM (by rw [List.getElem?_append_right (by omega), ← hn, Nat.add_sub_cancel_left]; rfl) rfl
  have u1_0 : w.cell? ⟨g, n * 9, none⟩ = some _ := m1 0 _ rfl
  have u1_1 : w.cell? ⟨g, n * 9 + 1, none⟩ = some _ := m1 1 _ rfl
  have u1_2 : w.cell? ⟨g, n * 9 + 2, none⟩ = some _ := m1 2 _ rfl
  have u1_3 : w.cell? ⟨g, n * 9 + 3, none⟩ = some _ := m1 3 _ rfl
  have u1_4 : w.cell? ⟨g, n * 9 + 4, none⟩ = some _ := m1 4 _ rfl
  have u1_5 : w.cell? ⟨g, n * 9 + 5, none⟩ = some _ := m1 5 _ rfl
  have u1_6 : w.cell? ⟨g, n * 9 + 6, none⟩ = some _ := m1 6 _ rfl
  have u1_7 : w.cell? ⟨g, n * 9 + 7, none⟩ = some _ := m1 7 _ rfl
  have u1_8 : w.cell? ⟨g, n * 9 + 8, none⟩ = some _ := m1 8 _ rfl
  have u2_0 : w.cell? ⟨g, (n + 1) * 9, none⟩ = some _ := m2 0 _ rfl
  have u2_1 : w.cell? ⟨g, (n + 1) * 9 + 1, none⟩ = some _ := m2 1 _ rfl
  have u2_2 : w.cell? ⟨g, (n + 1) * 9 + 2, none⟩ = some _ := m2 2 _ rfl
  have u2_3 : w.cell? ⟨g, (n + 1) * 9 + 3, none⟩ = some _ := m2 3 _ rfl
  have u2_4 : w.cell? ⟨g, (n + 1) * 9 + 4, none⟩ = some _ := m2 4 _ rfl
  have u2_5 : w.cell? ⟨g, (n + 1) * 9 + 5, none⟩ = some _ := m2 5 _ rfl
  have u2_6 : w.cell? ⟨g, (n + 1) * 9 + 6, none⟩ = some _ := m2 6 _ rfl
  have u2_7 : w.cell? ⟨g, (n + 1) * 9 + 7, none⟩ = some _ := m2 7 _ rfl
  have u2_8 : w.cell? ⟨g, (n + 1) * 9 + 8, none⟩ = some _ := m2 8 _ rfl
  have q1 : wrap64 ((n : Int) + 2) = (n : Int) + 2 := by unfold wrap64; omega
  have q2 : wrap64 ((n : Int) + 1) = (n : Int) + 1 := by unfold wrap64; omega
  have q3 : ((n : Int) + 2).toNat = n + 2 := by omega
  have q4 : ((n : Int) + 1).toNat = n + 1 := by omega
  have q5 : ((n : Int)).toNat = n := by omega
  have q6 : n + 2 ≤ c := by omega
  have q7 : (0 : Int) ≤ (n : Int) + 2 := by omega
  have q8 : (n : Int) + 2 ≤ (c : Int) := by omega
  have q9 : (0 : Int) ≤ (n : Int) := by omega
  have qa : (n : Int) < ((n + 2 : Nat) : Int) := by omega
  have qb : (0 : Int) ≤ (n : Int) + 1 := by omega
  have qc : (n : Int) + 1 < ((n + 2 : Nat) : Int) := by omega
  have H0 := Aside0.mk h0
  have H1 := Aside0.mk hr1
  have HC := Aside0.mk (And.intro hc hc1)
  have HN := Aside0.mk (And.intro hb hn)
  have hsm := Aside0.mk (sameEntry l (l.length + 1) (by omega) (by omega))
  clear m1 m2 h0 hr hr1 hc hc1 hb
  rw [hn]
  go_enter Try.func19, Try.ntmps19
  go_wp2_with first
    | (go_at_call 14; (with_reducible refine calls_of_args (args' := #[.slice (some ⟨g, 0, none⟩) l.length c, .slice A1 l.length c1]) (by rw [hn]) ?_); refine (wharfagelaw0_SameEntrys.calls (l.length + 1) _ c l A1 c1 l true _ H0.out (by have := HC.out.1; omega) H1.out HC.out.2 hsm.out).mono ?_; rintro e w1 ⟨rfl, ⟨nd, rfl⟩⟩)
  go_ret
  exact ⟨Go.Proofs.Ytiidegomccifaaa.Hand.hk_bool rfl, pw_below_drewN (Below.refl _ _) _⟩


/-! ### wharfagelaw16_flow: function 21 -/
def wharfagelaw16_flow.f (a0 : Int) : Option (Int × Int × Int × Int × Int) := some (a0, 167772161, 6, 7, 80)
set_option maxHeartbeats 8000000 in
set_option maxRecDepth 100000 in
theorem wharfagelaw16_flow.calls (a0 : Int) (r1 : Int) (r2 : Int) (r3 : Int) (r4 : Int) (r5 : Int) (w : World) (h : wharfagelaw16_flow.f a0 = some (r1, r2, r3, r4, r5)) :
    Calls Try.prog 21 #[.int .i64 a0] w fun e w' => e = .returned (.agg #[.int .i64 r1, .int .i64 r2, .int .i64 r3, .int .i64 r4, .int .i64 r5]) ∧ Below w.heap.size w w' := by
  have hu24 := Try.underlying24
  have HB := Aside0.mk (Below.refl w.heap.size w)
  have H : (some (a0, 167772161, 6, 7, 80)) = some (r1, r2, r3, r4, r5) := h
  clear h
  simp only [Option.some.injEq, Prod.mk.injEq] at H
  obtain ⟨rfl, rfl, rfl, rfl, rfl⟩ := H
  go_enter Try.func21, Try.ntmps21
  go_wp2_with (first | ((with_reducible refine gate_dst (N := 2) rfl ?_); refine box_event ?hg (N := 2) ?hd (cs := #[.int .i64 0, .int .i64 0, .int .i64 0, .int .i64 0, .int .i64 0]) (t := 24) ?hr ?_; (case hd => rfl); (case hg => rfl); (case hr => first | (go_simp; done) | (go_simp; rfl)); intro gb189 hg w2 hbox hb; have n0_ := Aside0.mk (below_step (by repeat (first | (with_reducible first | exact HB.out | apply below_alloc | apply pw_below_drewN | apply below_drew1) | exact HB.out)) hb); have n1_ := Aside0.mk (hbox); have n2_ := Aside0.mk ((by rw [hg]; exact (below_size (by repeat (first | (with_reducible first | exact HB.out | apply below_alloc | apply pw_below_drewN | apply below_drew1) | exact HB.out))) : w.heap.size ≤ gb189)); have n3_ := Aside0.mk ((by rw [hg]; exact (below_size (by repeat (first | (with_reducible first | exact HB.out | apply below_alloc | apply pw_below_drewN | apply below_drew1) | exact HB.out))) : w.heap.size ≤ gb189)); clear HB; have HB := n0_; have BK189 := n1_; have GW189 := n2_; have GE189 := n3_; clear n0_ n1_ n2_ n3_; clear hb hbox hg; have hcz3_0 : w2.cell? ⟨gb189, 0, none⟩ = some (.int .i64 0) := (blk_cell BK189.out 0).trans rfl; have hcz3_1 : w2.cell? ⟨gb189, 1, none⟩ = some (.int .i64 0) := (blk_cell BK189.out 1).trans rfl; have hcz3_2 : w2.cell? ⟨gb189, 2, none⟩ = some (.int .i64 0) := (blk_cell BK189.out 2).trans rfl; have hcz3_3 : w2.cell? ⟨gb189, 3, none⟩ = some (.int .i64 0) := (blk_cell BK189.out 3).trans rfl; have hcz3_4 : w2.cell? ⟨gb189, 4, none⟩ = some (.int .i64 0) := (blk_cell BK189.out 4).trans rfl; have hfz3_0 := blk_frozen BK189.out 0; have hfz3_1 := blk_frozen BK189.out 1; have hfz3_2 := blk_frozen BK189.out 2; have hfz3_3 := blk_frozen BK189.out 3; have hfz3_4 := blk_frozen BK189.out 4))
  refine bodyPost_ret (results_cell_row rfl _ _ gb189 24 #[.int .i64 a0, .int .i64 167772161, .int .i64 6, .int .i64 7, .int .i64 80] (0, 0) _ rfl (by (with_reducible repeat (first | refine blk_drewN ?_ _ | refine blk_drew ?_ | refine blk_alloc ?_ _)); refine blk_put (cs := #[.int .i64 a0, .int .i64 167772161, .int .i64 6, .int .i64 7, .int .i64 0]) ?_ 4 _ rfl; (with_reducible repeat (first | refine blk_drewN ?_ _ | refine blk_drew ?_ | refine blk_alloc ?_ _)); refine blk_put (cs := #[.int .i64 a0, .int .i64 167772161, .int .i64 6, .int .i64 0, .int .i64 0]) ?_ 3 _ rfl; (with_reducible repeat (first | refine blk_drewN ?_ _ | refine blk_drew ?_ | refine blk_alloc ?_ _)); refine blk_put (cs := #[.int .i64 a0, .int .i64 167772161, .int .i64 0, .int .i64 0, .int .i64 0]) ?_ 2 _ rfl; (with_reducible repeat (first | refine blk_drewN ?_ _ | refine blk_drew ?_ | refine blk_alloc ?_ _)); refine blk_put (cs := #[.int .i64 a0, .int .i64 0, .int .i64 0, .int .i64 0, .int .i64 0]) ?_ 1 _ rfl; (with_reducible repeat (first | refine blk_drewN ?_ _ | refine blk_drew ?_ | refine blk_alloc ?_ _)); refine blk_put (cs := #[.int .i64 0, .int .i64 0, .int .i64 0, .int .i64 0, .int .i64 0]) ?_ 0 _ rfl; (with_reducible repeat (first | refine blk_drewN ?_ _ | refine blk_drew ?_ | refine blk_alloc ?_ _)); exact BK189.out) Try.underlying24 rfl (by kernel_rfl)) rfl ?_
  exact ⟨by first | rfl | (simp [errW_none, errW_some] <;> rfl) | (simp [*, errW_none, errW_some] <;> rfl), by repeat (first | (with_reducible first | exact HB.out | apply below_alloc | apply pw_below_drewN | apply below_drew1 | refine below_set ?_ GE189.out) | exact HB.out)⟩

end Go.Proofs.Ytiidegomccifaaa.PCaches
