/- Contracts: what calls of these functions of the program do, each as a plain function; written by a program of this session. -/
import Derived.Test.YtnocfhnandedoaaPCandsx0
import Derived.Test.YtnocfhnandedoaaPCandsx6
import Derived.Test.YtnocfhnandedoaaPCandsx26
namespace Go.Proofs.Ytnocfhnandedoaa.PCands
open Go.RowKit Go.Proofs.YtnocfhnandedoaaW.PrintWords Go.Proofs.YtnocfhnandedoaaW.PrintLast Go.Proofs.YtnocfhnandedoaaW.PrintMore
attribute [local go_sem] max2_int min2_int max_two min_two max_three min_three max_four min_four   -- for this text's walks alone
set_option linter.unusedVariables false
set_option linter.unusedSimpArgs false

/-! ### wharfagelaw0_KeptHealths: function 34, by hand -/
def wharfagelaw0_KeptHealths.f (l0 l1 : List S67) : Option Bool := none
theorem sameHealth_l0 (l : List S67) (hl : l.length ≤ 9223372036854775806) (d : Nat) : ∀ (k i : Nat), l.length - i ≤ d → d < k → i ≤ l.length → wharfagelaw0_SameHealths.l0 k l l (i : Int) = some true := by
  induction d with
  | zero =>
    intro k i hd hk hi
    obtain ⟨k, rfl⟩ : ∃ m, k = m + 1 := ⟨k - 1, by omega⟩
    simp only [wharfagelaw0_SameHealths.l0]
    rw [if_neg (by omega)]
  | succ d ih =>
    intro k i hd hk hi
    obtain ⟨k, rfl⟩ : ∃ m, k = m + 1 := ⟨k - 1, by omega⟩
    simp only [wharfagelaw0_SameHealths.l0]
    by_cases h : (i : Int) < (l.length : Int)
    · rw [if_pos h, if_pos (show (0 : Int) ≤ (i : Int) by omega), if_pos h, if_neg (by simp), show wrap64 ((i : Int) + 1) = ((i + 1 : Nat) : Int) by unfold wrap64; omega]
      exact ih k (i + 1) (by omega) (by omega) (by omega)
    · rw [if_neg h]
theorem sameHealth (l : List S67) (k : Nat) (hl : l.length < k) (hl2 : l.length ≤ 9223372036854775806) : wharfagelaw0_SameHealths.f k l l = some true := by
  unfold wharfagelaw0_SameHealths.f
  rw [if_pos rfl]
  exact sameHealth_l0 l hl2 l.length k 0 (by omega) hl (by omega)
theorem keptHealth_at {w : World} {g n : Nat} {l : List S67} (h : Kd.C k67 w (some ⟨g, 0, none⟩) n l) (j : Nat) (p : S67) (hj : l[j]? = some p) (hp : p = lendHealthM) : ∀ i u, ([.bool false, .int .i64 77777] : List Value)[i]? = some u → w.cell? ⟨g, j * 2 + i, none⟩ = some u := by
  obtain ⟨ad, e, hc⟩ := h.2.2 (by have := h.1; have := (List.getElem?_eq_some_iff.1 hj).1; omega)
  injection e with e
  subst e
  obtain ⟨c, _, hk, hcell⟩ := hc j p hj
  subst hp
  obtain rfl := k67_open hk
  intro i u hu
  have h1 := hcell i u hu
  rw [Go.Proofs.Ytnocfhnandedoaa.Hand.hk_add0, Nat.zero_add] at h1
  exact h1
set_option maxHeartbeats 8000000 in
set_option maxRecDepth 100000 in
theorem wharfagelaw0_KeptHealths.kept (g c : Nat) (A1 : Option Addr) (c1 : Nat) (l : List S67) (w : World) (hb : l.length + 2 < 8796093022208) (hc : l.length + 2 ≤ c) (hr : Kd.C k67 w (some ⟨g, 0, none⟩) (l ++ [lendHealthM, lendHealthM]).length (l ++ [lendHealthM, lendHealthM])) (hr1 : Kd.C k67 w A1 l.length l) (hc1 : l.length ≤ c1) :
    Calls Try.prog 34 #[.slice (some ⟨g, 0, none⟩) l.length c, .slice A1 l.length c1] w fun e w' => e = .returned (.bool true) ∧ Below w.heap.size w w' := by
  have h0 : Kd.C k67 w (some ⟨g, 0, none⟩) l.length l := Go.Proofs.Ytnocfhnandedoaa.Hand.hk_head hr rfl
  obtain ⟨n, hn⟩ : ∃ n, l.length = n := ⟨_, rfl⟩
  have m1 := keptHealth_at hr n lendHealthM (by rw [List.getElem?_append_right (by omega), ← hn, Nat.sub_self]; rfl) rfl
  have m2 := keptHealth_at hr (n + 1) lendHealthM (by rw [List.getElem?_append_right (by omega), ← hn, Nat.add_sub_cancel_left]; rfl) rfl
  have u1_0 : w.cell? ⟨g, n * 2, none⟩ = some _ := m1 0 _ rfl
  have u1_1 : w.cell? ⟨g, n * 2 + 1, none⟩ = some _ := m1 1 _ rfl
  have u2_0 : w.cell? ⟨g, (n + 1) * 2, none⟩ = some _ := m2 0 _ rfl
  have u2_1 : w.cell? ⟨g, (n + 1) * 2 + 1, none⟩ = some _ := m2 1 _ rfl
  have q1 : wrap64 ((n : Int) + 2) = (n : Int) + 2 := by unfold wrap64; omega
  have q2 : wrap64 ((n : Int) + 1) = (n : Int) + 1 := by unfold wrap64; omega
  have q3 : ((n : Int) + 2).toNat = n + 2 := by omega
  have q4 : ((n : Int) + 1).toNat = n + 1 := by omega
  have q5 : ((n : Int)).toNat = n := by omega
  have q6 : n + 2 ≤ c := by omega
  have q7 : (0 : Int) ≤ (n : Int) + 2 := by omega
  have q8 : (n : Int) + 2 ≤ (c : Int) := by omega
  have q9 : (0 : Int) ≤ (n : Int) := by omega
  have qa : (n : Int) < ((n + 2 : Nat) : Int) := by omega
  have qb : (0 : Int) ≤ (n : Int) + 1 := by omega
  have qc : (n : Int) + 1 < ((n + 2 : Nat) : Int) := by omega
  have H0 := Aside0.mk h0
  have H1 := Aside0.mk hr1
  have HC := Aside0.mk (And.intro hc hc1)
  have HN := Aside0.mk (And.intro hb hn)
  have hsm := Aside0.mk (sameHealth l (l.length + 1) (by omega) (by omega))
  clear m1 m2 h0 hr hr1 hc hc1 hb
  rw [hn]
  go_enter Try.func34, Try.ntmps34
  go_wp2_with first
    | (go_at_call 67; (with_reducible refine calls_of_args (args' := #[.slice (some ⟨g, 0, none⟩) l.length c, .slice A1 l.length c1]) (by rw [hn]) ?_); refine (wharfagelaw0_SameHealths.calls (l.length + 1) _ c l A1 c1 l true _ H0.out (by have := HC.out.1; omega) H1.out HC.out.2 hsm.out).mono ?_; rintro e w1 ⟨rfl, ⟨nd, rfl⟩⟩)
  go_ret
  exact ⟨Go.Proofs.Ytnocfhnandedoaa.Hand.hk_bool rfl, pw_below_drewN (Below.refl _ _) _⟩


/-! ### wharfagelaw13_given: function 36 -/
def wharfagelaw13_given.f  : Option (Int × (List (S70))) := some (3, (([(⟨2, false, 2, (([(⟨1, false⟩ : S74), (⟨3, false⟩ : S74)] : List (S74)))⟩ : S70), (⟨1, false, 4, (([(⟨1, false⟩ : S74)] : List (S74)))⟩ : S70)] : List (S70))))
set_option maxHeartbeats 8000000 in
set_option maxRecDepth 100000 in
theorem wharfagelaw13_given.calls  (r1 : Int) (r2 : List (S70)) (w : World) (h : wharfagelaw13_given.f  = some (r1, r2)) :
    Calls Try.prog 36 #[] w fun e w' => ∃ v1_ : Value, e = .returned (.agg #[.int .i64 r1, v1_]) ∧ Kd.N k70 70 w' w.heap.size (fun k_ => (w.heap.size ≤ k_)) v1_ r2 ∧ Below w.heap.size w w' := by
  have hu49 := Try.underlying49
  have hu74 := Try.underlying74
  have hu70 := Try.underlying70
  have HB := Aside0.mk (Below.refl w.heap.size w)
  have H : (some (3, (([(⟨2, false, 2, (([(⟨1, false⟩ : S74), (⟨3, false⟩ : S74)] : List (S74)))⟩ : S70), (⟨1, false, 4, (([(⟨1, false⟩ : S74)] : List (S74)))⟩ : S70)] : List (S70))))) = some (r1, r2) := h
  clear h
  obtain ⟨y187, hy187⟩ : ∃ y_ : List (S74), y_ = (([(⟨1, false⟩ : S74), (⟨3, false⟩ : S74)] : List (S74))) := ⟨_, rfl⟩
  replace H : (some (3, (([(⟨2, false, 2, y187⟩ : S70), (⟨1, false, 4, (([(⟨1, false⟩ : S74)] : List (S74)))⟩ : S70)] : List (S70))))) = some (r1, r2) := by first | (rw [hy187]; with_reducible exact H) | (have H2_ := (Option.bind_some _ _).symm.trans H; rw [hy187]; with_reducible exact H2_) | (have H2_ := (Option.bind_some _ _).symm.trans H; with_reducible exact H2_) | with_reducible exact H | (rw [hy187]; exact H) | exact H
  have Ny187 := Aside0.mk hy187
  clear hy187
  obtain ⟨y190, hy190⟩ : ∃ y_ : List (S74), y_ = (([(⟨1, false⟩ : S74)] : List (S74))) := ⟨_, rfl⟩
  replace H : (some (3, (([(⟨2, false, 2, y187⟩ : S70), (⟨1, false, 4, y190⟩ : S70)] : List (S70))))) = some (r1, r2) := by first | (rw [hy190]; with_reducible exact H) | (have H2_ := (Option.bind_some _ _).symm.trans H; rw [hy190]; with_reducible exact H2_) | (have H2_ := (Option.bind_some _ _).symm.trans H; with_reducible exact H2_) | with_reducible exact H | (rw [hy190]; exact H) | exact H
  have Ny190 := Aside0.mk hy190
  clear hy190
  obtain ⟨y193, hy193⟩ : ∃ y_ : List (S70), y_ = (([(⟨2, false, 2, y187⟩ : S70), (⟨1, false, 4, y190⟩ : S70)] : List (S70))) := ⟨_, rfl⟩
  replace H : (some (3, y193)) = some (r1, r2) := by first | (rw [hy193]; with_reducible exact H) | (have H2_ := (Option.bind_some _ _).symm.trans H; rw [hy193]; with_reducible exact H2_) | (have H2_ := (Option.bind_some _ _).symm.trans H; with_reducible exact H2_) | with_reducible exact H | (rw [hy193]; exact H) | exact H
  have Ny193 := Aside0.mk hy193
  clear hy193
  simp only [Option.some.injEq, Prod.mk.injEq] at H
  obtain ⟨rfl, rfl⟩ := H
  go_enter Try.func36, Try.ntmps36
  go_wp2_with (first | ((with_reducible refine gate_dst (N := 0) rfl ?_); refine box_event ?hg (N := 0) ?hd (cs := #[.int .i64 0, .slice none 0 0]) (t := 49) ?hr ?_; (case hd => rfl); (case hg => rfl); (case hr => first | (go_simp; done) | (go_simp; rfl)); intro gb186 hg w1 hbox hb; have n0_ := Aside0.mk (below_step (by repeat (first | (with_reducible first | exact HB.out | apply below_alloc | apply pw_below_drewN | apply below_drew1) | exact HB.out)) hb); have n1_ := Aside0.mk (hbox); have n2_ := Aside0.mk ((by rw [hg]; exact (below_size (by repeat (first | (with_reducible first | exact HB.out | apply below_alloc | apply pw_below_drewN | apply below_drew1) | exact HB.out))) : w.heap.size ≤ gb186)); have n3_ := Aside0.mk ((by rw [hg]; exact (below_size (by repeat (first | (with_reducible first | exact HB.out | apply below_alloc | apply pw_below_drewN | apply below_drew1) | exact HB.out))) : w.heap.size ≤ gb186)); clear HB; have HB := n0_; have BK186 := n1_; have GW186 := n2_; have GE186 := n3_; clear n0_ n1_ n2_ n3_; clear hb hbox hg) | ((with_reducible refine gate_dst (N := 3) rfl ?_); refine Kd.R_lit k74 _ 74 ?hg (N := 3) ?hd (xs := ([(⟨1, false⟩ : S74), (⟨3, false⟩ : S74)] : List (S74))) (inner := [.int .i64 1, .bool false, .int .i64 3, .bool false]) (ok := fun _ => True) (okp := fun _ => True) ?hr ?hp (fun _ hk => hk) trivial (Below.refl _ _) (Nat.le_refl _) (by simp) ?_; (case hd => rfl); (case hg => rfl); (case hr => first | (go_simp; done) | (go_simp; rfl)); (case hp => exact (Reps.c2 (show Kd.M k74 _ _ _ (⟨1, false⟩ : S74) [.int .i64 1, .bool false] from (k74_mkM _ _ _ (⟨1, false⟩ : S74) )) (Reps.c2 (show Kd.M k74 _ _ _ (⟨3, false⟩ : S74) [.int .i64 3, .bool false] from (k74_mkM _ _ _ (⟨3, false⟩ : S74) )) (Reps.none _ _)))); intro v188 w2 ho3 hb hg_ hnew_; clear hg_ hnew_; (first | rw [← Ny187.out] at ho3 | (simp only [Int.reduceToNat] at ho3; rw [← Ny187.out] at ho3)); have n0_ := Aside0.mk (Kd.R_lower (Kd.R_newM (M := fun k_ => (w.heap.size ≤ k_)) ho3 (below_size (by repeat (first | (with_reducible first | exact HB.out | apply below_alloc | apply pw_below_drewN | apply below_drew1 | refine below_set ?_ GE186.out) | exact HB.out))) (fun k_ h_ => h_)) (below_size (by repeat (first | (with_reducible first | exact HB.out | apply below_alloc | apply pw_below_drewN | apply below_drew1 | refine below_set ?_ GE186.out) | exact HB.out)))); have n1_ := Aside0.mk (blk_below (g := gb186) (o := .cells #[.int .i64 0, .slice none 0 0] 49 (0, 0)) (by (with_reducible repeat (first | refine blk_drewN ?_ _ | refine blk_drew ?_ | refine blk_alloc ?_ _)); exact BK186.out) hb); have n2_ := Aside0.mk (below_step (by repeat (first | (with_reducible first | exact HB.out | apply below_alloc | apply pw_below_drewN | apply below_drew1 | refine below_set ?_ GE186.out) | exact HB.out)) hb); clear BK186; clear HB; have HO189 := n0_; have BK186 := n1_; have HB := n2_; clear n0_ n1_ n2_; clear hb ho3; obtain ⟨Ao4, co4, eo4⟩ := Kd.R_slice HO189.out; subst eo4) | ((with_reducible refine gate_dst (N := 6) rfl ?_); refine Kd.R_lit k74 _ 74 ?hg (N := 6) ?hd (xs := ([(⟨1, false⟩ : S74)] : List (S74))) (inner := [.int .i64 1, .bool false]) (ok := fun _ => True) (okp := fun _ => True) ?hr ?hp (fun _ hk => hk) trivial (Below.refl _ _) (Nat.le_refl _) (by simp) ?_; (case hd => rfl); (case hg => rfl); (case hr => first | (go_simp; done) | (go_simp; rfl)); (case hp => exact (Reps.c2 (show Kd.M k74 _ _ _ (⟨1, false⟩ : S74) [.int .i64 1, .bool false] from (k74_mkM _ _ _ (⟨1, false⟩ : S74) )) (Reps.none _ _))); intro v191 w5 ho6 hb hg_ hnew_; clear hg_ hnew_; (first | rw [← Ny190.out] at ho6 | (simp only [Int.reduceToNat] at ho6; rw [← Ny190.out] at ho6)); have n0_ := Aside0.mk (Kd.R_elder' (by (with_reducible repeat (first | apply Kd.R_alloc | apply Kd.R_drewN | apply Kd.R_drew)); exact HO189.out) (Kd.R_base ho6) hb); have n1_ := Aside0.mk (Kd.R_lower (Kd.R_new' (Kd.R_newM (M := fun k_ => (w.heap.size ≤ k_)) ho6 (below_size (by repeat (first | (with_reducible first | exact HB.out | apply below_alloc | apply pw_below_drewN | apply below_drew1 | refine below_set ?_ GE186.out) | exact HB.out))) (fun k_ h_ => h_)) (Kd.R_lt (by (with_reducible repeat (first | apply Kd.R_alloc | apply Kd.R_drewN | apply Kd.R_drew)); exact HO189.out))) (below_size (by repeat (first | (with_reducible first | exact HB.out | apply below_alloc | apply pw_below_drewN | apply below_drew1 | refine below_set ?_ GE186.out) | exact HB.out)))); have n2_ := Aside0.mk (blk_below (g := gb186) (o := .cells #[.int .i64 0, .slice none 0 0] 49 (0, 0)) (by (with_reducible repeat (first | refine blk_drewN ?_ _ | refine blk_drew ?_ | refine blk_alloc ?_ _)); exact BK186.out) hb); have n3_ := Aside0.mk (below_step (by repeat (first | (with_reducible first | exact HB.out | apply below_alloc | apply pw_below_drewN | apply below_drew1 | refine below_set ?_ GE186.out) | exact HB.out)) hb); clear HO189; clear BK186; clear HB; have HO189 := n0_; have HO192 := n1_; have BK186 := n2_; have HB := n3_; clear n0_ n1_ n2_ n3_; clear hb ho6; obtain ⟨Ao7, co7, eo7⟩ := Kd.R_slice HO192.out; subst eo7) | ((with_reducible refine gate_dst (N := 8) rfl ?_); refine Kd.N_lit k70 _ 70 ?hg (N' := 8) ?hd (xs := ([(⟨2, false, 2, y187⟩ : S70), (⟨1, false, 4, y190⟩ : S70)] : List (S70))) (inner := [.int .i64 2, .bool false, .int .i64 2, .slice Ao4 y187.length co4, .int .i64 1, .bool false, .int .i64 4, .slice Ao7 y190.length co7]) (ok := (fun k_ => (w.heap.size ≤ k_) ∧ k_ ≠ gb186)) (okp := (fun k_ => (w.heap.size ≤ k_) ∧ k_ ≠ gb186)) ?hr ?hp (fun _ hk => hk) ((show ∀ k_, w5.heap.size ≤ k_ → (fun k_ => (w.heap.size ≤ k_) ∧ k_ ≠ gb186) k_ from fun k_ hk => ⟨(Nat.le_trans (below_size (by repeat (first | (with_reducible first | exact HB.out | apply below_alloc | apply pw_below_drewN | apply below_drew1 | refine below_set ?_ GE186.out) | exact HB.out))) hk), Kd.freshB (g := gb186) (o := .cells #[.int .i64 0, .slice none 0 0] 49 (0, 0)) (by (with_reducible repeat (first | refine blk_drewN ?_ _ | refine blk_drew ?_ | refine blk_alloc ?_ _)); exact BK186.out) k_ hk⟩) _ (Nat.le_refl _)) (Below.refl _ _) (Nat.le_refl _) (by simp) ?_; (case hd => rfl); (case hg => rfl); (case hr => first | (go_simp; done) | (go_simp; rfl)); (case hp => exact (Reps.c4 (show Kd.FK k70 _ _ (⟨2, false, 2, y187⟩ : S70) [.int .i64 2, .bool false, .int .i64 2, .slice Ao4 y187.length co4] from (k70_mkF _ _ (⟨2, false, 2, y187⟩ : S70) (Kd.R_reads' (Kd.R_mono (ok' := (fun k_ => (w.heap.size ≤ k_) ∧ k_ ≠ gb186)) (Kd.R_types (HO189.out) BK186.out (by decide)) (fun k_ hk => ⟨hk.1.1.1, hk.2⟩))).2.1 (Kd.R_F (Kd.R_mono (ok' := (fun k_ => (w.heap.size ≤ k_) ∧ k_ ≠ gb186)) (Kd.R_types (HO189.out) BK186.out (by decide)) (fun k_ hk => ⟨hk.1.1.1, hk.2⟩))))) (Reps.c4 (show Kd.FK k70 _ _ (⟨1, false, 4, y190⟩ : S70) [.int .i64 1, .bool false, .int .i64 4, .slice Ao7 y190.length co7] from (k70_mkF _ _ (⟨1, false, 4, y190⟩ : S70) (Kd.R_reads' (Kd.R_mono (ok' := (fun k_ => (w.heap.size ≤ k_) ∧ k_ ≠ gb186)) (Kd.R_types (HO192.out) BK186.out (by decide)) (fun k_ hk => ⟨hk.1.1.1, hk.2⟩))).2.1 (Kd.R_F (Kd.R_mono (ok' := (fun k_ => (w.heap.size ≤ k_) ∧ k_ ≠ gb186)) (Kd.R_types (HO192.out) BK186.out (by decide)) (fun k_ hk => ⟨hk.1.1.1, hk.2⟩))))) (Reps.none _ _)))); intro v194 w8 ho9 hb hg_ hnew_; clear hg_ hnew_; (first | rw [← Ny193.out] at ho9 | (simp only [Int.reduceToNat] at ho9; rw [← Ny193.out] at ho9)); have n0_ := Aside0.mk (Kd.N_lower ho9 (below_size (by repeat (first | (with_reducible first | exact HB.out | apply below_alloc | apply pw_below_drewN | apply below_drew1 | refine below_set ?_ GE186.out) | exact HB.out)))); have n1_ := Aside0.mk (blk_below (g := gb186) (o := .cells #[.int .i64 0, .slice none 0 0] 49 (0, 0)) (by (with_reducible repeat (first | refine blk_drewN ?_ _ | refine blk_drew ?_ | refine blk_alloc ?_ _)); exact BK186.out) hb); have n2_ := Aside0.mk (below_step (by repeat (first | (with_reducible first | exact HB.out | apply below_alloc | apply pw_below_drewN | apply below_drew1 | refine below_set ?_ GE186.out) | exact HB.out)) hb); clear BK186; clear HB; clear HO189; clear HO192; have HO195 := n0_; have BK186 := n1_; have HB := n2_; clear n0_ n1_ n2_; clear hb ho9; obtain ⟨Ao10, co10, eo10⟩ := Kd.N_slice HO195.out; subst eo10; have hcz11_0 : w8.cell? ⟨gb186, 0, none⟩ = some (.int .i64 0) := (blk_cell BK186.out 0).trans rfl; have hcz11_1 : w8.cell? ⟨gb186, 1, none⟩ = some (.slice none 0 0) := (blk_cell BK186.out 1).trans rfl; have hfz11_0 := blk_frozen BK186.out 0; have hfz11_1 := blk_frozen BK186.out 1))
  refine bodyPost_ret (results_cell_row rfl _ _ gb186 49 #[.int .i64 3, .slice Ao10 y193.length co10] (0, 0) _ rfl (by (with_reducible repeat (first | refine blk_drewN ?_ _ | refine blk_drew ?_ | refine blk_alloc ?_ _)); refine blk_put (cs := #[.int .i64 3, .slice none 0 0]) ?_ 1 _ rfl; (with_reducible repeat (first | refine blk_drewN ?_ _ | refine blk_drew ?_ | refine blk_alloc ?_ _)); refine blk_put (cs := #[.int .i64 0, .slice none 0 0]) ?_ 0 _ rfl; (with_reducible repeat (first | refine blk_drewN ?_ _ | refine blk_drew ?_ | refine blk_alloc ?_ _)); exact BK186.out) Try.underlying49 rfl (by kernel_rfl)) rfl ?_
  exact ⟨_, by first | rfl | (simp [errW_none, errW_some] <;> rfl) | (simp [*, errW_none, errW_some] <;> rfl), by (with_reducible repeat (first | apply Kd.N_alloc | apply Kd.N_drewN | apply Kd.N_drew)); exact Kd.N_mono (Kd.N_far (p := ⟨gb186, 1, none⟩) (Kd.N_far (p := ⟨gb186, 0, none⟩) (Kd.N_mono HO195.out (fun k_ hk => (⟨hk, hk.2⟩ : _ ∧ k_ ≠ gb186))) (fun _ hk => hk.2) (.int .i64 3)) (fun _ hk => hk.2) (.slice Ao10 y193.length co10)) (fun _ hk => hk.1.1), by repeat (first | (with_reducible first | exact HB.out | apply below_alloc | apply pw_below_drewN | apply below_drew1 | refine below_set ?_ GE186.out) | exact HB.out)⟩

end Go.Proofs.Ytnocfhnandedoaa.PCands
