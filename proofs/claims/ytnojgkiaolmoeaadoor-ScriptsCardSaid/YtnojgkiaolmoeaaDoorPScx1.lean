/- Several texts of this proof in one file (put together by a program of this session). -/
import Derived.Test.YtnojgkiaolmoeaaDoorPScx0
import Derived.Test.YtnojgkiaolmoeaaDoorPenA
import Derived.Test.YtnojgkiaolmoeaaDoorTakeA
section
/- Contracts: what calls of these functions of the program do, each as a plain function; written by a program of this session. -/
namespace Go.Proofs.YtnojgkiaolmoeaaDoor.PSc
open Go.RowKit Go.Proofs.YtnojgkiaolmoeaaDoorW.PrintWords Go.Proofs.YtnojgkiaolmoeaaDoorW.PrintLast Go.Proofs.YtnojgkiaolmoeaaDoorW.PrintMore
attribute [local go_sem] max2_int min2_int max_two min_two max_three min_three max_four min_four   -- for this text's walks alone
set_option linter.unusedVariables false
set_option linter.unusedSimpArgs false

/-! ### wharfagelaw0_CopyConfig: function 19 -/
def wharfagelaw0_CopyConfig.l0 : Nat → Int → Int → List (S63) → Int → List (S63) → Option (Int × (List (S63)))
 | 0, _, _, _, _, _ => none
 | k + 1, x4, x102000, x102001, x104000, x104001 => if x4 < (x102001.length : Int) then (if 0 ≤ x4 then ((some (([] : List (S65)) : List (S65))).bind fun y106 => (if y106.length + ((rd_T63 x102001 x4).f3).length < 8796093022208 then (if x104001.length < 2932031007402 then (wharfagelaw0_CopyConfig.l0 k (wrap64 (x4 + 1)) x102000 x102001 x104000 (x104001 ++ [(⟨(rd_T63 x102001 x4).f0, (rd_T63 x102001 x4).f1, (rd_T63 x102001 x4).f2, (y106 ++ ((rd_T63 x102001 x4).f3))⟩ : S63)])) else (none)) else (none))) else (none)) else (some (x104000, x104001))
def wharfagelaw0_CopyConfig.f (k : Nat) (a0_0 : Int) (l0_1 : List (S63)) : Option (Int × (List (S63))) := wharfagelaw0_CopyConfig.l0 k 0 a0_0 l0_1 a0_0 ([] : List (S63))
theorem wharfagelaw0_CopyConfig.mono_l : ∀ k, (∀ y0 y1 y2 y3 y4, LeO (wharfagelaw0_CopyConfig.l0 k y0 y1 y2 y3 y4) (wharfagelaw0_CopyConfig.l0 (k + 1) y0 y1 y2 y3 y4))
 | 0 => fun _ _ _ _ _ r h => by simp [wharfagelaw0_CopyConfig.l0] at h
 | k + 1 => by
  have ih0 := wharfagelaw0_CopyConfig.mono_l k
  ·intro y0 y1 y2 y3 y4
   unfold wharfagelaw0_CopyConfig.l0
   repeat' first
   | (with_reducible exact ih0 _ _ _ _ _)
   | (with_reducible exact LeO.refl _)
   | (with_reducible exact LeO.none _)
   | (with_reducible refine LeO.ite ?_ ?_)
   | (with_reducible refine LeO.bind ?_ (fun _ => ?_))
   | exact ih0 _ _ _ _ _
   | exact LeO.none _
   | refine LeO.ite ?_ ?_
   | refine LeO.bind ?_ (fun _ => ?_)
theorem wharfagelaw0_CopyConfig.mono : ∀ a0 a1 k, LeO (wharfagelaw0_CopyConfig.f k a0 a1) (wharfagelaw0_CopyConfig.f (k + 1) a0 a1) := by
 intro a0 a1 k
 have ih0 := wharfagelaw0_CopyConfig.mono_l k
 unfold wharfagelaw0_CopyConfig.f
 repeat' first
   | (with_reducible exact ih0 _ _ _ _ _)
   | (with_reducible exact LeO.refl _)
   | (with_reducible exact LeO.none _)
   | (with_reducible refine LeO.ite ?_ ?_)
   | (with_reducible refine LeO.bind ?_ (fun _ => ?_))
   | exact ih0 _ _ _ _ _
   | exact LeO.none _
   | refine LeO.ite ?_ ?_
   | refine LeO.bind ?_ (fun _ => ?_)
set_option maxHeartbeats 8000000 in
set_option maxRecDepth 100000 in
theorem wharfagelaw0_CopyConfig.calls (k : Nat) (a0_0 : Int) (A0_1 : Option Addr) (c0_1 : Nat) (l0_1 : List (S63)) (r1 : Int) (r2 : List (S63)) (w : World) (hr0_1 : Kd.C k63 w A0_1 l0_1.length l0_1) (hc0_1 : l0_1.length ≤ c0_1) (h : wharfagelaw0_CopyConfig.f k a0_0 l0_1 = some (r1, r2)) :
  Calls Tryd.prog 19 #[.agg #[.int .i64 a0_0, .slice A0_1 l0_1.length c0_1]] w fun e w' => ∃ v1_ : Value, e = .returned (.agg #[.int .i64 r1, v1_]) ∧ Kd.S k63 63 w' w.heap.size (fun _ => True) v1_ r2 ∧ Below w.heap.size w w' := by
 have hu38 := Tryd.underlying38
 have hu63 := Tryd.underlying63
 have HR0_1 := Aside0.mk hr0_1
 have HC0_1 := Aside0.mk hc0_1
 clear hr0_1 hc0_1
 have HB := Aside0.mk (Below.refl w.heap.size w)
 have H : (wharfagelaw0_CopyConfig.l0 k 0 a0_0 l0_1 a0_0 ([] : List (S63))) = some (r1, r2) := h
 clear h
 have H' := Aside0.mk H
 clear H
 go_enter Tryd.func19, Tryd.ntmps19
 go_wp2_with (first | ((with_reducible refine gate_dst (N := 1) rfl ?_); refine box_event ?hg (N := 1) ?hd (cs := #[.int .i64 a0_0, .slice A0_1 l0_1.length c0_1]) (t := 38) ?hr ?_; (case hd => rfl); (case hg => rfl); (case hr => first | (go_simp; done) | (go_simp; rfl)); intro g1 hg w2 hbox hb; have n0_ := Aside0.mk (below_step (by repeat (first | (with_reducible first | exact HB.out | apply below_alloc | apply pw_below_drewN | apply below_drew1) | exact HB.out)) hb); have n1_ := Aside0.mk (hbox); have n2_ := Aside0.mk ((by rw [hg]; exact (below_size (by repeat (first | (with_reducible first | exact HB.out | apply below_alloc | apply pw_below_drewN | apply below_drew1) | exact HB.out))) : w.heap.size ≤ g1)); have n3_ := Aside0.mk ((by rw [hg]; exact (below_size (by repeat (first | (with_reducible first | exact HB.out | apply below_alloc | apply pw_below_drewN | apply below_drew1) | exact HB.out))) : w.heap.size ≤ g1)); clear HB; have HB := n0_; have K1 := n1_; have G0 := n2_; have E0 := n3_; clear n0_ n1_ n2_ n3_; clear hb hbox hg) | ((with_reducible refine gate_dst (N := 2) rfl ?_); refine box_event ?hg (N := 2) ?hd (cs := #[.int .i64 0, .slice none 0 0]) (t := 38) ?hr ?_; (case hd => rfl); (case hg => rfl); (case hr => first | (go_simp; done) | (go_simp; rfl)); intro g3 hg w3 hbox hb; have n0_ := Aside0.mk (blk_below (g := g1) (o := .cells #[.int .i64 a0_0, .slice A0_1 l0_1.length c0_1] 38 (0, 0)) (by (with_reducible repeat (first | refine blk_drewN ?_ _ | refine blk_drew ?_ | refine blk_alloc ?_ _)); exact K1.out) hb); have n1_ := Aside0.mk (below_step (by repeat (first | (with_reducible first | exact HB.out | apply below_alloc | apply pw_below_drewN | apply below_drew1 | refine below_set ?_ E0.out) | exact HB.out)) hb); have n2_ := Aside0.mk (hbox); have n3_ := Aside0.mk ((by rw [hg]; exact (below_size (by repeat (first | (with_reducible first | exact HB.out | apply below_alloc | apply pw_below_drewN | apply below_drew1 | refine below_set ?_ E0.out) | exact HB.out))) : w.heap.size ≤ g3)); have n4_ := Aside0.mk ((by rw [hg]; exact (below_size (by repeat (first | (with_reducible first | exact HB.out | apply below_alloc | apply pw_below_drewN | apply below_drew1 | refine below_set ?_ E0.out) | exact HB.out))) : w.heap.size ≤ g3)); have n5_ := Aside0.mk ((by rw [hg]; exact Nat.ne_of_lt (blk_lt (g := g1) (o := .cells #[.int .i64 a0_0, .slice A0_1 l0_1.length c0_1] 38 (0, 0)) (by (with_reducible repeat (first | refine blk_drewN ?_ _ | refine blk_drew ?_ | refine blk_alloc ?_ _)); exact K1.out)) : g1 ≠ g3)); have n6_ := Aside0.mk ((by rw [hg]; exact Nat.ne_of_gt (blk_lt (g := g1) (o := .cells #[.int .i64 a0_0, .slice A0_1 l0_1.length c0_1] 38 (0, 0)) (by (with_reducible repeat (first | refine blk_drewN ?_ _ | refine blk_drew ?_ | refine blk_alloc ?_ _)); exact K1.out)) : g3 ≠ g1)); clear K1; clear HB; have K1 := n0_; have HB := n1_; have K3 := n2_; have G1 := n3_; have E1 := n4_; have N5 := n5_; have N6 := n6_; clear n0_ n1_ n2_ n3_ n4_ n5_ n6_; clear hb hbox hg; have hnb4 := N5.out; have hnc4 := N6.out; have hcz5_0 : w3.cell? ⟨g1, 0, none⟩ = some (.int .i64 a0_0) := (blk_cell K1.out 0).trans rfl; have hcz5_1 : w3.cell? ⟨g1, 1, none⟩ = some (.slice A0_1 l0_1.length c0_1) := (blk_cell K1.out 1).trans rfl; have hfz5_0 := blk_frozen K1.out 0; have hfz5_1 := blk_frozen K1.out 1) | ((with_reducible refine gate_dst (N := 3) rfl ?_); refine box_event ?hg (N := 3) ?hd (cs := #[.int .i64 0, .slice none 0 0]) (t := 38) ?hr ?_; (case hd => rfl); (case hg => rfl); (case hr => first | (go_simp; done) | (go_simp; rfl)); intro g2 hg w6 hbox hb; have n0_ := Aside0.mk (blk_below (g := g1) (o := .cells #[.int .i64 a0_0, .slice A0_1 l0_1.length c0_1] 38 (0, 0)) (by (with_reducible repeat (first | refine blk_drewN ?_ _ | refine blk_drew ?_ | refine blk_alloc ?_ _)); exact K1.out) hb); have n1_ := Aside0.mk (blk_below (g := g3) (o := .cells #[.int .i64 0, .slice none 0 0] 38 (0, 0)) (by (with_reducible repeat (first | refine blk_drewN ?_ _ | refine blk_drew ?_ | refine blk_alloc ?_ _)); exact K3.out) hb); have n2_ := Aside0.mk (below_step (by repeat (first | (with_reducible first | exact HB.out | apply below_alloc | apply pw_below_drewN | apply below_drew1 | refine below_set ?_ E0.out | refine below_set ?_ E1.out) | exact HB.out)) hb); have n3_ := Aside0.mk (hbox); have n4_ := Aside0.mk ((by rw [hg]; exact (below_size (by repeat (first | (with_reducible first | exact HB.out | apply below_alloc | apply pw_below_drewN | apply below_drew1 | refine below_set ?_ E0.out | refine below_set ?_ E1.out) | exact HB.out))) : w.heap.size ≤ g2)); have n5_ := Aside0.mk ((by rw [hg]; exact (below_size (by repeat (first | (with_reducible first | exact HB.out | apply below_alloc | apply pw_below_drewN | apply below_drew1 | refine below_set ?_ E0.out | refine below_set ?_ E1.out) | exact HB.out))) : w.heap.size ≤ g2)); have n6_ := Aside0.mk ((by rw [hg]; exact Nat.ne_of_lt (blk_lt (g := g1) (o := .cells #[.int .i64 a0_0, .slice A0_1 l0_1.length c0_1] 38 (0, 0)) (by (with_reducible repeat (first | refine blk_drewN ?_ _ | refine blk_drew ?_ | refine blk_alloc ?_ _)); exact K1.out)) : g1 ≠ g2)); have n7_ := Aside0.mk ((by rw [hg]; exact Nat.ne_of_gt (blk_lt (g := g1) (o := .cells #[.int .i64 a0_0, .slice A0_1 l0_1.length c0_1] 38 (0, 0)) (by (with_reducible repeat (first | refine blk_drewN ?_ _ | refine blk_drew ?_ | refine blk_alloc ?_ _)); exact K1.out)) : g2 ≠ g1)); have n8_ := Aside0.mk ((by rw [hg]; exact Nat.ne_of_lt (blk_lt (g := g3) (o := .cells #[.int .i64 0, .slice none 0 0] 38 (0, 0)) (by (with_reducible repeat (first | refine blk_drewN ?_ _ | refine blk_drew ?_ | refine blk_alloc ?_ _)); exact K3.out)) : g3 ≠ g2)); have n9_ := Aside0.mk ((by rw [hg]; exact Nat.ne_of_gt (blk_lt (g := g3) (o := .cells #[.int .i64 0, .slice none 0 0] 38 (0, 0)) (by (with_reducible repeat (first | refine blk_drewN ?_ _ | refine blk_drew ?_ | refine blk_alloc ?_ _)); exact K3.out)) : g2 ≠ g3)); clear K1; clear K3; clear HB; have K1 := n0_; have K3 := n1_; have HB := n2_; have K2 := n3_; have G2 := n4_; have E2 := n5_; have N0 := n6_; have N7 := n7_; have N1 := n8_; have N8 := n9_; clear n0_ n1_ n2_ n3_ n4_ n5_ n6_ n7_ n8_ n9_; clear hb hbox hg; have hnb7 := N7.out; have hnc7 := N0.out; have hnb8 := N8.out; have hnc8 := N1.out; have hcz9_0 : w6.cell? ⟨g2, 0, none⟩ = some (.int .i64 0) := (blk_cell K2.out 0).trans rfl; have hcz9_1 : w6.cell? ⟨g2, 1, none⟩ = some (.slice none 0 0) := (blk_cell K2.out 1).trans rfl; have hfz9_0 := blk_frozen K2.out 0; have hfz9_1 := blk_frozen K2.out 1))
 go_loopg [4] k (fun kq v4 w' => ∃ (x4_1 : Int) (x104001_1 : List (S63)) (u104001 : Value), v4 = .int .i64 x4_1 ∧ Aside0 (wharfagelaw0_CopyConfig.l0 kq x4_1 a0_0 l0_1 a0_0 x104001_1 = some (r1, r2)) ∧ Aside0 (kq ≤ k) ∧ Aside0 (Kd.S k63 63 w' w.heap.size (fun _ => True) u104001 x104001_1) ∧ Aside0 (w'.heap[g1]? = some (.cells #[.int .i64 a0_0, (.slice A0_1 l0_1.length c0_1)] 38 (0, 0))) ∧ Aside0 (w'.heap[g3]? = some (.cells #[.int .i64 0, (.slice none 0 0)] 38 (0, 0))) ∧ Aside0 (w'.heap[g2]? = some (.cells #[.int .i64 a0_0, u104001] 38 (0, 0))) ∧ Aside0 (Below w.heap.size w w'))
 case atStart => exact ⟨(0), (([] : List (S63))), (.slice none 0 0), (by first | rfl | (simp; done) | (simp [*]; done)), H', ⟨Nat.le_refl _⟩, ⟨by first | exact Kd.S_nil _ _ _ _ _ | exact Kd.N_nil _ _ _ _ _ | exact Kd.V_nil _ _ _ _ _ | exact Kd.Q_nil _ _ _ _ _ | exact Kd.R_nil _ _ _ _ _⟩, ⟨by (with_reducible repeat (first | refine blk_drewN ?_ _ | refine blk_drew ?_ | refine blk_alloc ?_ _)); refine blk_far ?_ N0.out _; (with_reducible repeat (first | refine blk_drewN ?_ _ | refine blk_drew ?_ | refine blk_alloc ?_ _)); refine blk_far ?_ N0.out _; (with_reducible repeat (first | refine blk_drewN ?_ _ | refine blk_drew ?_ | refine blk_alloc ?_ _)); exact K1.out⟩, ⟨by (with_reducible repeat (first | refine blk_drewN ?_ _ | refine blk_drew ?_ | refine blk_alloc ?_ _)); refine blk_far ?_ N1.out _; (with_reducible repeat (first | refine blk_drewN ?_ _ | refine blk_drew ?_ | refine blk_alloc ?_ _)); refine blk_far ?_ N1.out _; (with_reducible repeat (first | refine blk_drewN ?_ _ | refine blk_drew ?_ | refine blk_alloc ?_ _)); exact K3.out⟩, ⟨by (with_reducible repeat (first | refine blk_drewN ?_ _ | refine blk_drew ?_ | refine blk_alloc ?_ _)); refine blk_put (cs := #[.int .i64 a0_0, .slice none 0 0]) ?_ 1 _ rfl; (with_reducible repeat (first | refine blk_drewN ?_ _ | refine blk_drew ?_ | refine blk_alloc ?_ _)); refine blk_put (cs := #[.int .i64 0, .slice none 0 0]) ?_ 0 _ rfl; (with_reducible repeat (first | refine blk_drewN ?_ _ | refine blk_drew ?_ | refine blk_alloc ?_ _)); exact K2.out⟩, ⟨by repeat (first | (with_reducible first | exact HB.out | apply below_alloc | apply pw_below_drewN | apply below_drew1 | refine below_set ?_ E0.out | refine below_set ?_ E1.out | refine below_set ?_ E2.out) | exact HB.out)⟩⟩
 case round =>
  clear H'
  try clear c1
  try clear p2
  try clear c4
  try clear c7
  try clear c8
  try clear hcz5_0
  try clear hcz5_1
  try clear hcz9_0
  try clear hcz9_1
  try clear hfz5_0
  try clear hfz5_1
  try clear hfz9_0
  try clear hfz9_1
  obtain ⟨x4_1, x104001_1, u104001, rfl, HA, HK1, HO_104001, K1, K3, K2, HB⟩ := hrel
  cases gk with
  | zero => exact absurd HA.out (by simp [wharfagelaw0_CopyConfig.l0])
  | succ k1 =>
   have H := HA.out
   clear HA
   simp only [wharfagelaw0_CopyConfig.l0] at H
   by_cases c10 : x4_1 < (l0_1.length : Int)
   ·rw [if_pos c10] at H
    have c10b0 : decide (x4_1 < (l0_1.length : Int)) = true := decide_eq_true c10
    clear c10
    by_cases c11 : 0 ≤ x4_1
    ·rw [if_pos c11] at H
     have c11b0 : decide (0 ≤ x4_1) = true := decide_eq_true c11
     clear c11
     obtain ⟨y106, hy106⟩ : ∃ y_ : List (S65), y_ = (([] : List (S65))) := ⟨_, rfl⟩
     replace H : (if y106.length + ((rd_T63 l0_1 x4_1).f3).length < 8796093022208 then (if x104001_1.length < 2932031007402 then (wharfagelaw0_CopyConfig.l0 k1 (wrap64 (x4_1 + 1)) a0_0 l0_1 a0_0 (x104001_1 ++ [(⟨(rd_T63 l0_1 x4_1).f0, (rd_T63 l0_1 x4_1).f1, (rd_T63 l0_1 x4_1).f2, (y106 ++ ((rd_T63 l0_1 x4_1).f3))⟩ : S63)])) else (none)) else (none)) = some (r1, r2) := by first | (rw [hy106]; with_reducible exact H) | (have H2_ := (Option.bind_some _ _).symm.trans H; rw [hy106]; with_reducible exact H2_) | (have H2_ := (Option.bind_some _ _).symm.trans H; with_reducible exact H2_) | with_reducible exact H | (rw [hy106]; exact H) | exact H
     have Ny106 := Aside0.mk hy106
     clear hy106
     by_cases c12 : y106.length + ((rd_T63 l0_1 x4_1).f3).length < 8796093022208
     ·rw [if_pos c12] at H
      have LMc12 := Aside0.mk c12
      clear c12
      obtain ⟨y109, hy109⟩ : ∃ y_ : List (S65), y_ = (y106 ++ ((rd_T63 l0_1 x4_1).f3)) := ⟨_, rfl⟩
      replace H : (if x104001_1.length < 2932031007402 then (wharfagelaw0_CopyConfig.l0 k1 (wrap64 (x4_1 + 1)) a0_0 l0_1 a0_0 (x104001_1 ++ [(⟨(rd_T63 l0_1 x4_1).f0, (rd_T63 l0_1 x4_1).f1, (rd_T63 l0_1 x4_1).f2, y109⟩ : S63)])) else (none)) = some (r1, r2) := by first | (rw [hy109]; with_reducible exact H) | (have H2_ := (Option.bind_some _ _).symm.trans H; rw [hy109]; with_reducible exact H2_) | (have H2_ := (Option.bind_some _ _).symm.trans H; with_reducible exact H2_) | with_reducible exact H | (rw [hy109]; exact H) | exact H
      have Ny109 := Aside0.mk hy109
      clear hy109
      by_cases c13 : x104001_1.length < 2932031007402
      ·rw [if_pos c13] at H
       have LMc13 := Aside0.mk c13
       clear c13
       obtain ⟨y112, hy112⟩ : ∃ y_ : List (S63), y_ = (x104001_1 ++ [(⟨(rd_T63 l0_1 x4_1).f0, (rd_T63 l0_1 x4_1).f1, (rd_T63 l0_1 x4_1).f2, y109⟩ : S63)]) := ⟨_, rfl⟩
       replace H : (wharfagelaw0_CopyConfig.l0 k1 (wrap64 (x4_1 + 1)) a0_0 l0_1 a0_0 y112) = some (r1, r2) := by first | (rw [hy112]; with_reducible exact H) | (have H2_ := (Option.bind_some _ _).symm.trans H; rw [hy112]; with_reducible exact H2_) | (have H2_ := (Option.bind_some _ _).symm.trans H; with_reducible exact H2_) | with_reducible exact H | (rw [hy112]; exact H) | exact H
       have Ny112 := Aside0.mk hy112
       clear hy112
       have H' := Aside0.mk H
       clear H
       have hnb14 := N5.out
       have hnc14 := N6.out
       have hnb15 := N0.out
       have hnc15 := N7.out
       have hcz16_0 : wr.cell? ⟨g1, 0, none⟩ = some (.int .i64 a0_0) := (blk_cell K1.out 0).trans rfl
       have hcz16_1 : wr.cell? ⟨g1, 1, none⟩ = some (.slice A0_1 l0_1.length c0_1) := (blk_cell K1.out 1).trans rfl
       have hfz16_0 := blk_frozen K1.out 0
       have hfz16_1 := blk_frozen K1.out 1
       have p104 : 0 ≤ (x4_1 : Int) := of_decide_eq_true (by first | (with_reducible assumption) | assumption)
       have q104 : x4_1 < (l0_1.length : Int) := of_decide_eq_true (by first | (with_reducible assumption) | assumption)
       obtain ⟨ad104, A104_3, c104_3, e104, hx104_0, hx104_1, hx104_2, hx104_3, hl104_3, hi104_3⟩ := at_T63 HR0_1.out x4_1 p104 q104
       cases e104
       replace hx104_0 := (HB.out.cell (World.block_lt_of_cell? w _ hx104_0)).trans hx104_0
       replace hx104_1 := (HB.out.cell (World.block_lt_of_cell? w _ hx104_1)).trans hx104_1
       replace hx104_2 := (HB.out.cell (World.block_lt_of_cell? w _ hx104_2)).trans hx104_2
       replace hx104_3 := (HB.out.cell (World.block_lt_of_cell? w _ hx104_3)).trans hx104_3
       have HR104_3 := Aside0.mk hi104_3
       have HC104_3 := Aside0.mk hl104_3
       clear hi104_3 hl104_3
       replace p104 := eq_true p104
       replace q104 := eq_true q104
       go_wp2_with (first | ((with_reducible refine gate_dst (N := 5) rfl ?_); refine box_event ?hg (N := 5) ?hd (cs := #[.int .i64 0, .bool false, .int .i64 0, .slice none 0 0]) (t := 63) ?hr ?_; (case hd => rfl); (case hg => rfl); (case hr => first | (go_simp; done) | (go_simp; rfl)); intro g0 hg w17 hbox hb; have n0_ := Aside0.mk (Kd.S_below (Kd.S_elderB (by (with_reducible repeat (first | apply Kd.S_alloc | apply Kd.S_drewN | apply Kd.S_drew)); exact HO_104001.out) g0 (Nat.le_of_eq hg.symm)) hb); have n1_ := Aside0.mk (blk_below (g := g1) (o := .cells #[.int .i64 a0_0, .slice (some ad104) l0_1.length c0_1] 38 (0, 0)) (by (with_reducible repeat (first | refine blk_drewN ?_ _ | refine blk_drew ?_ | refine blk_alloc ?_ _)); exact K1.out) hb); have n2_ := Aside0.mk (blk_below (g := g3) (o := .cells #[.int .i64 0, .slice none 0 0] 38 (0, 0)) (by (with_reducible repeat (first | refine blk_drewN ?_ _ | refine blk_drew ?_ | refine blk_alloc ?_ _)); exact K3.out) hb); have n3_ := Aside0.mk (blk_below (g := g2) (o := .cells #[.int .i64 a0_0, u104001] 38 (0, 0)) (by (with_reducible repeat (first | refine blk_drewN ?_ _ | refine blk_drew ?_ | refine blk_alloc ?_ _)); exact K2.out) hb); have n4_ := Aside0.mk (below_step (by repeat (first | (with_reducible first | exact HB.out | apply below_alloc | apply pw_below_drewN | apply below_drew1 | refine below_set ?_ E0.out | refine below_set ?_ E1.out | refine below_set ?_ E2.out) | exact HB.out)) hb); have n5_ := Aside0.mk (hbox); have n6_ := Aside0.mk ((by rw [hg]; exact (below_size (by repeat (first | (with_reducible first | exact HB.out | apply below_alloc | apply pw_below_drewN | apply below_drew1 | refine below_set ?_ E0.out | refine below_set ?_ E1.out | refine below_set ?_ E2.out) | exact HB.out))) : w.heap.size ≤ g0)); have n7_ := Aside0.mk ((by rw [hg]; exact (below_size (by repeat (first | (with_reducible first | exact HB.out | apply below_alloc | apply pw_below_drewN | apply below_drew1 | refine below_set ?_ E0.out | refine below_set ?_ E1.out | refine below_set ?_ E2.out) | exact HB.out))) : w.heap.size ≤ g0)); have n8_ := Aside0.mk ((by rw [hg]; exact Nat.ne_of_lt (blk_lt (g := g1) (o := .cells #[.int .i64 a0_0, .slice (some ad104) l0_1.length c0_1] 38 (0, 0)) (by (with_reducible repeat (first | refine blk_drewN ?_ _ | refine blk_drew ?_ | refine blk_alloc ?_ _)); exact K1.out)) : g1 ≠ g0)); have n9_ := Aside0.mk ((by rw [hg]; exact Nat.ne_of_gt (blk_lt (g := g1) (o := .cells #[.int .i64 a0_0, .slice (some ad104) l0_1.length c0_1] 38 (0, 0)) (by (with_reducible repeat (first | refine blk_drewN ?_ _ | refine blk_drew ?_ | refine blk_alloc ?_ _)); exact K1.out)) : g0 ≠ g1)); have n10_ := Aside0.mk ((by rw [hg]; exact Nat.ne_of_lt (blk_lt (g := g3) (o := .cells #[.int .i64 0, .slice none 0 0] 38 (0, 0)) (by (with_reducible repeat (first | refine blk_drewN ?_ _ | refine blk_drew ?_ | refine blk_alloc ?_ _)); exact K3.out)) : g3 ≠ g0)); have n11_ := Aside0.mk ((by rw [hg]; exact Nat.ne_of_gt (blk_lt (g := g3) (o := .cells #[.int .i64 0, .slice none 0 0] 38 (0, 0)) (by (with_reducible repeat (first | refine blk_drewN ?_ _ | refine blk_drew ?_ | refine blk_alloc ?_ _)); exact K3.out)) : g0 ≠ g3)); have n12_ := Aside0.mk ((by rw [hg]; exact Nat.ne_of_lt (blk_lt (g := g2) (o := .cells #[.int .i64 a0_0, u104001] 38 (0, 0)) (by (with_reducible repeat (first | refine blk_drewN ?_ _ | refine blk_drew ?_ | refine blk_alloc ?_ _)); exact K2.out)) : g2 ≠ g0)); have n13_ := Aside0.mk ((by rw [hg]; exact Nat.ne_of_gt (blk_lt (g := g2) (o := .cells #[.int .i64 a0_0, u104001] 38 (0, 0)) (by (with_reducible repeat (first | refine blk_drewN ?_ _ | refine blk_drew ?_ | refine blk_alloc ?_ _)); exact K2.out)) : g0 ≠ g2)); clear HO_104001; clear K1; clear K3; clear K2; clear HB; have HO_104001 := n0_; have K1 := n1_; have K3 := n2_; have K2 := n3_; have HB := n4_; have K0 := n5_; have G3 := n6_; have E3 := n7_; have N2 := n8_; have N9 := n9_; have N3 := n10_; have N10 := n11_; have N4 := n12_; have N11 := n13_; clear n0_ n1_ n2_ n3_ n4_ n5_ n6_ n7_ n8_ n9_ n10_ n11_ n12_ n13_; clear hb hbox hg; have hnb18 := N9.out; have hnc18 := N2.out; have hnb19 := N10.out; have hnc19 := N3.out; have hnb20 := N11.out; have hnc20 := N4.out; have hcz21_0 : w17.cell? ⟨g0, 0, none⟩ = some (.int .i64 0) := (blk_cell K0.out 0).trans rfl; have hcz21_1 : w17.cell? ⟨g0, 1, none⟩ = some (.bool false) := (blk_cell K0.out 1).trans rfl; have hcz21_2 : w17.cell? ⟨g0, 2, none⟩ = some (.int .i64 0) := (blk_cell K0.out 2).trans rfl; have hcz21_3 : w17.cell? ⟨g0, 3, none⟩ = some (.slice none 0 0) := (blk_cell K0.out 3).trans rfl; have hfz21_0 := blk_frozen K0.out 0; have hfz21_1 := blk_frozen K0.out 1; have hfz21_2 := blk_frozen K0.out 2; have hfz21_3 := blk_frozen K0.out 3) | ((with_reducible refine gate_dst (N := 21) rfl ?_); refine Kd.R_lit k65 _ 65 ?hg (N := 21) ?hd (xs := ([] : List (S65))) (inner := []) (ok := fun _ => True) (okp := fun _ => True) ?hr ?hp (fun _ hk => hk) trivial (Below.refl _ _) (Nat.le_refl _) (by simp) ?_; (case hd => rfl); (case hg => rfl); (case hr => first | (go_simp; done) | (go_simp; rfl)); (case hp => exact (Reps.none _ _)); intro v107 w22 ho23 hb hg_ hnew_; clear hg_ hnew_; (first | rw [← Ny106.out] at ho23 | (simp only [Int.reduceToNat] at ho23; rw [← Ny106.out] at ho23)); have n0_ := Aside0.mk (Kd.S_elder' (by (with_reducible repeat (first | apply Kd.S_alloc | apply Kd.S_drewN | apply Kd.S_drew)); exact (Kd.S_mono (Kd.S_far (p := ⟨g0, 3, none⟩) (Kd.S_far (p := ⟨g0, 2, none⟩) (Kd.S_far (p := ⟨g0, 1, none⟩) (Kd.S_far (p := ⟨g0, 0, none⟩) (Kd.S_mono HO_104001.out (fun k_ hk => (⟨hk, hk.2⟩ : _ ∧ k_ ≠ g0))) (fun _ hk => hk.2) (.int .i64 ((rd_T63 l0_1 x4_1).f0))) (fun _ hk => hk.2) (.bool ((rd_T63 l0_1 x4_1).f1))) (fun _ hk => hk.2) (.int .i64 ((rd_T63 l0_1 x4_1).f2))) (fun _ hk => hk.2) (.slice A104_3 ((rd_T63 l0_1 x4_1).f3).length c104_3)) (fun _ h_ => h_.1))) (Kd.R_base ho23) hb); have n1_ := Aside0.mk (Kd.R_lower ho23 (below_size (by repeat (first | (with_reducible first | exact HB.out | apply below_alloc | apply pw_below_drewN | apply below_drew1 | refine below_set ?_ E0.out | refine below_set ?_ E1.out | refine below_set ?_ E2.out | refine below_set ?_ E3.out) | exact HB.out)))); have n2_ := Aside0.mk (blk_below (g := g1) (o := .cells #[.int .i64 a0_0, .slice (some ad104) l0_1.length c0_1] 38 (0, 0)) (by (with_reducible repeat (first | refine blk_drewN ?_ _ | refine blk_drew ?_ | refine blk_alloc ?_ _)); refine blk_far ?_ N2.out _; (with_reducible repeat (first | refine blk_drewN ?_ _ | refine blk_drew ?_ | refine blk_alloc ?_ _)); refine blk_far ?_ N2.out _; (with_reducible repeat (first | refine blk_drewN ?_ _ | refine blk_drew ?_ | refine blk_alloc ?_ _)); refine blk_far ?_ N2.out _; (with_reducible repeat (first | refine blk_drewN ?_ _ | refine blk_drew ?_ | refine blk_alloc ?_ _)); refine blk_far ?_ N2.out _; (with_reducible repeat (first | refine blk_drewN ?_ _ | refine blk_drew ?_ | refine blk_alloc ?_ _)); exact K1.out) hb); have n3_ := Aside0.mk (blk_below (g := g3) (o := .cells #[.int .i64 0, .slice none 0 0] 38 (0, 0)) (by (with_reducible repeat (first | refine blk_drewN ?_ _ | refine blk_drew ?_ | refine blk_alloc ?_ _)); refine blk_far ?_ N3.out _; (with_reducible repeat (first | refine blk_drewN ?_ _ | refine blk_drew ?_ | refine blk_alloc ?_ _)); refine blk_far ?_ N3.out _; (with_reducible repeat (first | refine blk_drewN ?_ _ | refine blk_drew ?_ | refine blk_alloc ?_ _)); refine blk_far ?_ N3.out _; (with_reducible repeat (first | refine blk_drewN ?_ _ | refine blk_drew ?_ | refine blk_alloc ?_ _)); refine blk_far ?_ N3.out _; (with_reducible repeat (first | refine blk_drewN ?_ _ | refine blk_drew ?_ | refine blk_alloc ?_ _)); exact K3.out) hb); have n4_ := Aside0.mk (blk_below (g := g2) (o := .cells #[.int .i64 a0_0, u104001] 38 (0, 0)) (by (with_reducible repeat (first | refine blk_drewN ?_ _ | refine blk_drew ?_ | refine blk_alloc ?_ _)); refine blk_far ?_ N4.out _; (with_reducible repeat (first | refine blk_drewN ?_ _ | refine blk_drew ?_ | refine blk_alloc ?_ _)); refine blk_far ?_ N4.out _; (with_reducible repeat (first | refine blk_drewN ?_ _ | refine blk_drew ?_ | refine blk_alloc ?_ _)); refine blk_far ?_ N4.out _; (with_reducible repeat (first | refine blk_drewN ?_ _ | refine blk_drew ?_ | refine blk_alloc ?_ _)); refine blk_far ?_ N4.out _; (with_reducible repeat (first | refine blk_drewN ?_ _ | refine blk_drew ?_ | refine blk_alloc ?_ _)); exact K2.out) hb); have n5_ := Aside0.mk (blk_below (g := g0) (o := .cells #[.int .i64 ((rd_T63 l0_1 x4_1).f0), .bool ((rd_T63 l0_1 x4_1).f1), .int .i64 ((rd_T63 l0_1 x4_1).f2), .slice A104_3 ((rd_T63 l0_1 x4_1).f3).length c104_3] 63 (0, 0)) (by (with_reducible repeat (first | refine blk_drewN ?_ _ | refine blk_drew ?_ | refine blk_alloc ?_ _)); refine blk_put (cs := #[.int .i64 ((rd_T63 l0_1 x4_1).f0), .bool ((rd_T63 l0_1 x4_1).f1), .int .i64 ((rd_T63 l0_1 x4_1).f2), .slice none 0 0]) ?_ 3 _ rfl; (with_reducible repeat (first | refine blk_drewN ?_ _ | refine blk_drew ?_ | refine blk_alloc ?_ _)); refine blk_put (cs := #[.int .i64 ((rd_T63 l0_1 x4_1).f0), .bool ((rd_T63 l0_1 x4_1).f1), .int .i64 0, .slice none 0 0]) ?_ 2 _ rfl; (with_reducible repeat (first | refine blk_drewN ?_ _ | refine blk_drew ?_ | refine blk_alloc ?_ _)); refine blk_put (cs := #[.int .i64 ((rd_T63 l0_1 x4_1).f0), .bool false, .int .i64 0, .slice none 0 0]) ?_ 1 _ rfl; (with_reducible repeat (first | refine blk_drewN ?_ _ | refine blk_drew ?_ | refine blk_alloc ?_ _)); refine blk_put (cs := #[.int .i64 0, .bool false, .int .i64 0, .slice none 0 0]) ?_ 0 _ rfl; (with_reducible repeat (first | refine blk_drewN ?_ _ | refine blk_drew ?_ | refine blk_alloc ?_ _)); exact K0.out) hb); have n6_ := Aside0.mk (below_step (by repeat (first | (with_reducible first | exact HB.out | apply below_alloc | apply pw_below_drewN | apply below_drew1 | refine below_set ?_ E0.out | refine below_set ?_ E1.out | refine below_set ?_ E2.out | refine below_set ?_ E3.out) | exact HB.out)) hb); clear HO_104001; clear K1; clear K3; clear K2; clear K0; clear HB; have HO_104001 := n0_; have O1 := n1_; have K1 := n2_; have K3 := n3_; have K2 := n4_; have K0 := n5_; have HB := n6_; clear n0_ n1_ n2_ n3_ n4_ n5_ n6_; clear hb ho23; have hcz24_0 : w22.cell? ⟨g0, 0, none⟩ = some (.int .i64 ((rd_T63 l0_1 x4_1).f0)) := (blk_cell K0.out 0).trans rfl; have hcz24_1 : w22.cell? ⟨g0, 1, none⟩ = some (.bool ((rd_T63 l0_1 x4_1).f1)) := (blk_cell K0.out 1).trans rfl; have hcz24_2 : w22.cell? ⟨g0, 2, none⟩ = some (.int .i64 ((rd_T63 l0_1 x4_1).f2)) := (blk_cell K0.out 2).trans rfl; have hcz24_3 : w22.cell? ⟨g0, 3, none⟩ = some (.slice A104_3 ((rd_T63 l0_1 x4_1).f3).length c104_3) := (blk_cell K0.out 3).trans rfl; have hfz24_0 := blk_frozen K0.out 0; have hfz24_1 := blk_frozen K0.out 1; have hfz24_2 := blk_frozen K0.out 2; have hfz24_3 := blk_frozen K0.out 3) | ((with_reducible refine gate_builtin (b := .append) (xs := #[.tmp 21, .tmp 23]) rfl ?_); at_builtin; refine Kd.R_append_rows k65 (w0 := w) w.heap.size rfl (.tmp 21) (.tmp 23) 61 65 (.agg #[(.int .i64 0), (.bool false)]) 16 rfl Tryd.underlying61 info65 rfl (by decide) (by omega) v107 y106 ((rd_T63 l0_1 x4_1).f3) _ _ _ (fun _ => True) (fun _ => False) rfl rfl ?aO ?aR (fun _ _ h => h) (fun _ h => h.elim) ?aF ?aB ?aS ?aL ?_; (case aR => repeat (first | exact (Kd.C_below HR104_3.out HB.out) | (with_reducible refine Kd.C_alloc ?_ _) | (with_reducible refine Kd.C_drewN ?_ _) | (with_reducible refine Kd.C_drew ?_))); (case aB => exact (by repeat (first | (with_reducible first | exact HB.out | apply below_alloc | apply pw_below_drewN | apply below_drew1 | refine below_set ?_ E0.out | refine below_set ?_ E1.out | refine below_set ?_ E2.out | refine below_set ?_ E3.out) | exact HB.out))); (case aF => exact (fun _ _ => trivial)); (case aO => exact (by (with_reducible repeat (first | apply Kd.R_alloc | apply Kd.R_drewN | apply Kd.R_drew)); exact O1.out)); (case aS => exact (below_size (by repeat (first | (with_reducible first | exact HB.out | apply below_alloc | apply pw_below_drewN | apply below_drew1 | refine below_set ?_ E0.out | refine below_set ?_ E1.out | refine below_set ?_ E2.out | refine below_set ?_ E3.out) | exact HB.out)))); (case aL => have := LMc12.out; omega); intro v110 w25 ho hb hg hat; rw [← Ny109.out] at ho; have n0_ := Aside0.mk (Kd.S_after (ok := (fun k_ => k_ ≠ g0)) (by (with_reducible repeat (first | apply Kd.S_alloc | apply Kd.S_drewN | apply Kd.S_drew)); exact Kd.S_mono HO_104001.out (fun _ hk => ⟨hk.1.2, hk.2⟩)) hg hat); have n1_ := Aside0.mk (blk_grown (g := g1) (o := .cells #[.int .i64 a0_0, .slice (some ad104) l0_1.length c0_1] 38 (0, 0)) (by (with_reducible repeat (first | refine blk_drewN ?_ _ | refine blk_drew ?_ | refine blk_alloc ?_ _)); exact K1.out) hg (Kd.R_ne O1.out K1.out (by decide))); have n2_ := Aside0.mk (blk_grown (g := g3) (o := .cells #[.int .i64 0, .slice none 0 0] 38 (0, 0)) (by (with_reducible repeat (first | refine blk_drewN ?_ _ | refine blk_drew ?_ | refine blk_alloc ?_ _)); exact K3.out) hg (Kd.R_ne O1.out K3.out (by decide))); have n3_ := Aside0.mk (blk_grown (g := g2) (o := .cells #[.int .i64 a0_0, u104001] 38 (0, 0)) (by (with_reducible repeat (first | refine blk_drewN ?_ _ | refine blk_drew ?_ | refine blk_alloc ?_ _)); exact K2.out) hg (Kd.R_ne O1.out K2.out (by decide))); have n4_ := Aside0.mk (blk_grown (g := g0) (o := .cells #[.int .i64 ((rd_T63 l0_1 x4_1).f0), .bool ((rd_T63 l0_1 x4_1).f1), .int .i64 ((rd_T63 l0_1 x4_1).f2), .slice A104_3 ((rd_T63 l0_1 x4_1).f3).length c104_3] 63 (0, 0)) (by (with_reducible repeat (first | refine blk_drewN ?_ _ | refine blk_drew ?_ | refine blk_alloc ?_ _)); exact K0.out) hg (Kd.R_ne O1.out K0.out (by decide))); have n5_ := Aside0.mk (hb); have n6_ := Aside0.mk (ho); clear HO_104001; clear K1; clear K3; clear K2; clear K0; clear HB; clear O1; have HO_104001 := n0_; have K1 := n1_; have K3 := n2_; have K2 := n3_; have K0 := n4_; have HB := n5_; have O0 := n6_; clear n0_ n1_ n2_ n3_ n4_ n5_ n6_; clear ho hb hg hat; obtain ⟨Ao26, co26, eo26⟩ := Kd.R_slice O0.out; subst eo26; have hcz27_0 : w25.cell? ⟨g0, 0, none⟩ = some (.int .i64 ((rd_T63 l0_1 x4_1).f0)) := (blk_cell K0.out 0).trans rfl; have hcz27_1 : w25.cell? ⟨g0, 1, none⟩ = some (.bool ((rd_T63 l0_1 x4_1).f1)) := (blk_cell K0.out 1).trans rfl; have hcz27_2 : w25.cell? ⟨g0, 2, none⟩ = some (.int .i64 ((rd_T63 l0_1 x4_1).f2)) := (blk_cell K0.out 2).trans rfl; have hcz27_3 : w25.cell? ⟨g0, 3, none⟩ = some (.slice A104_3 ((rd_T63 l0_1 x4_1).f3).length c104_3) := (blk_cell K0.out 3).trans rfl; have hfz27_0 := blk_frozen K0.out 0; have hfz27_1 := blk_frozen K0.out 1; have hfz27_2 := blk_frozen K0.out 2; have hfz27_3 := blk_frozen K0.out 3) | ((with_reducible refine gate_store (t := 61) (p := 25) rfl ?_); refine store_event (t := 61) (p := 25) (v := ?vo_w28) (w1 := (w25.setCell ⟨g0, 3, none⟩ (.slice Ao26 y109.length co26))) ?hg ?ho ?hn ?hr ?_; (case ho => rfl); (case hg => rfl); (case hn => rfl); (case hr => first | (go_simp; done) | (go_simp; rfl)); intro w28 hw; have n0_ : Aside0 (Kd.S k63 63 w28 w.heap.size (fun k_ => some k_ ≠ (.slice Ao26 y109.length co26 : Value).ownBlock ∧ k_ ≠ g0) u104001 x104001_1) := ⟨(by rw [hw]; exact (by (with_reducible repeat (first | apply Kd.S_alloc | apply Kd.S_drewN | apply Kd.S_drew)); exact Kd.S_mono (Kd.S_far (p := ⟨g0, 3, none⟩) (Kd.S_mono HO_104001.out (fun k_ hk => (⟨hk, hk.1⟩ : _ ∧ k_ ≠ g0))) (fun _ hk => hk.2) (.slice Ao26 y109.length co26)) (fun _ hk => ⟨hk.1.2, hk.1.1⟩)))⟩; have n1_ : Aside0 (Kd.R k65 65 w28 w.heap.size (fun _ => True) (.slice Ao26 y109.length co26) y109) := ⟨(by rw [hw]; exact (by (with_reducible repeat (first | apply Kd.R_alloc | apply Kd.R_drewN | apply Kd.R_drew)); exact Kd.R_mono (Kd.R_far (p := ⟨g0, 3, none⟩) (Kd.R_types O0.out K0.out (by decide)) (fun _ hk => hk.2) (.slice Ao26 y109.length co26)) (fun _ hk => trivial)))⟩; have n2_ : Aside0 (w28.heap[g1]? = some (.cells #[.int .i64 a0_0, .slice (some ad104) l0_1.length c0_1] 38 (0, 0))) := ⟨(by rw [hw]; exact (by (with_reducible repeat (first | refine blk_drewN ?_ _ | refine blk_drew ?_ | refine blk_alloc ?_ _)); refine blk_far ?_ N2.out _; (with_reducible repeat (first | refine blk_drewN ?_ _ | refine blk_drew ?_ | refine blk_alloc ?_ _)); exact K1.out))⟩; have n3_ : Aside0 (w28.heap[g3]? = some (.cells #[.int .i64 0, .slice none 0 0] 38 (0, 0))) := ⟨(by rw [hw]; exact (by (with_reducible repeat (first | refine blk_drewN ?_ _ | refine blk_drew ?_ | refine blk_alloc ?_ _)); refine blk_far ?_ N3.out _; (with_reducible repeat (first | refine blk_drewN ?_ _ | refine blk_drew ?_ | refine blk_alloc ?_ _)); exact K3.out))⟩; have n4_ : Aside0 (w28.heap[g2]? = some (.cells #[.int .i64 a0_0, u104001] 38 (0, 0))) := ⟨(by rw [hw]; exact (by (with_reducible repeat (first | refine blk_drewN ?_ _ | refine blk_drew ?_ | refine blk_alloc ?_ _)); refine blk_far ?_ N4.out _; (with_reducible repeat (first | refine blk_drewN ?_ _ | refine blk_drew ?_ | refine blk_alloc ?_ _)); exact K2.out))⟩; have n5_ : Aside0 (w28.heap[g0]? = some (.cells #[.int .i64 ((rd_T63 l0_1 x4_1).f0), .bool ((rd_T63 l0_1 x4_1).f1), .int .i64 ((rd_T63 l0_1 x4_1).f2), .slice Ao26 y109.length co26] 63 (0, 0))) := ⟨(by rw [hw]; exact (by (with_reducible repeat (first | refine blk_drewN ?_ _ | refine blk_drew ?_ | refine blk_alloc ?_ _)); refine blk_put (cs := #[.int .i64 ((rd_T63 l0_1 x4_1).f0), .bool ((rd_T63 l0_1 x4_1).f1), .int .i64 ((rd_T63 l0_1 x4_1).f2), .slice A104_3 ((rd_T63 l0_1 x4_1).f3).length c104_3]) ?_ 3 _ rfl; (with_reducible repeat (first | refine blk_drewN ?_ _ | refine blk_drew ?_ | refine blk_alloc ?_ _)); exact K0.out))⟩; have n6_ : Aside0 (Below w.heap.size w w28) := ⟨(by rw [hw]; exact (by repeat (first | (with_reducible first | exact HB.out | apply below_alloc | apply pw_below_drewN | apply below_drew1 | refine below_set ?_ E0.out | refine below_set ?_ E1.out | refine below_set ?_ E2.out | refine below_set ?_ E3.out) | exact HB.out)))⟩; clear hw; clear HO_104001; clear O0; clear K1; clear K3; clear K2; clear K0; clear HB; have HO_104001 := n0_; have O0 := n1_; have K1 := n2_; have K3 := n3_; have K2 := n4_; have K0 := n5_; have HB := n6_; clear n0_ n1_ n2_ n3_ n4_ n5_ n6_; have hnb29 := N8.out; have hnc29 := N1.out; have hcz30_0 : w28.cell? ⟨g2, 0, none⟩ = some (.int .i64 a0_0) := (blk_cell K2.out 0).trans rfl; have hcz30_1 : w28.cell? ⟨g2, 1, none⟩ = some (u104001) := (blk_cell K2.out 1).trans rfl; have hfz30_0 := blk_frozen K2.out 0; have hfz30_1 := blk_frozen K2.out 1; have hcz31_0 : w28.cell? ⟨g0, 0, none⟩ = some (.int .i64 ((rd_T63 l0_1 x4_1).f0)) := (blk_cell K0.out 0).trans rfl; have hcz31_1 : w28.cell? ⟨g0, 1, none⟩ = some (.bool ((rd_T63 l0_1 x4_1).f1)) := (blk_cell K0.out 1).trans rfl; have hcz31_2 : w28.cell? ⟨g0, 2, none⟩ = some (.int .i64 ((rd_T63 l0_1 x4_1).f2)) := (blk_cell K0.out 2).trans rfl; have hcz31_3 : w28.cell? ⟨g0, 3, none⟩ = some (.slice Ao26 y109.length co26) := (blk_cell K0.out 3).trans rfl; have hfz31_0 := blk_frozen K0.out 0; have hfz31_1 := blk_frozen K0.out 1; have hfz31_2 := blk_frozen K0.out 2; have hfz31_3 := blk_frozen K0.out 3) | ((with_reducible refine gate_builtin (b := .append) (xs := #[.tmp 27, .tmp 29]) rfl ?_); at_builtin; refine Kd.S_append k63 (w0 := w) w.heap.size rfl (.tmp 27) (.tmp 29) 36 63 (.agg #[(.int .i64 0), (.bool false), (.int .i64 0), (.slice none 0 0)]) 48 rfl Tryd.underlying36 info63 rfl (by decide) (by omega) u104001 x104001_1 (⟨(rd_T63 l0_1 x4_1).f0, (rd_T63 l0_1 x4_1).f1, (rd_T63 l0_1 x4_1).f2, y109⟩ : S63) [.int .i64 ((rd_T63 l0_1 x4_1).f0), .bool ((rd_T63 l0_1 x4_1).f1), .int .i64 ((rd_T63 l0_1 x4_1).f2), .slice Ao26 y109.length co26] (fun k_ => k_ ≠ g0) (fun k_ => some k_ = (.slice Ao26 y109.length co26 : Value).ownBlock) rfl rfl ?aP (fun k_ hk_ => ((Kd.R_mono (ok' := fun k_ => ((fun k_ => k_ ≠ g0)) k_ ∧ some k_ ≠ (u104001 : Value).ownBlock) (Kd.R_types (Kd.R_apart' (O0.out) (Kd.S_typed HO_104001.out) (by decide)) K0.out (by decide)) (fun k_ hk => ⟨hk.2, hk.1.2⟩))).1 k_ hk_.symm) ?aF ?aO ?aB ?aS ?aL ?_; (case aP => exact k63_mkM _ _ _ (⟨(rd_T63 l0_1 x4_1).f0, (rd_T63 l0_1 x4_1).f1, (rd_T63 l0_1 x4_1).f2, y109⟩ : S63) (Kd.R_mono (Kd.R_tight rfl (Kd.R_mono (ok' := fun k_ => ((fun k_ => k_ ≠ g0)) k_ ∧ some k_ ≠ (u104001 : Value).ownBlock) (Kd.R_types (Kd.R_apart' (O0.out) (Kd.S_typed HO_104001.out) (by decide)) K0.out (by decide)) (fun k_ hk => ⟨hk.2, hk.1.2⟩))) (fun _ h_ => h_))); (case aB => exact (by repeat (first | (with_reducible first | exact HB.out | apply below_alloc | apply pw_below_drewN | apply below_drew1 | refine below_set ?_ E0.out | refine below_set ?_ E1.out | refine below_set ?_ E2.out | refine below_set ?_ E3.out) | exact HB.out))); (case aF => exact (fun k_ hk => Kd.freshB (g := g0) (o := .cells #[.int .i64 ((rd_T63 l0_1 x4_1).f0), .bool ((rd_T63 l0_1 x4_1).f1), .int .i64 ((rd_T63 l0_1 x4_1).f2), .slice Ao26 y109.length co26] 63 (0, 0)) (by (with_reducible repeat (first | refine blk_drewN ?_ _ | refine blk_drew ?_ | refine blk_alloc ?_ _)); exact K0.out) k_ hk)); (case aO => exact (by (with_reducible repeat (first | apply Kd.S_alloc | apply Kd.S_drewN | apply Kd.S_drew)); exact Kd.S_mono HO_104001.out (fun k_ hk => ⟨hk.2, fun e_ => hk.1 e_⟩))); (case aS => exact (below_size (by repeat (first | (with_reducible first | exact HB.out | apply below_alloc | apply pw_below_drewN | apply below_drew1 | refine below_set ?_ E0.out | refine below_set ?_ E1.out | refine below_set ?_ E2.out | refine below_set ?_ E3.out) | exact HB.out)))); (case aL => have := LMc13.out; omega); intro v113 w32 ho hb hg hat; rw [← Ny112.out] at ho; have n0_ := Aside0.mk (blk_grown (g := g1) (o := .cells #[.int .i64 a0_0, .slice (some ad104) l0_1.length c0_1] 38 (0, 0)) (by (with_reducible repeat (first | refine blk_drewN ?_ _ | refine blk_drew ?_ | refine blk_alloc ?_ _)); exact K1.out) hg (Kd.S_ne HO_104001.out K1.out (by decide))); have n1_ := Aside0.mk (blk_grown (g := g3) (o := .cells #[.int .i64 0, .slice none 0 0] 38 (0, 0)) (by (with_reducible repeat (first | refine blk_drewN ?_ _ | refine blk_drew ?_ | refine blk_alloc ?_ _)); exact K3.out) hg (Kd.S_ne HO_104001.out K3.out (by decide))); have n2_ := Aside0.mk (blk_grown (g := g2) (o := .cells #[.int .i64 a0_0, u104001] 38 (0, 0)) (by (with_reducible repeat (first | refine blk_drewN ?_ _ | refine blk_drew ?_ | refine blk_alloc ?_ _)); exact K2.out) hg (Kd.S_ne HO_104001.out K2.out (by decide))); have n3_ := Aside0.mk (blk_grown (g := g0) (o := .cells #[.int .i64 ((rd_T63 l0_1 x4_1).f0), .bool ((rd_T63 l0_1 x4_1).f1), .int .i64 ((rd_T63 l0_1 x4_1).f2), .slice Ao26 y109.length co26] 63 (0, 0)) (by (with_reducible repeat (first | refine blk_drewN ?_ _ | refine blk_drew ?_ | refine blk_alloc ?_ _)); exact K0.out) hg (Kd.S_away HO_104001.out (fun _ hk => hk.2))); have n4_ := Aside0.mk (hb); have n5_ := Aside0.mk (ho); clear K1; clear K3; clear K2; clear K0; clear HB; clear HO_104001; clear O0; have K1 := n0_; have K3 := n1_; have K2 := n2_; have K0 := n3_; have HB := n4_; have O2 := n5_; clear n0_ n1_ n2_ n3_ n4_ n5_; clear ho hb hg hat; obtain ⟨Ao33, co33, eo33⟩ := Kd.S_slice O2.out; subst eo33; have hcz34_0 : w32.cell? ⟨g2, 0, none⟩ = some (.int .i64 a0_0) := (blk_cell K2.out 0).trans rfl; have hcz34_1 : w32.cell? ⟨g2, 1, none⟩ = some (u104001) := (blk_cell K2.out 1).trans rfl; have hfz34_0 := blk_frozen K2.out 0; have hfz34_1 := blk_frozen K2.out 1))
       go_roundg k1
       case measure => have := HK1.out; omega
       case rel => exact ⟨(wrap64 (x4_1 + 1)), (y112), (.slice Ao33 y112.length co33), (by first | rfl | (simp; done) | (simp [*]; done)), H', ⟨by have := HK1.out; omega⟩, ⟨by (with_reducible repeat (first | apply Kd.S_alloc | apply Kd.S_drewN | apply Kd.S_drew)); exact Kd.S_mono (Kd.S_far (p := ⟨g2, 1, none⟩) (Kd.S_types O2.out K2.out (by decide)) (fun _ hk => hk.2) (.slice Ao33 y112.length co33)) (fun _ hk => trivial)⟩, ⟨by (with_reducible repeat (first | refine blk_drewN ?_ _ | refine blk_drew ?_ | refine blk_alloc ?_ _)); refine blk_far ?_ N0.out _; (with_reducible repeat (first | refine blk_drewN ?_ _ | refine blk_drew ?_ | refine blk_alloc ?_ _)); exact K1.out⟩, ⟨by (with_reducible repeat (first | refine blk_drewN ?_ _ | refine blk_drew ?_ | refine blk_alloc ?_ _)); refine blk_far ?_ N1.out _; (with_reducible repeat (first | refine blk_drewN ?_ _ | refine blk_drew ?_ | refine blk_alloc ?_ _)); exact K3.out⟩, ⟨by (with_reducible repeat (first | refine blk_drewN ?_ _ | refine blk_drew ?_ | refine blk_alloc ?_ _)); refine blk_put (cs := #[.int .i64 a0_0, u104001]) ?_ 1 _ rfl; (with_reducible repeat (first | refine blk_drewN ?_ _ | refine blk_drew ?_ | refine blk_alloc ?_ _)); exact K2.out⟩, ⟨by repeat (first | (with_reducible first | exact HB.out | apply below_alloc | apply pw_below_drewN | apply below_drew1 | refine below_set ?_ E0.out | refine below_set ?_ E1.out | refine below_set ?_ E2.out | refine below_set ?_ E3.out) | exact HB.out)⟩⟩
      ·rw [if_neg c13] at H
       exact absurd H (by simp)
     ·rw [if_neg c12] at H
      exact absurd H (by simp)
    ·rw [if_neg c11] at H
     exact absurd H (by simp)
   ·rw [if_neg c10] at H
    have c10b0 : decide (x4_1 < (l0_1.length : Int)) = false := decide_eq_false c10
    clear c10
    simp only [Option.some.injEq, Prod.mk.injEq] at H
    obtain ⟨rfl, rfl⟩ := H
    have hnb35 := N5.out
    have hnc35 := N6.out
    have hnb36 := N0.out
    have hnc36 := N7.out
    have hcz37_0 : wr.cell? ⟨g1, 0, none⟩ = some (.int .i64 a0_0) := (blk_cell K1.out 0).trans rfl
    have hcz37_1 : wr.cell? ⟨g1, 1, none⟩ = some (.slice A0_1 l0_1.length c0_1) := (blk_cell K1.out 1).trans rfl
    have hfz37_0 := blk_frozen K1.out 0
    have hfz37_1 := blk_frozen K1.out 1
    have hnb38 := N8.out
    have hnc38 := N1.out
    have hcz39_0 : wr.cell? ⟨g2, 0, none⟩ = some (.int .i64 a0_0) := (blk_cell K2.out 0).trans rfl
    have hcz39_1 : wr.cell? ⟨g2, 1, none⟩ = some (u104001) := (blk_cell K2.out 1).trans rfl
    have hfz39_0 := blk_frozen K2.out 0
    have hfz39_1 := blk_frozen K2.out 1
    have hcz40_0 : wr.cell? ⟨g3, 0, none⟩ = some (.int .i64 0) := (blk_cell K3.out 0).trans rfl
    have hcz40_1 : wr.cell? ⟨g3, 1, none⟩ = some (.slice none 0 0) := (blk_cell K3.out 1).trans rfl
    have hfz40_0 := blk_frozen K3.out 0
    have hfz40_1 := blk_frozen K3.out 1
    obtain ⟨Ao41, co41, eo41⟩ := Kd.S_slice HO_104001.out
    subst eo41
    go_wp2
    refine bodyPost_ret (results_cell_row rfl _ _ g3 38 #[.int .i64 a0_0, .slice Ao41 x104001_1.length co41] (0, 0) _ rfl (by (with_reducible repeat (first | refine blk_drewN ?_ _ | refine blk_drew ?_ | refine blk_alloc ?_ _)); refine blk_put (cs := #[.int .i64 a0_0, .slice none 0 0]) ?_ 1 _ rfl; (with_reducible repeat (first | refine blk_drewN ?_ _ | refine blk_drew ?_ | refine blk_alloc ?_ _)); refine blk_put (cs := #[.int .i64 0, .slice none 0 0]) ?_ 0 _ rfl; (with_reducible repeat (first | refine blk_drewN ?_ _ | refine blk_drew ?_ | refine blk_alloc ?_ _)); exact K3.out) Tryd.underlying38 rfl (by kernel_rfl)) rfl ?_
    exact ⟨_, by first | rfl | (simp [errW_none, errW_some] <;> rfl) | (simp [*, errW_none, errW_some] <;> rfl), by (with_reducible repeat (first | apply Kd.S_alloc | apply Kd.S_drewN | apply Kd.S_drew)); exact Kd.S_mono (Kd.S_far (p := ⟨g3, 1, none⟩) (Kd.S_far (p := ⟨g3, 0, none⟩) (Kd.S_types HO_104001.out K3.out (by decide)) (fun _ hk => hk.2) (.int .i64 a0_0)) (fun _ hk => hk.2) (.slice Ao41 x104001_1.length co41)) (fun _ hk => trivial), by repeat (first | (with_reducible first | exact HB.out | apply below_alloc | apply pw_below_drewN | apply below_drew1 | refine below_set ?_ E0.out | refine below_set ?_ E1.out | refine below_set ?_ E2.out) | exact HB.out)⟩

end Go.Proofs.YtnojgkiaolmoeaaDoor.PSc
end
section
/- Contracts: what calls of these functions of the program do, each as a plain function; written by a program of this session. -/
namespace Go.Proofs.YtnojgkiaolmoeaaDoor.PSc
open Go.RowKit Go.Proofs.YtnojgkiaolmoeaaDoorW.PrintWords Go.Proofs.YtnojgkiaolmoeaaDoorW.PrintLast Go.Proofs.YtnojgkiaolmoeaaDoorW.PrintMore
attribute [local go_sem] max2_int min2_int max_two min_two max_three min_three max_four min_four   -- for this text's walks alone
set_option linter.unusedVariables false
set_option linter.unusedSimpArgs false

/-! ### wharfagelaw0_CopyActs: function 7 -/
def wharfagelaw0_CopyActs.l0 : Nat → List (S40) → List (S40) → Int → Option ((List (S40)))
 | 0, _, _, _ => none
 | k + 1, x0, x3, x4 => if x4 < (x0.length : Int) then (if 0 ≤ x4 then ((wharfagelaw0_CopyConfig.f k ((rd_T40 x0 x4).f8.f0) ((rd_T40 x0 x4).f8.f1)).bind fun bt117 => (if x3.length < 1353245080339 then (wharfagelaw0_CopyActs.l0 k x0 (x3 ++ [(⟨(rd_T40 x0 x4).f0, (rd_T40 x0 x4).f1, (rd_T40 x0 x4).f2, (rd_T40 x0 x4).f3, (rd_T40 x0 x4).f4, (rd_T40 x0 x4).f5, (rd_T40 x0 x4).f6, (rd_T40 x0 x4).f7, (⟨bt117.1, bt117.2⟩ : S38)⟩ : S40)]) (wrap64 (x4 + 1))) else (none))) else (none)) else (some x3)
def wharfagelaw0_CopyActs.f (k : Nat) (l0 : List (S40)) : Option ((List (S40))) := wharfagelaw0_CopyActs.l0 k l0 ([] : List (S40)) 0
theorem wharfagelaw0_CopyActs.mono_l : ∀ k, (∀ y0 y1 y2, LeO (wharfagelaw0_CopyActs.l0 k y0 y1 y2) (wharfagelaw0_CopyActs.l0 (k + 1) y0 y1 y2))
 | 0 => fun _ _ _ r h => by simp [wharfagelaw0_CopyActs.l0] at h
 | k + 1 => by
  have ih0 := wharfagelaw0_CopyActs.mono_l k
  ·intro y0 y1 y2
   unfold wharfagelaw0_CopyActs.l0
   repeat' first
   | (with_reducible exact ih0 _ _ _)
   | (with_reducible exact wharfagelaw0_CopyConfig.mono _ _ _)
   | (with_reducible exact LeO.refl _)
   | (with_reducible exact LeO.none _)
   | (with_reducible refine LeO.ite ?_ ?_)
   | (with_reducible refine LeO.bind ?_ (fun _ => ?_))
   | exact ih0 _ _ _
   | exact wharfagelaw0_CopyConfig.mono _ _ _
   | exact LeO.none _
   | refine LeO.ite ?_ ?_
   | refine LeO.bind ?_ (fun _ => ?_)
theorem wharfagelaw0_CopyActs.mono : ∀ a0 k, LeO (wharfagelaw0_CopyActs.f k a0) (wharfagelaw0_CopyActs.f (k + 1) a0) := by
 intro a0 k
 have ih0 := wharfagelaw0_CopyActs.mono_l k
 unfold wharfagelaw0_CopyActs.f
 repeat' first
   | (with_reducible exact ih0 _ _ _)
   | (with_reducible exact wharfagelaw0_CopyConfig.mono _ _ _)
   | (with_reducible exact LeO.refl _)
   | (with_reducible exact LeO.none _)
   | (with_reducible refine LeO.ite ?_ ?_)
   | (with_reducible refine LeO.bind ?_ (fun _ => ?_))
   | exact ih0 _ _ _
   | exact wharfagelaw0_CopyConfig.mono _ _ _
   | exact LeO.none _
   | refine LeO.ite ?_ ?_
   | refine LeO.bind ?_ (fun _ => ?_)
set_option maxHeartbeats 8000000 in
set_option maxRecDepth 100000 in
theorem wharfagelaw0_CopyActs.calls (k : Nat) (A0 : Option Addr) (c0 : Nat) (l0 : List (S40)) (r : List (S40)) (w : World) (hr0 : Kd.C k40 w A0 l0.length l0) (hc0 : l0.length ≤ c0) (h : wharfagelaw0_CopyActs.f k l0 = some r) :
  Calls Tryd.prog 7 #[.slice A0 l0.length c0] w fun e w' => ∃ v0_ : Value, e = .returned (v0_) ∧ Kd.R k40 40 w' w.heap.size (fun _ => True) v0_ r ∧ Below w.heap.size w w' := by
 have hu40 := Tryd.underlying40
 have hu38 := Tryd.underlying38
 have HR0 := Aside0.mk hr0
 have HC0 := Aside0.mk hc0
 clear hr0 hc0
 have HB := Aside0.mk (Below.refl w.heap.size w)
 have H : (wharfagelaw0_CopyActs.l0 k l0 ([] : List (S40)) 0) = some r := h
 clear h
 have H' := Aside0.mk H
 clear H
 go_enter Tryd.func7, Tryd.ntmps7
 go_wp2
 go_loopg [3, 4] k (fun kq v3 v4 w' => ∃ (x3_1 : List (S40)) (x4_1 : Int), v4 = .int .i64 x4_1 ∧ Aside0 (wharfagelaw0_CopyActs.l0 kq l0 x3_1 x4_1 = some r) ∧ Aside0 (kq ≤ k) ∧ Aside0 (Kd.R k40 40 w' w.heap.size (fun _ => True) v3 x3_1) ∧ Aside0 (Below w.heap.size w w'))
 case atStart => exact ⟨(([] : List (S40))), (0), (by first | rfl | (simp; done) | (simp [*]; done)), H', ⟨Nat.le_refl _⟩, ⟨by first | exact Kd.R_nil _ _ _ _ _ | exact Kd.N_nil _ _ _ _ _ | exact Kd.V_nil _ _ _ _ _ | exact Kd.Q_nil _ _ _ _ _ | exact Kd.S_nil _ _ _ _ _⟩, ⟨by repeat (first | (with_reducible first | exact HB.out | apply below_alloc | apply pw_below_drewN | apply below_drew1) | exact HB.out)⟩⟩
 case round =>
  clear H'
  obtain ⟨x3_1, x4_1, rfl, HA, HK1, HO_3, HB⟩ := hrel
  cases gk with
  | zero => exact absurd HA.out (by simp [wharfagelaw0_CopyActs.l0])
  | succ k1 =>
   have H := HA.out
   clear HA
   simp only [wharfagelaw0_CopyActs.l0] at H
   by_cases c2 : x4_1 < (l0.length : Int)
   ·rw [if_pos c2] at H
    have c2b0 : decide (x4_1 < (l0.length : Int)) = true := decide_eq_true c2
    clear c2
    by_cases c3 : 0 ≤ x4_1
    ·rw [if_pos c3] at H
     have c3b0 : decide (0 ≤ x4_1) = true := decide_eq_true c3
     clear c3
     replace H := Option.bind_eq_some_iff.mp H
     obtain ⟨⟨t117, t118⟩, A40, H⟩ := H
     replace H : (if x3_1.length < 1353245080339 then (wharfagelaw0_CopyActs.l0 k1 l0 (x3_1 ++ [(⟨(rd_T40 l0 x4_1).f0, (rd_T40 l0 x4_1).f1, (rd_T40 l0 x4_1).f2, (rd_T40 l0 x4_1).f3, (rd_T40 l0 x4_1).f4, (rd_T40 l0 x4_1).f5, (rd_T40 l0 x4_1).f6, (rd_T40 l0 x4_1).f7, (⟨t117, t118⟩ : S38)⟩ : S40)]) (wrap64 (x4_1 + 1))) else (none)) = some r := H
     have A4 := Aside0.mk A40
     clear A40
     by_cases c5 : x3_1.length < 1353245080339
     ·rw [if_pos c5] at H
      have LMc5 := Aside0.mk c5
      clear c5
      obtain ⟨y121, hy121⟩ : ∃ y_ : List (S40), y_ = (x3_1 ++ [(⟨(rd_T40 l0 x4_1).f0, (rd_T40 l0 x4_1).f1, (rd_T40 l0 x4_1).f2, (rd_T40 l0 x4_1).f3, (rd_T40 l0 x4_1).f4, (rd_T40 l0 x4_1).f5, (rd_T40 l0 x4_1).f6, (rd_T40 l0 x4_1).f7, (⟨t117, t118⟩ : S38)⟩ : S40)]) := ⟨_, rfl⟩
      replace H : (wharfagelaw0_CopyActs.l0 k1 l0 y121 (wrap64 (x4_1 + 1))) = some r := by first | (rw [hy121]; with_reducible exact H) | (have H2_ := (Option.bind_some _ _).symm.trans H; rw [hy121]; with_reducible exact H2_) | (have H2_ := (Option.bind_some _ _).symm.trans H; with_reducible exact H2_) | with_reducible exact H | (rw [hy121]; exact H) | exact H
      have Ny121 := Aside0.mk hy121
      clear hy121
      have H' := Aside0.mk H
      clear H
      have p115 : 0 ≤ (x4_1 : Int) := of_decide_eq_true (by first | (with_reducible assumption) | assumption)
      have q115 : x4_1 < (l0.length : Int) := of_decide_eq_true (by first | (with_reducible assumption) | assumption)
      obtain ⟨ad115, A115_9, c115_9, e115, hx115_0, hx115_1, hx115_2, hx115_3, hx115_4, hx115_5, hx115_6, hx115_7, hx115_8, hx115_9, hl115_9, hi115_9⟩ := at_T40 HR0.out x4_1 p115 q115
      cases e115
      replace hx115_0 := (HB.out.cell (World.block_lt_of_cell? w _ hx115_0)).trans hx115_0
      replace hx115_1 := (HB.out.cell (World.block_lt_of_cell? w _ hx115_1)).trans hx115_1
      replace hx115_2 := (HB.out.cell (World.block_lt_of_cell? w _ hx115_2)).trans hx115_2
      replace hx115_3 := (HB.out.cell (World.block_lt_of_cell? w _ hx115_3)).trans hx115_3
      replace hx115_4 := (HB.out.cell (World.block_lt_of_cell? w _ hx115_4)).trans hx115_4
      replace hx115_5 := (HB.out.cell (World.block_lt_of_cell? w _ hx115_5)).trans hx115_5
      replace hx115_6 := (HB.out.cell (World.block_lt_of_cell? w _ hx115_6)).trans hx115_6
      replace hx115_7 := (HB.out.cell (World.block_lt_of_cell? w _ hx115_7)).trans hx115_7
      replace hx115_8 := (HB.out.cell (World.block_lt_of_cell? w _ hx115_8)).trans hx115_8
      replace hx115_9 := (HB.out.cell (World.block_lt_of_cell? w _ hx115_9)).trans hx115_9
      have HR115_9 := Aside0.mk hi115_9
      have HC115_9 := Aside0.mk hl115_9
      clear hi115_9 hl115_9
      replace p115 := eq_true p115
      replace q115 := eq_true q115
      go_wp2_with (first | ((with_reducible refine gate_dst (N := 5) rfl ?_); refine box_event ?hg (N := 5) ?hd (cs := #[.int .i64 0, .int .i64 0, .int .i64 0, .int .i64 0, .int .i64 0, .int .i64 0, .bool false, .string (⟨#[]⟩ : ByteArray), .int .i64 0, .slice none 0 0]) (t := 40) ?hr ?_; (case hd => rfl); (case hg => rfl); (case hr => first | (go_simp; done) | (go_simp; rfl)); intro g0 hg w6 hbox hb; have n0_ := Aside0.mk (Kd.R_below (Kd.R_elderB (by (with_reducible repeat (first | apply Kd.R_alloc | apply Kd.R_drewN | apply Kd.R_drew)); exact HO_3.out) g0 (Nat.le_of_eq hg.symm)) hb); have n1_ := Aside0.mk (below_step (by repeat (first | (with_reducible first | exact HB.out | apply below_alloc | apply pw_below_drewN | apply below_drew1) | exact HB.out)) hb); have n2_ := Aside0.mk (hbox); have n3_ := Aside0.mk ((by rw [hg]; exact (below_size (by repeat (first | (with_reducible first | exact HB.out | apply below_alloc | apply pw_below_drewN | apply below_drew1) | exact HB.out))) : w.heap.size ≤ g0)); have n4_ := Aside0.mk ((by rw [hg]; exact (below_size (by repeat (first | (with_reducible first | exact HB.out | apply below_alloc | apply pw_below_drewN | apply below_drew1) | exact HB.out))) : w.heap.size ≤ g0)); clear HO_3; clear HB; have HO_3 := n0_; have HB := n1_; have K0 := n2_; have G0 := n3_; have E0 := n4_; clear n0_ n1_ n2_ n3_ n4_; clear hb hbox hg; have hcz7_0 : w6.cell? ⟨g0, 0, none⟩ = some (.int .i64 0) := (blk_cell K0.out 0).trans rfl; have hcz7_1 : w6.cell? ⟨g0, 1, none⟩ = some (.int .i64 0) := (blk_cell K0.out 1).trans rfl; have hcz7_2 : w6.cell? ⟨g0, 2, none⟩ = some (.int .i64 0) := (blk_cell K0.out 2).trans rfl; have hcz7_3 : w6.cell? ⟨g0, 3, none⟩ = some (.int .i64 0) := (blk_cell K0.out 3).trans rfl; have hcz7_4 : w6.cell? ⟨g0, 4, none⟩ = some (.int .i64 0) := (blk_cell K0.out 4).trans rfl; have hcz7_5 : w6.cell? ⟨g0, 5, none⟩ = some (.int .i64 0) := (blk_cell K0.out 5).trans rfl; have hcz7_6 : w6.cell? ⟨g0, 6, none⟩ = some (.bool false) := (blk_cell K0.out 6).trans rfl; have hcz7_7 : w6.cell? ⟨g0, 7, none⟩ = some (.string (⟨#[]⟩ : ByteArray)) := (blk_cell K0.out 7).trans rfl; have hcz7_8 : w6.cell? ⟨g0, 8, none⟩ = some (.int .i64 0) := (blk_cell K0.out 8).trans rfl; have hcz7_9 : w6.cell? ⟨g0, 9, none⟩ = some (.slice none 0 0) := (blk_cell K0.out 9).trans rfl; have hfz7_0 := blk_frozen K0.out 0; have hfz7_1 := blk_frozen K0.out 1; have hfz7_2 := blk_frozen K0.out 2; have hfz7_3 := blk_frozen K0.out 3; have hfz7_4 := blk_frozen K0.out 4; have hfz7_5 := blk_frozen K0.out 5; have hfz7_6 := blk_frozen K0.out 6; have hfz7_7 := blk_frozen K0.out 7; have hfz7_8 := blk_frozen K0.out 8; have hfz7_9 := blk_frozen K0.out 9) | ((with_reducible refine gate_callee (f := 19) rfl ?_); refine goesL_ (some 18) rfl rfl Tryd.func19 (by kernel_rfl) rfl #[.agg #[.int .i64 ((rd_T40 l0 x4_1).f8.f0), .slice A115_9 ((rd_T40 l0 x4_1).f8.f1).length c115_9]] rfl (by (try simp only [List.map_toArray, List.map_cons, List.map_nil]); first | done | rfl | (simp only [List.length_drop, List.length_take]; rfl)) ?_; (with_reducible refine (wharfagelaw0_CopyConfig.calls k1 ((rd_T40 l0 x4_1).f8.f0) _ _ ((rd_T40 l0 x4_1).f8.f1) t117 t118 _ ?side1 ?side2 A4.out).mono ?_); (case side1 => exact Kd.C_below HR115_9.out (by repeat (first | (with_reducible first | exact HB.out | apply below_alloc | apply pw_below_drewN | apply below_drew1 | refine below_set ?_ E0.out) | exact HB.out))); (case side2 => exact HC115_9.out); rintro e w8 ⟨v119, rfl, ho0, hb⟩; refine ⟨_, rfl, ?_⟩; have n0_ := Aside0.mk (Kd.R_elder' (by (with_reducible repeat (first | apply Kd.R_alloc | apply Kd.R_drewN | apply Kd.R_drew)); exact (Kd.R_mono (Kd.R_far (p := ⟨g0, 9, none⟩) (Kd.R_far (p := ⟨g0, 8, none⟩) (Kd.R_far (p := ⟨g0, 7, none⟩) (Kd.R_far (p := ⟨g0, 6, none⟩) (Kd.R_far (p := ⟨g0, 5, none⟩) (Kd.R_far (p := ⟨g0, 4, none⟩) (Kd.R_far (p := ⟨g0, 3, none⟩) (Kd.R_far (p := ⟨g0, 2, none⟩) (Kd.R_far (p := ⟨g0, 1, none⟩) (Kd.R_far (p := ⟨g0, 0, none⟩) (Kd.R_mono HO_3.out (fun k_ hk => (⟨hk, hk.2⟩ : _ ∧ k_ ≠ g0))) (fun _ hk => hk.2) (.int .i64 ((rd_T40 l0 x4_1).f0))) (fun _ hk => hk.2) (.int .i64 ((rd_T40 l0 x4_1).f1))) (fun _ hk => hk.2) (.int .i64 ((rd_T40 l0 x4_1).f2))) (fun _ hk => hk.2) (.int .i64 ((rd_T40 l0 x4_1).f3))) (fun _ hk => hk.2) (.int .i64 ((rd_T40 l0 x4_1).f4))) (fun _ hk => hk.2) (.int .i64 ((rd_T40 l0 x4_1).f5))) (fun _ hk => hk.2) (.bool ((rd_T40 l0 x4_1).f6))) (fun _ hk => hk.2) (.string ((rd_T40 l0 x4_1).f7))) (fun _ hk => hk.2) (.int .i64 ((rd_T40 l0 x4_1).f8.f0))) (fun _ hk => hk.2) (.slice A115_9 ((rd_T40 l0 x4_1).f8.f1).length c115_9)) (fun _ h_ => h_.1))) (Kd.S_base ho0) hb); have n1_ := Aside0.mk (Kd.S_lower ho0 (below_size (by repeat (first | (with_reducible first | exact HB.out | apply below_alloc | apply pw_below_drewN | apply below_drew1 | refine below_set ?_ E0.out) | exact HB.out)))); have n2_ := Aside0.mk (blk_below (g := g0) (o := .cells #[.int .i64 ((rd_T40 l0 x4_1).f0), .int .i64 ((rd_T40 l0 x4_1).f1), .int .i64 ((rd_T40 l0 x4_1).f2), .int .i64 ((rd_T40 l0 x4_1).f3), .int .i64 ((rd_T40 l0 x4_1).f4), .int .i64 ((rd_T40 l0 x4_1).f5), .bool ((rd_T40 l0 x4_1).f6), .string ((rd_T40 l0 x4_1).f7), .int .i64 ((rd_T40 l0 x4_1).f8.f0), .slice A115_9 ((rd_T40 l0 x4_1).f8.f1).length c115_9] 40 (0, 0)) (by (with_reducible repeat (first | refine blk_drewN ?_ _ | refine blk_drew ?_ | refine blk_alloc ?_ _)); refine blk_put (cs := #[.int .i64 ((rd_T40 l0 x4_1).f0), .int .i64 ((rd_T40 l0 x4_1).f1), .int .i64 ((rd_T40 l0 x4_1).f2), .int .i64 ((rd_T40 l0 x4_1).f3), .int .i64 ((rd_T40 l0 x4_1).f4), .int .i64 ((rd_T40 l0 x4_1).f5), .bool ((rd_T40 l0 x4_1).f6), .string ((rd_T40 l0 x4_1).f7), .int .i64 ((rd_T40 l0 x4_1).f8.f0), .slice none 0 0]) ?_ 9 _ rfl; (with_reducible repeat (first | refine blk_drewN ?_ _ | refine blk_drew ?_ | refine blk_alloc ?_ _)); refine blk_put (cs := #[.int .i64 ((rd_T40 l0 x4_1).f0), .int .i64 ((rd_T40 l0 x4_1).f1), .int .i64 ((rd_T40 l0 x4_1).f2), .int .i64 ((rd_T40 l0 x4_1).f3), .int .i64 ((rd_T40 l0 x4_1).f4), .int .i64 ((rd_T40 l0 x4_1).f5), .bool ((rd_T40 l0 x4_1).f6), .string ((rd_T40 l0 x4_1).f7), .int .i64 0, .slice none 0 0]) ?_ 8 _ rfl; (with_reducible repeat (first | refine blk_drewN ?_ _ | refine blk_drew ?_ | refine blk_alloc ?_ _)); refine blk_put (cs := #[.int .i64 ((rd_T40 l0 x4_1).f0), .int .i64 ((rd_T40 l0 x4_1).f1), .int .i64 ((rd_T40 l0 x4_1).f2), .int .i64 ((rd_T40 l0 x4_1).f3), .int .i64 ((rd_T40 l0 x4_1).f4), .int .i64 ((rd_T40 l0 x4_1).f5), .bool ((rd_T40 l0 x4_1).f6), .string (⟨#[]⟩ : ByteArray), .int .i64 0, .slice none 0 0]) ?_ 7 _ rfl; (with_reducible repeat (first | refine blk_drewN ?_ _ | refine blk_drew ?_ | refine blk_alloc ?_ _)); refine blk_put (cs := #[.int .i64 ((rd_T40 l0 x4_1).f0), .int .i64 ((rd_T40 l0 x4_1).f1), .int .i64 ((rd_T40 l0 x4_1).f2), .int .i64 ((rd_T40 l0 x4_1).f3), .int .i64 ((rd_T40 l0 x4_1).f4), .int .i64 ((rd_T40 l0 x4_1).f5), .bool false, .string (⟨#[]⟩ : ByteArray), .int .i64 0, .slice none 0 0]) ?_ 6 _ rfl; (with_reducible repeat (first | refine blk_drewN ?_ _ | refine blk_drew ?_ | refine blk_alloc ?_ _)); refine blk_put (cs := #[.int .i64 ((rd_T40 l0 x4_1).f0), .int .i64 ((rd_T40 l0 x4_1).f1), .int .i64 ((rd_T40 l0 x4_1).f2), .int .i64 ((rd_T40 l0 x4_1).f3), .int .i64 ((rd_T40 l0 x4_1).f4), .int .i64 0, .bool false, .string (⟨#[]⟩ : ByteArray), .int .i64 0, .slice none 0 0]) ?_ 5 _ rfl; (with_reducible repeat (first | refine blk_drewN ?_ _ | refine blk_drew ?_ | refine blk_alloc ?_ _)); refine blk_put (cs := #[.int .i64 ((rd_T40 l0 x4_1).f0), .int .i64 ((rd_T40 l0 x4_1).f1), .int .i64 ((rd_T40 l0 x4_1).f2), .int .i64 ((rd_T40 l0 x4_1).f3), .int .i64 0, .int .i64 0, .bool false, .string (⟨#[]⟩ : ByteArray), .int .i64 0, .slice none 0 0]) ?_ 4 _ rfl; (with_reducible repeat (first | refine blk_drewN ?_ _ | refine blk_drew ?_ | refine blk_alloc ?_ _)); refine blk_put (cs := #[.int .i64 ((rd_T40 l0 x4_1).f0), .int .i64 ((rd_T40 l0 x4_1).f1), .int .i64 ((rd_T40 l0 x4_1).f2), .int .i64 0, .int .i64 0, .int .i64 0, .bool false, .string (⟨#[]⟩ : ByteArray), .int .i64 0, .slice none 0 0]) ?_ 3 _ rfl; (with_reducible repeat (first | refine blk_drewN ?_ _ | refine blk_drew ?_ | refine blk_alloc ?_ _)); refine blk_put (cs := #[.int .i64 ((rd_T40 l0 x4_1).f0), .int .i64 ((rd_T40 l0 x4_1).f1), .int .i64 0, .int .i64 0, .int .i64 0, .int .i64 0, .bool false, .string (⟨#[]⟩ : ByteArray), .int .i64 0, .slice none 0 0]) ?_ 2 _ rfl; (with_reducible repeat (first | refine blk_drewN ?_ _ | refine blk_drew ?_ | refine blk_alloc ?_ _)); refine blk_put (cs := #[.int .i64 ((rd_T40 l0 x4_1).f0), .int .i64 0, .int .i64 0, .int .i64 0, .int .i64 0, .int .i64 0, .bool false, .string (⟨#[]⟩ : ByteArray), .int .i64 0, .slice none 0 0]) ?_ 1 _ rfl; (with_reducible repeat (first | refine blk_drewN ?_ _ | refine blk_drew ?_ | refine blk_alloc ?_ _)); refine blk_put (cs := #[.int .i64 0, .int .i64 0, .int .i64 0, .int .i64 0, .int .i64 0, .int .i64 0, .bool false, .string (⟨#[]⟩ : ByteArray), .int .i64 0, .slice none 0 0]) ?_ 0 _ rfl; (with_reducible repeat (first | refine blk_drewN ?_ _ | refine blk_drew ?_ | refine blk_alloc ?_ _)); exact K0.out) hb); have n3_ := Aside0.mk (below_step (by repeat (first | (with_reducible first | exact HB.out | apply below_alloc | apply pw_below_drewN | apply below_drew1 | refine below_set ?_ E0.out) | exact HB.out)) hb); clear HO_3; clear K0; clear HB; have HO_3 := n0_; have O0 := n1_; have K0 := n2_; have HB := n3_; clear n0_ n1_ n2_ n3_; (try clear hb); (try clear hb2); (try clear hk); (try clear hi); (try clear ho0); have hcz9_0 : w8.cell? ⟨g0, 0, none⟩ = some (.int .i64 ((rd_T40 l0 x4_1).f0)) := (blk_cell K0.out 0).trans rfl; have hcz9_1 : w8.cell? ⟨g0, 1, none⟩ = some (.int .i64 ((rd_T40 l0 x4_1).f1)) := (blk_cell K0.out 1).trans rfl; have hcz9_2 : w8.cell? ⟨g0, 2, none⟩ = some (.int .i64 ((rd_T40 l0 x4_1).f2)) := (blk_cell K0.out 2).trans rfl; have hcz9_3 : w8.cell? ⟨g0, 3, none⟩ = some (.int .i64 ((rd_T40 l0 x4_1).f3)) := (blk_cell K0.out 3).trans rfl; have hcz9_4 : w8.cell? ⟨g0, 4, none⟩ = some (.int .i64 ((rd_T40 l0 x4_1).f4)) := (blk_cell K0.out 4).trans rfl; have hcz9_5 : w8.cell? ⟨g0, 5, none⟩ = some (.int .i64 ((rd_T40 l0 x4_1).f5)) := (blk_cell K0.out 5).trans rfl; have hcz9_6 : w8.cell? ⟨g0, 6, none⟩ = some (.bool ((rd_T40 l0 x4_1).f6)) := (blk_cell K0.out 6).trans rfl; have hcz9_7 : w8.cell? ⟨g0, 7, none⟩ = some (.string ((rd_T40 l0 x4_1).f7)) := (blk_cell K0.out 7).trans rfl; have hcz9_8 : w8.cell? ⟨g0, 8, none⟩ = some (.int .i64 ((rd_T40 l0 x4_1).f8.f0)) := (blk_cell K0.out 8).trans rfl; have hcz9_9 : w8.cell? ⟨g0, 9, none⟩ = some (.slice A115_9 ((rd_T40 l0 x4_1).f8.f1).length c115_9) := (blk_cell K0.out 9).trans rfl; have hfz9_0 := blk_frozen K0.out 0; have hfz9_1 := blk_frozen K0.out 1; have hfz9_2 := blk_frozen K0.out 2; have hfz9_3 := blk_frozen K0.out 3; have hfz9_4 := blk_frozen K0.out 4; have hfz9_5 := blk_frozen K0.out 5; have hfz9_6 := blk_frozen K0.out 6; have hfz9_7 := blk_frozen K0.out 7; have hfz9_8 := blk_frozen K0.out 8; have hfz9_9 := blk_frozen K0.out 9; obtain ⟨Ao10, co10, eo10⟩ := Kd.S_slice O0.out; subst eo10) | ((with_reducible refine gate_store (t := 38) (p := 19) rfl ?_); refine store_event (t := 38) (p := 19) (v := ?vo_w11) (w1 := ((w8.setCell ⟨g0, 8, none⟩ (.int .i64 t117)).setCell ⟨g0, 9, none⟩ (.slice Ao10 t118.length co10))) ?hg ?ho ?hn ?hr ?_; (case ho => rfl); (case hg => rfl); (case hn => rfl); (case hr => first | (go_simp; done) | (go_simp; rfl)); intro w11 hw; have n0_ : Aside0 (Kd.R k40 40 w11 w.heap.size (fun k_ => some k_ ≠ (.slice Ao10 t118.length co10 : Value).ownBlock ∧ k_ ≠ g0) u3 x3_1) := ⟨(by rw [hw]; exact (by (with_reducible repeat (first | apply Kd.R_alloc | apply Kd.R_drewN | apply Kd.R_drew)); exact Kd.R_mono (Kd.R_far (p := ⟨g0, 9, none⟩) (Kd.R_far (p := ⟨g0, 8, none⟩) (Kd.R_mono HO_3.out (fun k_ hk => (⟨hk, hk.1.2⟩ : _ ∧ k_ ≠ g0))) (fun _ hk => hk.2) (.int .i64 t117)) (fun _ hk => hk.2) (.slice Ao10 t118.length co10)) (fun _ hk => ⟨hk.1.2, hk.1.1.2⟩)))⟩; have n1_ : Aside0 (Kd.S k63 63 w11 w.heap.size (fun _ => True) (.slice Ao10 t118.length co10) t118) := ⟨(by rw [hw]; exact (by (with_reducible repeat (first | apply Kd.S_alloc | apply Kd.S_drewN | apply Kd.S_drew)); exact Kd.S_mono (Kd.S_far (p := ⟨g0, 9, none⟩) (Kd.S_far (p := ⟨g0, 8, none⟩) (Kd.S_types O0.out K0.out (by decide)) (fun _ hk => hk.2) (.int .i64 t117)) (fun _ hk => hk.2) (.slice Ao10 t118.length co10)) (fun _ hk => trivial)))⟩; have n2_ : Aside0 (w11.heap[g0]? = some (.cells #[.int .i64 ((rd_T40 l0 x4_1).f0), .int .i64 ((rd_T40 l0 x4_1).f1), .int .i64 ((rd_T40 l0 x4_1).f2), .int .i64 ((rd_T40 l0 x4_1).f3), .int .i64 ((rd_T40 l0 x4_1).f4), .int .i64 ((rd_T40 l0 x4_1).f5), .bool ((rd_T40 l0 x4_1).f6), .string ((rd_T40 l0 x4_1).f7), .int .i64 t117, .slice Ao10 t118.length co10] 40 (0, 0))) := ⟨(by rw [hw]; exact (by (with_reducible repeat (first | refine blk_drewN ?_ _ | refine blk_drew ?_ | refine blk_alloc ?_ _)); refine blk_put (cs := #[.int .i64 ((rd_T40 l0 x4_1).f0), .int .i64 ((rd_T40 l0 x4_1).f1), .int .i64 ((rd_T40 l0 x4_1).f2), .int .i64 ((rd_T40 l0 x4_1).f3), .int .i64 ((rd_T40 l0 x4_1).f4), .int .i64 ((rd_T40 l0 x4_1).f5), .bool ((rd_T40 l0 x4_1).f6), .string ((rd_T40 l0 x4_1).f7), .int .i64 t117, .slice A115_9 ((rd_T40 l0 x4_1).f8.f1).length c115_9]) ?_ 9 _ rfl; (with_reducible repeat (first | refine blk_drewN ?_ _ | refine blk_drew ?_ | refine blk_alloc ?_ _)); refine blk_put (cs := #[.int .i64 ((rd_T40 l0 x4_1).f0), .int .i64 ((rd_T40 l0 x4_1).f1), .int .i64 ((rd_T40 l0 x4_1).f2), .int .i64 ((rd_T40 l0 x4_1).f3), .int .i64 ((rd_T40 l0 x4_1).f4), .int .i64 ((rd_T40 l0 x4_1).f5), .bool ((rd_T40 l0 x4_1).f6), .string ((rd_T40 l0 x4_1).f7), .int .i64 ((rd_T40 l0 x4_1).f8.f0), .slice A115_9 ((rd_T40 l0 x4_1).f8.f1).length c115_9]) ?_ 8 _ rfl; (with_reducible repeat (first | refine blk_drewN ?_ _ | refine blk_drew ?_ | refine blk_alloc ?_ _)); exact K0.out))⟩; have n3_ : Aside0 (Below w.heap.size w w11) := ⟨(by rw [hw]; exact (by repeat (first | (with_reducible first | exact HB.out | apply below_alloc | apply pw_below_drewN | apply below_drew1 | refine below_set ?_ E0.out) | exact HB.out)))⟩; clear hw; clear HO_3; clear O0; clear K0; clear HB; have HO_3 := n0_; have O0 := n1_; have K0 := n2_; have HB := n3_; clear n0_ n1_ n2_ n3_; have hcz12_0 : w11.cell? ⟨g0, 0, none⟩ = some (.int .i64 ((rd_T40 l0 x4_1).f0)) := (blk_cell K0.out 0).trans rfl; have hcz12_1 : w11.cell? ⟨g0, 1, none⟩ = some (.int .i64 ((rd_T40 l0 x4_1).f1)) := (blk_cell K0.out 1).trans rfl; have hcz12_2 : w11.cell? ⟨g0, 2, none⟩ = some (.int .i64 ((rd_T40 l0 x4_1).f2)) := (blk_cell K0.out 2).trans rfl; have hcz12_3 : w11.cell? ⟨g0, 3, none⟩ = some (.int .i64 ((rd_T40 l0 x4_1).f3)) := (blk_cell K0.out 3).trans rfl; have hcz12_4 : w11.cell? ⟨g0, 4, none⟩ = some (.int .i64 ((rd_T40 l0 x4_1).f4)) := (blk_cell K0.out 4).trans rfl; have hcz12_5 : w11.cell? ⟨g0, 5, none⟩ = some (.int .i64 ((rd_T40 l0 x4_1).f5)) := (blk_cell K0.out 5).trans rfl; have hcz12_6 : w11.cell? ⟨g0, 6, none⟩ = some (.bool ((rd_T40 l0 x4_1).f6)) := (blk_cell K0.out 6).trans rfl; have hcz12_7 : w11.cell? ⟨g0, 7, none⟩ = some (.string ((rd_T40 l0 x4_1).f7)) := (blk_cell K0.out 7).trans rfl; have hcz12_8 : w11.cell? ⟨g0, 8, none⟩ = some (.int .i64 t117) := (blk_cell K0.out 8).trans rfl; have hcz12_9 : w11.cell? ⟨g0, 9, none⟩ = some (.slice Ao10 t118.length co10) := (blk_cell K0.out 9).trans rfl; have hfz12_0 := blk_frozen K0.out 0; have hfz12_1 := blk_frozen K0.out 1; have hfz12_2 := blk_frozen K0.out 2; have hfz12_3 := blk_frozen K0.out 3; have hfz12_4 := blk_frozen K0.out 4; have hfz12_5 := blk_frozen K0.out 5; have hfz12_6 := blk_frozen K0.out 6; have hfz12_7 := blk_frozen K0.out 7; have hfz12_8 := blk_frozen K0.out 8; have hfz12_9 := blk_frozen K0.out 9) | ((with_reducible refine gate_builtin (b := .append) (xs := #[.tmp 20, .tmp 22]) rfl ?_); at_builtin; refine Kd.R_append k40 (w0 := w) w.heap.size rfl (.tmp 20) (.tmp 22) 22 40 (.agg #[(.int .i64 0), (.int .i64 0), (.int .i64 0), (.int .i64 0), (.int .i64 0), (.int .i64 0), (.bool false), (.string ⟨#[]⟩), (.int .i64 0), (.slice none 0 0)]) 104 rfl Tryd.underlying22 info40 rfl (by decide) (by omega) u3 x3_1 (⟨(rd_T40 l0 x4_1).f0, (rd_T40 l0 x4_1).f1, (rd_T40 l0 x4_1).f2, (rd_T40 l0 x4_1).f3, (rd_T40 l0 x4_1).f4, (rd_T40 l0 x4_1).f5, (rd_T40 l0 x4_1).f6, (rd_T40 l0 x4_1).f7, (⟨t117, t118⟩ : S38)⟩ : S40) [.int .i64 ((rd_T40 l0 x4_1).f0), .int .i64 ((rd_T40 l0 x4_1).f1), .int .i64 ((rd_T40 l0 x4_1).f2), .int .i64 ((rd_T40 l0 x4_1).f3), .int .i64 ((rd_T40 l0 x4_1).f4), .int .i64 ((rd_T40 l0 x4_1).f5), .bool ((rd_T40 l0 x4_1).f6), .string ((rd_T40 l0 x4_1).f7), .int .i64 t117, .slice Ao10 t118.length co10] (fun k_ => k_ ≠ g0) (fun k_ => ((fun k_ => k_ ≠ g0)) k_ ∧ some k_ ≠ (u3 : Value).ownBlock) rfl rfl ?aP (fun _ hk => hk) ?aF ?aO ?aB ?aS ?aL ?_; (case aP => exact k40_mkM _ _ _ (⟨(rd_T40 l0 x4_1).f0, (rd_T40 l0 x4_1).f1, (rd_T40 l0 x4_1).f2, (rd_T40 l0 x4_1).f3, (rd_T40 l0 x4_1).f4, (rd_T40 l0 x4_1).f5, (rd_T40 l0 x4_1).f6, (rd_T40 l0 x4_1).f7, (⟨t117, t118⟩ : S38)⟩ : S40) (Kd.R_mono (Kd.R_types (Kd.R_apart' ((Kd.S_R O0.out)) (Kd.R_typed HO_3.out) (by decide)) K0.out (by decide)) (fun k_ hk => ⟨hk.2, hk.1.2⟩))); (case aB => exact (by repeat (first | (with_reducible first | exact HB.out | apply below_alloc | apply pw_below_drewN | apply below_drew1 | refine below_set ?_ E0.out) | exact HB.out))); (case aF => exact (fun k_ hk => Kd.freshB (g := g0) (o := .cells #[.int .i64 ((rd_T40 l0 x4_1).f0), .int .i64 ((rd_T40 l0 x4_1).f1), .int .i64 ((rd_T40 l0 x4_1).f2), .int .i64 ((rd_T40 l0 x4_1).f3), .int .i64 ((rd_T40 l0 x4_1).f4), .int .i64 ((rd_T40 l0 x4_1).f5), .bool ((rd_T40 l0 x4_1).f6), .string ((rd_T40 l0 x4_1).f7), .int .i64 t117, .slice Ao10 t118.length co10] 40 (0, 0)) (by (with_reducible repeat (first | refine blk_drewN ?_ _ | refine blk_drew ?_ | refine blk_alloc ?_ _)); exact K0.out) k_ hk)); (case aO => exact (by (with_reducible repeat (first | apply Kd.R_alloc | apply Kd.R_drewN | apply Kd.R_drew)); exact Kd.R_mono HO_3.out (fun _ hk => hk.2))); (case aS => exact (below_size (by repeat (first | (with_reducible first | exact HB.out | apply below_alloc | apply pw_below_drewN | apply below_drew1 | refine below_set ?_ E0.out) | exact HB.out)))); (case aL => have := LMc5.out; omega); intro v122 w13 ho hb hg hat; rw [← Ny121.out] at ho; have n0_ := Aside0.mk (blk_grown (g := g0) (o := .cells #[.int .i64 ((rd_T40 l0 x4_1).f0), .int .i64 ((rd_T40 l0 x4_1).f1), .int .i64 ((rd_T40 l0 x4_1).f2), .int .i64 ((rd_T40 l0 x4_1).f3), .int .i64 ((rd_T40 l0 x4_1).f4), .int .i64 ((rd_T40 l0 x4_1).f5), .bool ((rd_T40 l0 x4_1).f6), .string ((rd_T40 l0 x4_1).f7), .int .i64 t117, .slice Ao10 t118.length co10] 40 (0, 0)) (by (with_reducible repeat (first | refine blk_drewN ?_ _ | refine blk_drew ?_ | refine blk_alloc ?_ _)); exact K0.out) hg (Kd.R_away HO_3.out (fun _ hk => hk.2))); have n1_ := Aside0.mk (hb); have n2_ := Aside0.mk (ho); clear K0; clear HB; clear HO_3; clear O0; have K0 := n0_; have HB := n1_; have O1 := n2_; clear n0_ n1_ n2_; clear ho hb hg hat))
      go_roundg k1
      case measure => have := HK1.out; omega
      case rel => exact ⟨(y121), (wrap64 (x4_1 + 1)), (by first | rfl | (simp; done) | (simp [*]; done)), H', ⟨by have := HK1.out; omega⟩, ⟨by (with_reducible repeat (first | apply Kd.R_alloc | apply Kd.R_drewN | apply Kd.R_drew)); exact Kd.R_mono O1.out (fun _ hk => trivial)⟩, ⟨by repeat (first | (with_reducible first | exact HB.out | apply below_alloc | apply pw_below_drewN | apply below_drew1 | refine below_set ?_ E0.out) | exact HB.out)⟩⟩
     ·rw [if_neg c5] at H
      exact absurd H (by simp)
    ·rw [if_neg c3] at H
     exact absurd H (by simp)
   ·rw [if_neg c2] at H
    have c2b0 : decide (x4_1 < (l0.length : Int)) = false := decide_eq_false c2
    clear c2
    obtain rfl := Option.some.inj H
    go_wp2
    go_ret
    exact ⟨_, by first | rfl | (simp [errW_none, errW_some] <;> rfl) | (simp [*, errW_none, errW_some] <;> rfl), by (with_reducible repeat (first | apply Kd.R_alloc | apply Kd.R_drewN | apply Kd.R_drew)); exact HO_3.out, by repeat (first | (with_reducible first | exact HB.out | apply below_alloc | apply pw_below_drewN | apply below_drew1) | exact HB.out)⟩

end Go.Proofs.YtnojgkiaolmoeaaDoor.PSc
end
section
/- Contracts: what calls of these functions of the program do, each as a plain function; written by a program of this session. -/
namespace Go.Proofs.YtnojgkiaolmoeaaDoor.PSc
open Go.RowKit Go.Proofs.YtnojgkiaolmoeaaDoorW.PrintWords Go.Proofs.YtnojgkiaolmoeaaDoorW.PrintLast Go.Proofs.YtnojgkiaolmoeaaDoorW.PrintMore
attribute [local go_sem] max2_int min2_int max_two min_two max_three min_three max_four min_four   -- for this text's walks alone
set_option linter.unusedVariables false
set_option linter.unusedSimpArgs false

/-! ### script_named: function 30, by hand -/
theorem put10 {w : World} {p : Nat} {t : TypeId} {cs : Array Value} (h : w.heap[p]? = some (.cells cs t (0, 0))) (hn : cs.size = 10) (v0 v1 v2 v3 v4 v5 v6 v7 v8 v9 : Value) :
  ((((((((((w.setCell ⟨p, 0, none⟩ v0).setCell ⟨p, 1, none⟩ v1).setCell ⟨p, 2, none⟩ v2).setCell ⟨p, 3, none⟩ v3).setCell ⟨p, 4, none⟩ v4).setCell ⟨p, 5, none⟩ v5).setCell ⟨p, 6, none⟩ v6).setCell ⟨p, 7, none⟩ v7).setCell ⟨p, 8, none⟩ v8).setCell ⟨p, 9, none⟩ v9).heap[p]? = some (.cells #[v0, v1, v2, v3, v4, v5, v6, v7, v8, v9] t (0, 0)) := by
 obtain ⟨l⟩ := cs
 match l, hn with
 | [c0, c1, c2, c3, c4, c5, c6, c7, c8, c9], _ => exact (blk_put (cs' := #[v0, v1, v2, v3, v4, v5, v6, v7, v8, v9]) (blk_put (cs' := #[v0, v1, v2, v3, v4, v5, v6, v7, v8, c9]) (blk_put (cs' := #[v0, v1, v2, v3, v4, v5, v6, v7, c8, c9]) (blk_put (cs' := #[v0, v1, v2, v3, v4, v5, v6, c7, c8, c9]) (blk_put (cs' := #[v0, v1, v2, v3, v4, v5, c6, c7, c8, c9]) (blk_put (cs' := #[v0, v1, v2, v3, v4, c5, c6, c7, c8, c9]) (blk_put (cs' := #[v0, v1, v2, v3, c4, c5, c6, c7, c8, c9]) (blk_put (cs' := #[v0, v1, v2, c3, c4, c5, c6, c7, c8, c9]) (blk_put (cs' := #[v0, v1, c2, c3, c4, c5, c6, c7, c8, c9]) (blk_put (cs' := #[v0, c1, c2, c3, c4, c5, c6, c7, c8, c9]) h 0 v0 rfl) 1 v1 rfl) 2 v2 rfl) 3 v3 rfl) 4 v4 rfl) 5 v5 rfl) 6 v6 rfl) 7 v7 rfl) 8 v8 rfl) 9 v9 rfl)
theorem below10 {u w : World} {p : Nat} (h : Below u.heap.size u w) (hp : u.heap.size ≤ p) (v0 v1 v2 v3 v4 v5 v6 v7 v8 v9 : Value) :
  Below u.heap.size u ((((((((((w.setCell ⟨p, 0, none⟩ v0).setCell ⟨p, 1, none⟩ v1).setCell ⟨p, 2, none⟩ v2).setCell ⟨p, 3, none⟩ v3).setCell ⟨p, 4, none⟩ v4).setCell ⟨p, 5, none⟩ v5).setCell ⟨p, 6, none⟩ v6).setCell ⟨p, 7, none⟩ v7).setCell ⟨p, 8, none⟩ v8).setCell ⟨p, 9, none⟩ v9) := below_set (below_set (below_set (below_set (below_set (below_set (below_set (below_set (below_set (below_set h hp) hp) hp) hp) hp) hp) hp) hp) hp) hp
def script_named.r0 (a0 : Int) : Bool := a0 == 0 || a0 == 7 || a0 == 8 || a0 == 5
def script_named.nR (a0 x : Int) : Int := if script_named.r0 a0 = true then 0 else x
def script_named.nS (a0 x : Int) : Int := if (script_named.r0 a0 || a0 == 6) = true then 0 else x
def script_named.nT (a0 x : Int) : Int := if (a0 == 5) = true then 0 else x
def script_named.nA (a0 x : Int) : Int := if (a0 == 1 || a0 == 2 || a0 == 3) = true then 0 else x
def script_named.nG (a0 : Int) (x : Bool) : Bool := if (a0 == 5) = true then false else x
def script_named.nX (a0 : Int) (x : ByteArray) : ByteArray := if (a0 == 0) = true then ⟨#[]⟩ else x
def script_named.nC (a0 x : Int) : Int := if (a0 == 9) = true then 0 else x
def script_named.nD (a0 : Int) (x : Option Addr) : Option Addr := if (a0 == 9) = true then none else x
def script_named.nN (a0 : Int) (x : Nat) : Nat := if (a0 == 9) = true then 0 else x
def script_named.is (a0 : Int) : Bool := decide (0 ≤ a0 ∧ a0 ≤ 9)
theorem script_named.hide {P : Program} {c : Code} {Q : Exit → Act → World → Prop} {a : Act} {w : World} (R : World → Prop) (h : R w) (k : ∀ w', R w' → c.wp P Q a w') : c.wp P Q a w := k w h
theorem script_named.sz (w : World) (o : Obj) : (w.alloc o).heap.size = w.heap.size + 1 := by simp
set_option maxHeartbeats 8000000 in
set_option maxRecDepth 100000 in
theorem script_named.calls (a0 a1 a2 a3 a4 a5 : Int) (a6 : Bool) (a7 : ByteArray) (a8 : Int) (A : Option Addr) (n c : Nat) (w : World) :
  Calls Tryd.prog 30 #[.agg #[.int .i64 a0, .int .i64 a1, .int .i64 a2, .int .i64 a3, .int .i64 a4, .int .i64 a5, .bool a6, .string a7, .int .i64 a8, .slice A n c]] w fun e w' => e = .returned (.tuple #[.agg #[.int .i64 a0, .int .i64 (script_named.nR a0 a1), .int .i64 (script_named.nS a0 a2), .int .i64 (script_named.nR a0 a3), .int .i64 (script_named.nT a0 a4), .int .i64 (script_named.nA a0 a5), .bool (script_named.nG a0 a6), .string (script_named.nX a0 a7), .int .i64 (script_named.nC a0 a8), .slice (script_named.nD a0 A) (script_named.nN a0 n) (script_named.nN a0 c)], .bool (script_named.is a0)]) ∧ Below w.heap.size w w' := by
 have hu := Tryd.underlying40
 have hu2 := Tryd.underlying38
 go_enter Tryd.func30, Tryd.ntmps30
 go_upto_region 1 with fail
 refine script_named.hide (fun W => Below w.heap.size w W ∧ W.heap[w.heap.size]? = some (.cells #[.int .i64 a0, .int .i64 a1, .int .i64 a2, .int .i64 a3, .int .i64 a4, .int .i64 a5, .bool a6, .string a7, .int .i64 a8, .slice A n c] 40 (0, 0)) ∧ W.heap[w.heap.size + 1]? = some (.cells #[.int .i64 0, .int .i64 0, .int .i64 0, .int .i64 0, .int .i64 0, .int .i64 0, .bool false, .string ⟨#[]⟩, .int .i64 0, .slice none 0 0] 40 (0, 0))) ⟨below_alloc (below_alloc (Below.refl _ _) _) _, blk_alloc (blk_new w _) _, ?_⟩ ?_
 ·have h := blk_new (w.alloc (.cells #[.int .i64 a0, .int .i64 a1, .int .i64 a2, .int .i64 a3, .int .i64 a4, .int .i64 a5, .bool a6, .string a7, .int .i64 a8, .slice A n c] 40)) (.cells #[.int .i64 0, .int .i64 0, .int .i64 0, .int .i64 0, .int .i64 0, .int .i64 0, .bool false, .string ⟨#[]⟩, .int .i64 0, .slice none 0 0] 40)
  rwa [script_named.sz] at h
 intro w1 ⟨hb1, h0, h1⟩
 obtain ⟨p0, e0⟩ : ∃ p, p = w.heap.size := ⟨_, rfl⟩
 obtain ⟨p1, e1⟩ : ∃ p, p = w.heap.size + 1 := ⟨_, rfl⟩
 rw [← e1] at h1
 rw [← e0] at h0
 have HB := Aside0.mk hb1
 have H0 := Aside0.mk h0
 have H1 := Aside0.mk h1
 have HO := Aside0.mk (show w.heap.size ≤ p0 ∧ w.heap.size ≤ p1 ∧ p1 ≠ p0 by omega)
 rw [← e1, ← e0]
 have k0 : w1.cell? ⟨p0, 0, none⟩ = some (.int .i64 a0) := (blk_cell h0 0).trans rfl
 have f0 := blk_frozen h0 0
 have k1 : w1.cell? ⟨p0, 1, none⟩ = some (.int .i64 a1) := (blk_cell h0 1).trans rfl
 have f1 := blk_frozen h0 1
 have k2 : w1.cell? ⟨p0, 2, none⟩ = some (.int .i64 a2) := (blk_cell h0 2).trans rfl
 have f2 := blk_frozen h0 2
 have k3 : w1.cell? ⟨p0, 3, none⟩ = some (.int .i64 a3) := (blk_cell h0 3).trans rfl
 have f3 := blk_frozen h0 3
 have k4 : w1.cell? ⟨p0, 4, none⟩ = some (.int .i64 a4) := (blk_cell h0 4).trans rfl
 have f4 := blk_frozen h0 4
 have k5 : w1.cell? ⟨p0, 5, none⟩ = some (.int .i64 a5) := (blk_cell h0 5).trans rfl
 have f5 := blk_frozen h0 5
 have k6 : w1.cell? ⟨p0, 6, none⟩ = some (.bool a6) := (blk_cell h0 6).trans rfl
 have f6 := blk_frozen h0 6
 have k7 : w1.cell? ⟨p0, 7, none⟩ = some (.string a7) := (blk_cell h0 7).trans rfl
 have f7 := blk_frozen h0 7
 have k8 : w1.cell? ⟨p0, 8, none⟩ = some (.int .i64 a8) := (blk_cell h0 8).trans rfl
 have f8 := blk_frozen h0 8
 have k9 : w1.cell? ⟨p0, 9, none⟩ = some (.slice A n c) := (blk_cell h0 9).trans rfl
 have f9 := blk_frozen h0 9
 clear hb1 h0 h1 e0 e1
 by_cases c0 : a0 = 0
 ·subst c0
  go_upto_region 19 with fail
  refine script_named.hide (fun W => Below w.heap.size w W ∧ W.heap[p0]? = some (.cells #[.int .i64 0, .int .i64 0, .int .i64 0, .int .i64 0, .int .i64 a4, .int .i64 a5, .bool a6, .string ⟨#[]⟩, .int .i64 a8, .slice A n c] 40 (0, 0)) ∧ W.heap[p1]? = some (.cells #[.int .i64 0, .int .i64 0, .int .i64 0, .int .i64 0, .int .i64 0, .int .i64 0, .bool false, .string ⟨#[]⟩, .int .i64 0, .slice none 0 0] 40 (0, 0))) ⟨(below_set (below_set (below_set (below_set HB.out HO.out.1) HO.out.1) HO.out.1) HO.out.1), (blk_put (blk_put (blk_put (blk_put H0.out 7 (.string ⟨#[]⟩) rfl) 1 (.int .i64 0) rfl) 2 (.int .i64 0) rfl) 3 (.int .i64 0) rfl), (blk_far (blk_far (blk_far (blk_far H1.out HO.out.2.2 _) HO.out.2.2 _) HO.out.2.2 _) HO.out.2.2 _)⟩ ?_
  intro w2 ⟨hb, h0, h1⟩
  have HB2 := Aside0.mk hb
  have H2 := Aside0.mk h1
  have g0 : w2.cell? ⟨p0, 0, none⟩ = some (.int .i64 0) := (blk_cell h0 0).trans rfl
  have g1 : w2.cell? ⟨p0, 1, none⟩ = some (.int .i64 0) := (blk_cell h0 1).trans rfl
  have g2 : w2.cell? ⟨p0, 2, none⟩ = some (.int .i64 0) := (blk_cell h0 2).trans rfl
  have g3 : w2.cell? ⟨p0, 3, none⟩ = some (.int .i64 0) := (blk_cell h0 3).trans rfl
  have g4 : w2.cell? ⟨p0, 4, none⟩ = some (.int .i64 a4) := (blk_cell h0 4).trans rfl
  have g5 : w2.cell? ⟨p0, 5, none⟩ = some (.int .i64 a5) := (blk_cell h0 5).trans rfl
  have g6 : w2.cell? ⟨p0, 6, none⟩ = some (.bool a6) := (blk_cell h0 6).trans rfl
  have g7 : w2.cell? ⟨p0, 7, none⟩ = some (.string ⟨#[]⟩) := (blk_cell h0 7).trans rfl
  have g8 : w2.cell? ⟨p0, 8, none⟩ = some (.int .i64 a8) := (blk_cell h0 8).trans rfl
  have g9 : w2.cell? ⟨p0, 9, none⟩ = some (.slice A n c) := (blk_cell h0 9).trans rfl
  have z0 : w2.cell? ⟨p1, 0, none⟩ = some (.int .i64 0) := (blk_cell h1 0).trans rfl
  have y0 := blk_frozen h1 0
  have z1 : w2.cell? ⟨p1, 1, none⟩ = some (.int .i64 0) := (blk_cell h1 1).trans rfl
  have y1 := blk_frozen h1 1
  have z2 : w2.cell? ⟨p1, 2, none⟩ = some (.int .i64 0) := (blk_cell h1 2).trans rfl
  have y2 := blk_frozen h1 2
  have z3 : w2.cell? ⟨p1, 3, none⟩ = some (.int .i64 0) := (blk_cell h1 3).trans rfl
  have y3 := blk_frozen h1 3
  have z4 : w2.cell? ⟨p1, 4, none⟩ = some (.int .i64 0) := (blk_cell h1 4).trans rfl
  have y4 := blk_frozen h1 4
  have z5 : w2.cell? ⟨p1, 5, none⟩ = some (.int .i64 0) := (blk_cell h1 5).trans rfl
  have y5 := blk_frozen h1 5
  have z6 : w2.cell? ⟨p1, 6, none⟩ = some (.bool false) := (blk_cell h1 6).trans rfl
  have y6 := blk_frozen h1 6
  have z7 : w2.cell? ⟨p1, 7, none⟩ = some (.string ⟨#[]⟩) := (blk_cell h1 7).trans rfl
  have y7 := blk_frozen h1 7
  have z8 : w2.cell? ⟨p1, 8, none⟩ = some (.int .i64 0) := (blk_cell h1 8).trans rfl
  have y8 := blk_frozen h1 8
  have z9 : w2.cell? ⟨p1, 9, none⟩ = some (.slice none 0 0) := (blk_cell h1 9).trans rfl
  have y9 := blk_frozen h1 9
  clear hb h0 h1 k0 f0 k1 f1 k2 f2 k3 f3 k4 f4 k5 f5 k6 f6 k7 f7 k8 f8 k9 f9
  go_wp2_with fail
  refine bodyPost_ret (results_ct rfl _ _ p1 40 #[.int .i64 0, .int .i64 0, .int .i64 0, .int .i64 0, .int .i64 a4, .int .i64 a5, .bool a6, .string ⟨#[]⟩, .int .i64 a8, .slice A n c] (0, 0) _ rfl (put10 H2.out rfl _ _ _ _ _ _ _ _ _ _) Tryd.underlying40 rfl (by kernel_rfl)) rfl ?_
  exact ⟨by rfl, below10 HB2.out HO.out.2.1 _ _ _ _ _ _ _ _ _ _⟩
 have d0 : (a0 == 0) = false := beq_eq_false_iff_ne.2 c0
 by_cases c7 : a0 = 7
 ·subst c7
  go_upto_region 19 with fail
  refine script_named.hide (fun W => Below w.heap.size w W ∧ W.heap[p0]? = some (.cells #[.int .i64 7, .int .i64 0, .int .i64 0, .int .i64 0, .int .i64 a4, .int .i64 a5, .bool a6, .string a7, .int .i64 a8, .slice A n c] 40 (0, 0)) ∧ W.heap[p1]? = some (.cells #[.int .i64 0, .int .i64 0, .int .i64 0, .int .i64 0, .int .i64 0, .int .i64 0, .bool false, .string ⟨#[]⟩, .int .i64 0, .slice none 0 0] 40 (0, 0))) ⟨(below_set (below_set (below_set HB.out HO.out.1) HO.out.1) HO.out.1), (blk_put (blk_put (blk_put H0.out 1 (.int .i64 0) rfl) 2 (.int .i64 0) rfl) 3 (.int .i64 0) rfl), (blk_far (blk_far (blk_far H1.out HO.out.2.2 _) HO.out.2.2 _) HO.out.2.2 _)⟩ ?_
  intro w2 ⟨hb, h0, h1⟩
  have HB2 := Aside0.mk hb
  have H2 := Aside0.mk h1
  have g0 : w2.cell? ⟨p0, 0, none⟩ = some (.int .i64 7) := (blk_cell h0 0).trans rfl
  have g1 : w2.cell? ⟨p0, 1, none⟩ = some (.int .i64 0) := (blk_cell h0 1).trans rfl
  have g2 : w2.cell? ⟨p0, 2, none⟩ = some (.int .i64 0) := (blk_cell h0 2).trans rfl
  have g3 : w2.cell? ⟨p0, 3, none⟩ = some (.int .i64 0) := (blk_cell h0 3).trans rfl
  have g4 : w2.cell? ⟨p0, 4, none⟩ = some (.int .i64 a4) := (blk_cell h0 4).trans rfl
  have g5 : w2.cell? ⟨p0, 5, none⟩ = some (.int .i64 a5) := (blk_cell h0 5).trans rfl
  have g6 : w2.cell? ⟨p0, 6, none⟩ = some (.bool a6) := (blk_cell h0 6).trans rfl
  have g7 : w2.cell? ⟨p0, 7, none⟩ = some (.string a7) := (blk_cell h0 7).trans rfl
  have g8 : w2.cell? ⟨p0, 8, none⟩ = some (.int .i64 a8) := (blk_cell h0 8).trans rfl
  have g9 : w2.cell? ⟨p0, 9, none⟩ = some (.slice A n c) := (blk_cell h0 9).trans rfl
  have z0 : w2.cell? ⟨p1, 0, none⟩ = some (.int .i64 0) := (blk_cell h1 0).trans rfl
  have y0 := blk_frozen h1 0
  have z1 : w2.cell? ⟨p1, 1, none⟩ = some (.int .i64 0) := (blk_cell h1 1).trans rfl
  have y1 := blk_frozen h1 1
  have z2 : w2.cell? ⟨p1, 2, none⟩ = some (.int .i64 0) := (blk_cell h1 2).trans rfl
  have y2 := blk_frozen h1 2
  have z3 : w2.cell? ⟨p1, 3, none⟩ = some (.int .i64 0) := (blk_cell h1 3).trans rfl
  have y3 := blk_frozen h1 3
  have z4 : w2.cell? ⟨p1, 4, none⟩ = some (.int .i64 0) := (blk_cell h1 4).trans rfl
  have y4 := blk_frozen h1 4
  have z5 : w2.cell? ⟨p1, 5, none⟩ = some (.int .i64 0) := (blk_cell h1 5).trans rfl
  have y5 := blk_frozen h1 5
  have z6 : w2.cell? ⟨p1, 6, none⟩ = some (.bool false) := (blk_cell h1 6).trans rfl
  have y6 := blk_frozen h1 6
  have z7 : w2.cell? ⟨p1, 7, none⟩ = some (.string ⟨#[]⟩) := (blk_cell h1 7).trans rfl
  have y7 := blk_frozen h1 7
  have z8 : w2.cell? ⟨p1, 8, none⟩ = some (.int .i64 0) := (blk_cell h1 8).trans rfl
  have y8 := blk_frozen h1 8
  have z9 : w2.cell? ⟨p1, 9, none⟩ = some (.slice none 0 0) := (blk_cell h1 9).trans rfl
  have y9 := blk_frozen h1 9
  clear hb h0 h1 k0 f0 k1 f1 k2 f2 k3 f3 k4 f4 k5 f5 k6 f6 k7 f7 k8 f8 k9 f9
  go_wp2_with fail
  refine bodyPost_ret (results_ct rfl _ _ p1 40 #[.int .i64 7, .int .i64 0, .int .i64 0, .int .i64 0, .int .i64 a4, .int .i64 a5, .bool a6, .string a7, .int .i64 a8, .slice A n c] (0, 0) _ rfl (put10 H2.out rfl _ _ _ _ _ _ _ _ _ _) Tryd.underlying40 rfl (by kernel_rfl)) rfl ?_
  exact ⟨by rfl, below10 HB2.out HO.out.2.1 _ _ _ _ _ _ _ _ _ _⟩
 have d7 : (a0 == 7) = false := beq_eq_false_iff_ne.2 c7
 by_cases c8 : a0 = 8
 ·subst c8
  go_upto_region 19 with fail
  refine script_named.hide (fun W => Below w.heap.size w W ∧ W.heap[p0]? = some (.cells #[.int .i64 8, .int .i64 0, .int .i64 0, .int .i64 0, .int .i64 a4, .int .i64 a5, .bool a6, .string a7, .int .i64 a8, .slice A n c] 40 (0, 0)) ∧ W.heap[p1]? = some (.cells #[.int .i64 0, .int .i64 0, .int .i64 0, .int .i64 0, .int .i64 0, .int .i64 0, .bool false, .string ⟨#[]⟩, .int .i64 0, .slice none 0 0] 40 (0, 0))) ⟨(below_set (below_set (below_set HB.out HO.out.1) HO.out.1) HO.out.1), (blk_put (blk_put (blk_put H0.out 1 (.int .i64 0) rfl) 2 (.int .i64 0) rfl) 3 (.int .i64 0) rfl), (blk_far (blk_far (blk_far H1.out HO.out.2.2 _) HO.out.2.2 _) HO.out.2.2 _)⟩ ?_
  intro w2 ⟨hb, h0, h1⟩
  have HB2 := Aside0.mk hb
  have H2 := Aside0.mk h1
  have g0 : w2.cell? ⟨p0, 0, none⟩ = some (.int .i64 8) := (blk_cell h0 0).trans rfl
  have g1 : w2.cell? ⟨p0, 1, none⟩ = some (.int .i64 0) := (blk_cell h0 1).trans rfl
  have g2 : w2.cell? ⟨p0, 2, none⟩ = some (.int .i64 0) := (blk_cell h0 2).trans rfl
  have g3 : w2.cell? ⟨p0, 3, none⟩ = some (.int .i64 0) := (blk_cell h0 3).trans rfl
  have g4 : w2.cell? ⟨p0, 4, none⟩ = some (.int .i64 a4) := (blk_cell h0 4).trans rfl
  have g5 : w2.cell? ⟨p0, 5, none⟩ = some (.int .i64 a5) := (blk_cell h0 5).trans rfl
  have g6 : w2.cell? ⟨p0, 6, none⟩ = some (.bool a6) := (blk_cell h0 6).trans rfl
  have g7 : w2.cell? ⟨p0, 7, none⟩ = some (.string a7) := (blk_cell h0 7).trans rfl
  have g8 : w2.cell? ⟨p0, 8, none⟩ = some (.int .i64 a8) := (blk_cell h0 8).trans rfl
  have g9 : w2.cell? ⟨p0, 9, none⟩ = some (.slice A n c) := (blk_cell h0 9).trans rfl
  have z0 : w2.cell? ⟨p1, 0, none⟩ = some (.int .i64 0) := (blk_cell h1 0).trans rfl
  have y0 := blk_frozen h1 0
  have z1 : w2.cell? ⟨p1, 1, none⟩ = some (.int .i64 0) := (blk_cell h1 1).trans rfl
  have y1 := blk_frozen h1 1
  have z2 : w2.cell? ⟨p1, 2, none⟩ = some (.int .i64 0) := (blk_cell h1 2).trans rfl
  have y2 := blk_frozen h1 2
  have z3 : w2.cell? ⟨p1, 3, none⟩ = some (.int .i64 0) := (blk_cell h1 3).trans rfl
  have y3 := blk_frozen h1 3
  have z4 : w2.cell? ⟨p1, 4, none⟩ = some (.int .i64 0) := (blk_cell h1 4).trans rfl
  have y4 := blk_frozen h1 4
  have z5 : w2.cell? ⟨p1, 5, none⟩ = some (.int .i64 0) := (blk_cell h1 5).trans rfl
  have y5 := blk_frozen h1 5
  have z6 : w2.cell? ⟨p1, 6, none⟩ = some (.bool false) := (blk_cell h1 6).trans rfl
  have y6 := blk_frozen h1 6
  have z7 : w2.cell? ⟨p1, 7, none⟩ = some (.string ⟨#[]⟩) := (blk_cell h1 7).trans rfl
  have y7 := blk_frozen h1 7
  have z8 : w2.cell? ⟨p1, 8, none⟩ = some (.int .i64 0) := (blk_cell h1 8).trans rfl
  have y8 := blk_frozen h1 8
  have z9 : w2.cell? ⟨p1, 9, none⟩ = some (.slice none 0 0) := (blk_cell h1 9).trans rfl
  have y9 := blk_frozen h1 9
  clear hb h0 h1 k0 f0 k1 f1 k2 f2 k3 f3 k4 f4 k5 f5 k6 f6 k7 f7 k8 f8 k9 f9
  go_wp2_with fail
  refine bodyPost_ret (results_ct rfl _ _ p1 40 #[.int .i64 8, .int .i64 0, .int .i64 0, .int .i64 0, .int .i64 a4, .int .i64 a5, .bool a6, .string a7, .int .i64 a8, .slice A n c] (0, 0) _ rfl (put10 H2.out rfl _ _ _ _ _ _ _ _ _ _) Tryd.underlying40 rfl (by kernel_rfl)) rfl ?_
  exact ⟨by rfl, below10 HB2.out HO.out.2.1 _ _ _ _ _ _ _ _ _ _⟩
 have d8 : (a0 == 8) = false := beq_eq_false_iff_ne.2 c8
 by_cases c1 : a0 = 1
 ·subst c1
  go_upto_region 19 with fail
  refine script_named.hide (fun W => Below w.heap.size w W ∧ W.heap[p0]? = some (.cells #[.int .i64 1, .int .i64 a1, .int .i64 a2, .int .i64 a3, .int .i64 a4, .int .i64 0, .bool a6, .string a7, .int .i64 a8, .slice A n c] 40 (0, 0)) ∧ W.heap[p1]? = some (.cells #[.int .i64 0, .int .i64 0, .int .i64 0, .int .i64 0, .int .i64 0, .int .i64 0, .bool false, .string ⟨#[]⟩, .int .i64 0, .slice none 0 0] 40 (0, 0))) ⟨(below_set HB.out HO.out.1), (blk_put H0.out 5 (.int .i64 0) rfl), (blk_far H1.out HO.out.2.2 _)⟩ ?_
  intro w2 ⟨hb, h0, h1⟩
  have HB2 := Aside0.mk hb
  have H2 := Aside0.mk h1
  have g0 : w2.cell? ⟨p0, 0, none⟩ = some (.int .i64 1) := (blk_cell h0 0).trans rfl
  have g1 : w2.cell? ⟨p0, 1, none⟩ = some (.int .i64 a1) := (blk_cell h0 1).trans rfl
  have g2 : w2.cell? ⟨p0, 2, none⟩ = some (.int .i64 a2) := (blk_cell h0 2).trans rfl
  have g3 : w2.cell? ⟨p0, 3, none⟩ = some (.int .i64 a3) := (blk_cell h0 3).trans rfl
  have g4 : w2.cell? ⟨p0, 4, none⟩ = some (.int .i64 a4) := (blk_cell h0 4).trans rfl
  have g5 : w2.cell? ⟨p0, 5, none⟩ = some (.int .i64 0) := (blk_cell h0 5).trans rfl
  have g6 : w2.cell? ⟨p0, 6, none⟩ = some (.bool a6) := (blk_cell h0 6).trans rfl
  have g7 : w2.cell? ⟨p0, 7, none⟩ = some (.string a7) := (blk_cell h0 7).trans rfl
  have g8 : w2.cell? ⟨p0, 8, none⟩ = some (.int .i64 a8) := (blk_cell h0 8).trans rfl
  have g9 : w2.cell? ⟨p0, 9, none⟩ = some (.slice A n c) := (blk_cell h0 9).trans rfl
  have z0 : w2.cell? ⟨p1, 0, none⟩ = some (.int .i64 0) := (blk_cell h1 0).trans rfl
  have y0 := blk_frozen h1 0
  have z1 : w2.cell? ⟨p1, 1, none⟩ = some (.int .i64 0) := (blk_cell h1 1).trans rfl
  have y1 := blk_frozen h1 1
  have z2 : w2.cell? ⟨p1, 2, none⟩ = some (.int .i64 0) := (blk_cell h1 2).trans rfl
  have y2 := blk_frozen h1 2
  have z3 : w2.cell? ⟨p1, 3, none⟩ = some (.int .i64 0) := (blk_cell h1 3).trans rfl
  have y3 := blk_frozen h1 3
  have z4 : w2.cell? ⟨p1, 4, none⟩ = some (.int .i64 0) := (blk_cell h1 4).trans rfl
  have y4 := blk_frozen h1 4
  have z5 : w2.cell? ⟨p1, 5, none⟩ = some (.int .i64 0) := (blk_cell h1 5).trans rfl
  have y5 := blk_frozen h1 5
  have z6 : w2.cell? ⟨p1, 6, none⟩ = some (.bool false) := (blk_cell h1 6).trans rfl
  have y6 := blk_frozen h1 6
  have z7 : w2.cell? ⟨p1, 7, none⟩ = some (.string ⟨#[]⟩) := (blk_cell h1 7).trans rfl
  have y7 := blk_frozen h1 7
  have z8 : w2.cell? ⟨p1, 8, none⟩ = some (.int .i64 0) := (blk_cell h1 8).trans rfl
  have y8 := blk_frozen h1 8
  have z9 : w2.cell? ⟨p1, 9, none⟩ = some (.slice none 0 0) := (blk_cell h1 9).trans rfl
  have y9 := blk_frozen h1 9
  clear hb h0 h1 k0 f0 k1 f1 k2 f2 k3 f3 k4 f4 k5 f5 k6 f6 k7 f7 k8 f8 k9 f9
  go_wp2_with fail
  refine bodyPost_ret (results_ct rfl _ _ p1 40 #[.int .i64 1, .int .i64 a1, .int .i64 a2, .int .i64 a3, .int .i64 a4, .int .i64 0, .bool a6, .string a7, .int .i64 a8, .slice A n c] (0, 0) _ rfl (put10 H2.out rfl _ _ _ _ _ _ _ _ _ _) Tryd.underlying40 rfl (by kernel_rfl)) rfl ?_
  exact ⟨by rfl, below10 HB2.out HO.out.2.1 _ _ _ _ _ _ _ _ _ _⟩
 have d1 : (a0 == 1) = false := beq_eq_false_iff_ne.2 c1
 by_cases c2 : a0 = 2
 ·subst c2
  go_upto_region 19 with fail
  refine script_named.hide (fun W => Below w.heap.size w W ∧ W.heap[p0]? = some (.cells #[.int .i64 2, .int .i64 a1, .int .i64 a2, .int .i64 a3, .int .i64 a4, .int .i64 0, .bool a6, .string a7, .int .i64 a8, .slice A n c] 40 (0, 0)) ∧ W.heap[p1]? = some (.cells #[.int .i64 0, .int .i64 0, .int .i64 0, .int .i64 0, .int .i64 0, .int .i64 0, .bool false, .string ⟨#[]⟩, .int .i64 0, .slice none 0 0] 40 (0, 0))) ⟨(below_set HB.out HO.out.1), (blk_put H0.out 5 (.int .i64 0) rfl), (blk_far H1.out HO.out.2.2 _)⟩ ?_
  intro w2 ⟨hb, h0, h1⟩
  have HB2 := Aside0.mk hb
  have H2 := Aside0.mk h1
  have g0 : w2.cell? ⟨p0, 0, none⟩ = some (.int .i64 2) := (blk_cell h0 0).trans rfl
  have g1 : w2.cell? ⟨p0, 1, none⟩ = some (.int .i64 a1) := (blk_cell h0 1).trans rfl
  have g2 : w2.cell? ⟨p0, 2, none⟩ = some (.int .i64 a2) := (blk_cell h0 2).trans rfl
  have g3 : w2.cell? ⟨p0, 3, none⟩ = some (.int .i64 a3) := (blk_cell h0 3).trans rfl
  have g4 : w2.cell? ⟨p0, 4, none⟩ = some (.int .i64 a4) := (blk_cell h0 4).trans rfl
  have g5 : w2.cell? ⟨p0, 5, none⟩ = some (.int .i64 0) := (blk_cell h0 5).trans rfl
  have g6 : w2.cell? ⟨p0, 6, none⟩ = some (.bool a6) := (blk_cell h0 6).trans rfl
  have g7 : w2.cell? ⟨p0, 7, none⟩ = some (.string a7) := (blk_cell h0 7).trans rfl
  have g8 : w2.cell? ⟨p0, 8, none⟩ = some (.int .i64 a8) := (blk_cell h0 8).trans rfl
  have g9 : w2.cell? ⟨p0, 9, none⟩ = some (.slice A n c) := (blk_cell h0 9).trans rfl
  have z0 : w2.cell? ⟨p1, 0, none⟩ = some (.int .i64 0) := (blk_cell h1 0).trans rfl
  have y0 := blk_frozen h1 0
  have z1 : w2.cell? ⟨p1, 1, none⟩ = some (.int .i64 0) := (blk_cell h1 1).trans rfl
  have y1 := blk_frozen h1 1
  have z2 : w2.cell? ⟨p1, 2, none⟩ = some (.int .i64 0) := (blk_cell h1 2).trans rfl
  have y2 := blk_frozen h1 2
  have z3 : w2.cell? ⟨p1, 3, none⟩ = some (.int .i64 0) := (blk_cell h1 3).trans rfl
  have y3 := blk_frozen h1 3
  have z4 : w2.cell? ⟨p1, 4, none⟩ = some (.int .i64 0) := (blk_cell h1 4).trans rfl
  have y4 := blk_frozen h1 4
  have z5 : w2.cell? ⟨p1, 5, none⟩ = some (.int .i64 0) := (blk_cell h1 5).trans rfl
  have y5 := blk_frozen h1 5
  have z6 : w2.cell? ⟨p1, 6, none⟩ = some (.bool false) := (blk_cell h1 6).trans rfl
  have y6 := blk_frozen h1 6
  have z7 : w2.cell? ⟨p1, 7, none⟩ = some (.string ⟨#[]⟩) := (blk_cell h1 7).trans rfl
  have y7 := blk_frozen h1 7
  have z8 : w2.cell? ⟨p1, 8, none⟩ = some (.int .i64 0) := (blk_cell h1 8).trans rfl
  have y8 := blk_frozen h1 8
  have z9 : w2.cell? ⟨p1, 9, none⟩ = some (.slice none 0 0) := (blk_cell h1 9).trans rfl
  have y9 := blk_frozen h1 9
  clear hb h0 h1 k0 f0 k1 f1 k2 f2 k3 f3 k4 f4 k5 f5 k6 f6 k7 f7 k8 f8 k9 f9
  go_wp2_with fail
  refine bodyPost_ret (results_ct rfl _ _ p1 40 #[.int .i64 2, .int .i64 a1, .int .i64 a2, .int .i64 a3, .int .i64 a4, .int .i64 0, .bool a6, .string a7, .int .i64 a8, .slice A n c] (0, 0) _ rfl (put10 H2.out rfl _ _ _ _ _ _ _ _ _ _) Tryd.underlying40 rfl (by kernel_rfl)) rfl ?_
  exact ⟨by rfl, below10 HB2.out HO.out.2.1 _ _ _ _ _ _ _ _ _ _⟩
 have d2 : (a0 == 2) = false := beq_eq_false_iff_ne.2 c2
 by_cases c3 : a0 = 3
 ·subst c3
  go_upto_region 19 with fail
  refine script_named.hide (fun W => Below w.heap.size w W ∧ W.heap[p0]? = some (.cells #[.int .i64 3, .int .i64 a1, .int .i64 a2, .int .i64 a3, .int .i64 a4, .int .i64 0, .bool a6, .string a7, .int .i64 a8, .slice A n c] 40 (0, 0)) ∧ W.heap[p1]? = some (.cells #[.int .i64 0, .int .i64 0, .int .i64 0, .int .i64 0, .int .i64 0, .int .i64 0, .bool false, .string ⟨#[]⟩, .int .i64 0, .slice none 0 0] 40 (0, 0))) ⟨(below_set HB.out HO.out.1), (blk_put H0.out 5 (.int .i64 0) rfl), (blk_far H1.out HO.out.2.2 _)⟩ ?_
  intro w2 ⟨hb, h0, h1⟩
  have HB2 := Aside0.mk hb
  have H2 := Aside0.mk h1
  have g0 : w2.cell? ⟨p0, 0, none⟩ = some (.int .i64 3) := (blk_cell h0 0).trans rfl
  have g1 : w2.cell? ⟨p0, 1, none⟩ = some (.int .i64 a1) := (blk_cell h0 1).trans rfl
  have g2 : w2.cell? ⟨p0, 2, none⟩ = some (.int .i64 a2) := (blk_cell h0 2).trans rfl
  have g3 : w2.cell? ⟨p0, 3, none⟩ = some (.int .i64 a3) := (blk_cell h0 3).trans rfl
  have g4 : w2.cell? ⟨p0, 4, none⟩ = some (.int .i64 a4) := (blk_cell h0 4).trans rfl
  have g5 : w2.cell? ⟨p0, 5, none⟩ = some (.int .i64 0) := (blk_cell h0 5).trans rfl
  have g6 : w2.cell? ⟨p0, 6, none⟩ = some (.bool a6) := (blk_cell h0 6).trans rfl
  have g7 : w2.cell? ⟨p0, 7, none⟩ = some (.string a7) := (blk_cell h0 7).trans rfl
  have g8 : w2.cell? ⟨p0, 8, none⟩ = some (.int .i64 a8) := (blk_cell h0 8).trans rfl
  have g9 : w2.cell? ⟨p0, 9, none⟩ = some (.slice A n c) := (blk_cell h0 9).trans rfl
  have z0 : w2.cell? ⟨p1, 0, none⟩ = some (.int .i64 0) := (blk_cell h1 0).trans rfl
  have y0 := blk_frozen h1 0
  have z1 : w2.cell? ⟨p1, 1, none⟩ = some (.int .i64 0) := (blk_cell h1 1).trans rfl
  have y1 := blk_frozen h1 1
  have z2 : w2.cell? ⟨p1, 2, none⟩ = some (.int .i64 0) := (blk_cell h1 2).trans rfl
  have y2 := blk_frozen h1 2
  have z3 : w2.cell? ⟨p1, 3, none⟩ = some (.int .i64 0) := (blk_cell h1 3).trans rfl
  have y3 := blk_frozen h1 3
  have z4 : w2.cell? ⟨p1, 4, none⟩ = some (.int .i64 0) := (blk_cell h1 4).trans rfl
  have y4 := blk_frozen h1 4
  have z5 : w2.cell? ⟨p1, 5, none⟩ = some (.int .i64 0) := (blk_cell h1 5).trans rfl
  have y5 := blk_frozen h1 5
  have z6 : w2.cell? ⟨p1, 6, none⟩ = some (.bool false) := (blk_cell h1 6).trans rfl
  have y6 := blk_frozen h1 6
  have z7 : w2.cell? ⟨p1, 7, none⟩ = some (.string ⟨#[]⟩) := (blk_cell h1 7).trans rfl
  have y7 := blk_frozen h1 7
  have z8 : w2.cell? ⟨p1, 8, none⟩ = some (.int .i64 0) := (blk_cell h1 8).trans rfl
  have y8 := blk_frozen h1 8
  have z9 : w2.cell? ⟨p1, 9, none⟩ = some (.slice none 0 0) := (blk_cell h1 9).trans rfl
  have y9 := blk_frozen h1 9
  clear hb h0 h1 k0 f0 k1 f1 k2 f2 k3 f3 k4 f4 k5 f5 k6 f6 k7 f7 k8 f8 k9 f9
  go_wp2_with fail
  refine bodyPost_ret (results_ct rfl _ _ p1 40 #[.int .i64 3, .int .i64 a1, .int .i64 a2, .int .i64 a3, .int .i64 a4, .int .i64 0, .bool a6, .string a7, .int .i64 a8, .slice A n c] (0, 0) _ rfl (put10 H2.out rfl _ _ _ _ _ _ _ _ _ _) Tryd.underlying40 rfl (by kernel_rfl)) rfl ?_
  exact ⟨by rfl, below10 HB2.out HO.out.2.1 _ _ _ _ _ _ _ _ _ _⟩
 have d3 : (a0 == 3) = false := beq_eq_false_iff_ne.2 c3
 by_cases c5 : a0 = 5
 ·subst c5
  go_upto_region 19 with fail
  refine script_named.hide (fun W => Below w.heap.size w W ∧ W.heap[p0]? = some (.cells #[.int .i64 5, .int .i64 0, .int .i64 0, .int .i64 0, .int .i64 0, .int .i64 a5, .bool false, .string a7, .int .i64 a8, .slice A n c] 40 (0, 0)) ∧ W.heap[p1]? = some (.cells #[.int .i64 0, .int .i64 0, .int .i64 0, .int .i64 0, .int .i64 0, .int .i64 0, .bool false, .string ⟨#[]⟩, .int .i64 0, .slice none 0 0] 40 (0, 0))) ⟨(below_set (below_set (below_set (below_set (below_set HB.out HO.out.1) HO.out.1) HO.out.1) HO.out.1) HO.out.1), (blk_put (blk_put (blk_put (blk_put (blk_put H0.out 1 (.int .i64 0) rfl) 2 (.int .i64 0) rfl) 3 (.int .i64 0) rfl) 4 (.int .i64 0) rfl) 6 (.bool false) rfl), (blk_far (blk_far (blk_far (blk_far (blk_far H1.out HO.out.2.2 _) HO.out.2.2 _) HO.out.2.2 _) HO.out.2.2 _) HO.out.2.2 _)⟩ ?_
  intro w2 ⟨hb, h0, h1⟩
  have HB2 := Aside0.mk hb
  have H2 := Aside0.mk h1
  have g0 : w2.cell? ⟨p0, 0, none⟩ = some (.int .i64 5) := (blk_cell h0 0).trans rfl
  have g1 : w2.cell? ⟨p0, 1, none⟩ = some (.int .i64 0) := (blk_cell h0 1).trans rfl
  have g2 : w2.cell? ⟨p0, 2, none⟩ = some (.int .i64 0) := (blk_cell h0 2).trans rfl
  have g3 : w2.cell? ⟨p0, 3, none⟩ = some (.int .i64 0) := (blk_cell h0 3).trans rfl
  have g4 : w2.cell? ⟨p0, 4, none⟩ = some (.int .i64 0) := (blk_cell h0 4).trans rfl
  have g5 : w2.cell? ⟨p0, 5, none⟩ = some (.int .i64 a5) := (blk_cell h0 5).trans rfl
  have g6 : w2.cell? ⟨p0, 6, none⟩ = some (.bool false) := (blk_cell h0 6).trans rfl
  have g7 : w2.cell? ⟨p0, 7, none⟩ = some (.string a7) := (blk_cell h0 7).trans rfl
  have g8 : w2.cell? ⟨p0, 8, none⟩ = some (.int .i64 a8) := (blk_cell h0 8).trans rfl
  have g9 : w2.cell? ⟨p0, 9, none⟩ = some (.slice A n c) := (blk_cell h0 9).trans rfl
  have z0 : w2.cell? ⟨p1, 0, none⟩ = some (.int .i64 0) := (blk_cell h1 0).trans rfl
  have y0 := blk_frozen h1 0
  have z1 : w2.cell? ⟨p1, 1, none⟩ = some (.int .i64 0) := (blk_cell h1 1).trans rfl
  have y1 := blk_frozen h1 1
  have z2 : w2.cell? ⟨p1, 2, none⟩ = some (.int .i64 0) := (blk_cell h1 2).trans rfl
  have y2 := blk_frozen h1 2
  have z3 : w2.cell? ⟨p1, 3, none⟩ = some (.int .i64 0) := (blk_cell h1 3).trans rfl
  have y3 := blk_frozen h1 3
  have z4 : w2.cell? ⟨p1, 4, none⟩ = some (.int .i64 0) := (blk_cell h1 4).trans rfl
  have y4 := blk_frozen h1 4
  have z5 : w2.cell? ⟨p1, 5, none⟩ = some (.int .i64 0) := (blk_cell h1 5).trans rfl
  have y5 := blk_frozen h1 5
  have z6 : w2.cell? ⟨p1, 6, none⟩ = some (.bool false) := (blk_cell h1 6).trans rfl
  have y6 := blk_frozen h1 6
  have z7 : w2.cell? ⟨p1, 7, none⟩ = some (.string ⟨#[]⟩) := (blk_cell h1 7).trans rfl
  have y7 := blk_frozen h1 7
  have z8 : w2.cell? ⟨p1, 8, none⟩ = some (.int .i64 0) := (blk_cell h1 8).trans rfl
  have y8 := blk_frozen h1 8
  have z9 : w2.cell? ⟨p1, 9, none⟩ = some (.slice none 0 0) := (blk_cell h1 9).trans rfl
  have y9 := blk_frozen h1 9
  clear hb h0 h1 k0 f0 k1 f1 k2 f2 k3 f3 k4 f4 k5 f5 k6 f6 k7 f7 k8 f8 k9 f9
  go_wp2_with fail
  refine bodyPost_ret (results_ct rfl _ _ p1 40 #[.int .i64 5, .int .i64 0, .int .i64 0, .int .i64 0, .int .i64 0, .int .i64 a5, .bool false, .string a7, .int .i64 a8, .slice A n c] (0, 0) _ rfl (put10 H2.out rfl _ _ _ _ _ _ _ _ _ _) Tryd.underlying40 rfl (by kernel_rfl)) rfl ?_
  exact ⟨by rfl, below10 HB2.out HO.out.2.1 _ _ _ _ _ _ _ _ _ _⟩
 have d5 : (a0 == 5) = false := beq_eq_false_iff_ne.2 c5
 by_cases c6 : a0 = 6
 ·subst c6
  go_upto_region 19 with fail
  refine script_named.hide (fun W => Below w.heap.size w W ∧ W.heap[p0]? = some (.cells #[.int .i64 6, .int .i64 a1, .int .i64 0, .int .i64 a3, .int .i64 a4, .int .i64 a5, .bool a6, .string a7, .int .i64 a8, .slice A n c] 40 (0, 0)) ∧ W.heap[p1]? = some (.cells #[.int .i64 0, .int .i64 0, .int .i64 0, .int .i64 0, .int .i64 0, .int .i64 0, .bool false, .string ⟨#[]⟩, .int .i64 0, .slice none 0 0] 40 (0, 0))) ⟨(below_set HB.out HO.out.1), (blk_put H0.out 2 (.int .i64 0) rfl), (blk_far H1.out HO.out.2.2 _)⟩ ?_
  intro w2 ⟨hb, h0, h1⟩
  have HB2 := Aside0.mk hb
  have H2 := Aside0.mk h1
  have g0 : w2.cell? ⟨p0, 0, none⟩ = some (.int .i64 6) := (blk_cell h0 0).trans rfl
  have g1 : w2.cell? ⟨p0, 1, none⟩ = some (.int .i64 a1) := (blk_cell h0 1).trans rfl
  have g2 : w2.cell? ⟨p0, 2, none⟩ = some (.int .i64 0) := (blk_cell h0 2).trans rfl
  have g3 : w2.cell? ⟨p0, 3, none⟩ = some (.int .i64 a3) := (blk_cell h0 3).trans rfl
  have g4 : w2.cell? ⟨p0, 4, none⟩ = some (.int .i64 a4) := (blk_cell h0 4).trans rfl
  have g5 : w2.cell? ⟨p0, 5, none⟩ = some (.int .i64 a5) := (blk_cell h0 5).trans rfl
  have g6 : w2.cell? ⟨p0, 6, none⟩ = some (.bool a6) := (blk_cell h0 6).trans rfl
  have g7 : w2.cell? ⟨p0, 7, none⟩ = some (.string a7) := (blk_cell h0 7).trans rfl
  have g8 : w2.cell? ⟨p0, 8, none⟩ = some (.int .i64 a8) := (blk_cell h0 8).trans rfl
  have g9 : w2.cell? ⟨p0, 9, none⟩ = some (.slice A n c) := (blk_cell h0 9).trans rfl
  have z0 : w2.cell? ⟨p1, 0, none⟩ = some (.int .i64 0) := (blk_cell h1 0).trans rfl
  have y0 := blk_frozen h1 0
  have z1 : w2.cell? ⟨p1, 1, none⟩ = some (.int .i64 0) := (blk_cell h1 1).trans rfl
  have y1 := blk_frozen h1 1
  have z2 : w2.cell? ⟨p1, 2, none⟩ = some (.int .i64 0) := (blk_cell h1 2).trans rfl
  have y2 := blk_frozen h1 2
  have z3 : w2.cell? ⟨p1, 3, none⟩ = some (.int .i64 0) := (blk_cell h1 3).trans rfl
  have y3 := blk_frozen h1 3
  have z4 : w2.cell? ⟨p1, 4, none⟩ = some (.int .i64 0) := (blk_cell h1 4).trans rfl
  have y4 := blk_frozen h1 4
  have z5 : w2.cell? ⟨p1, 5, none⟩ = some (.int .i64 0) := (blk_cell h1 5).trans rfl
  have y5 := blk_frozen h1 5
  have z6 : w2.cell? ⟨p1, 6, none⟩ = some (.bool false) := (blk_cell h1 6).trans rfl
  have y6 := blk_frozen h1 6
  have z7 : w2.cell? ⟨p1, 7, none⟩ = some (.string ⟨#[]⟩) := (blk_cell h1 7).trans rfl
  have y7 := blk_frozen h1 7
  have z8 : w2.cell? ⟨p1, 8, none⟩ = some (.int .i64 0) := (blk_cell h1 8).trans rfl
  have y8 := blk_frozen h1 8
  have z9 : w2.cell? ⟨p1, 9, none⟩ = some (.slice none 0 0) := (blk_cell h1 9).trans rfl
  have y9 := blk_frozen h1 9
  clear hb h0 h1 k0 f0 k1 f1 k2 f2 k3 f3 k4 f4 k5 f5 k6 f6 k7 f7 k8 f8 k9 f9
  go_wp2_with fail
  refine bodyPost_ret (results_ct rfl _ _ p1 40 #[.int .i64 6, .int .i64 a1, .int .i64 0, .int .i64 a3, .int .i64 a4, .int .i64 a5, .bool a6, .string a7, .int .i64 a8, .slice A n c] (0, 0) _ rfl (put10 H2.out rfl _ _ _ _ _ _ _ _ _ _) Tryd.underlying40 rfl (by kernel_rfl)) rfl ?_
  exact ⟨by rfl, below10 HB2.out HO.out.2.1 _ _ _ _ _ _ _ _ _ _⟩
 have d6 : (a0 == 6) = false := beq_eq_false_iff_ne.2 c6
 by_cases c9 : a0 = 9
 ·subst c9
  go_upto_region 19 with fail
  refine script_named.hide (fun W => Below w.heap.size w W ∧ W.heap[p0]? = some (.cells #[.int .i64 9, .int .i64 a1, .int .i64 a2, .int .i64 a3, .int .i64 a4, .int .i64 a5, .bool a6, .string a7, .int .i64 0, .slice none 0 0] 40 (0, 0)) ∧ W.heap[p1]? = some (.cells #[.int .i64 0, .int .i64 0, .int .i64 0, .int .i64 0, .int .i64 0, .int .i64 0, .bool false, .string ⟨#[]⟩, .int .i64 0, .slice none 0 0] 40 (0, 0))) ⟨(below_set (below_set HB.out HO.out.1) HO.out.1), (blk_put (blk_put H0.out 8 (.int .i64 0) rfl) 9 (.slice none 0 0) rfl), (blk_far (blk_far H1.out HO.out.2.2 _) HO.out.2.2 _)⟩ ?_
  intro w2 ⟨hb, h0, h1⟩
  have HB2 := Aside0.mk hb
  have H2 := Aside0.mk h1
  have g0 : w2.cell? ⟨p0, 0, none⟩ = some (.int .i64 9) := (blk_cell h0 0).trans rfl
  have g1 : w2.cell? ⟨p0, 1, none⟩ = some (.int .i64 a1) := (blk_cell h0 1).trans rfl
  have g2 : w2.cell? ⟨p0, 2, none⟩ = some (.int .i64 a2) := (blk_cell h0 2).trans rfl
  have g3 : w2.cell? ⟨p0, 3, none⟩ = some (.int .i64 a3) := (blk_cell h0 3).trans rfl
  have g4 : w2.cell? ⟨p0, 4, none⟩ = some (.int .i64 a4) := (blk_cell h0 4).trans rfl
  have g5 : w2.cell? ⟨p0, 5, none⟩ = some (.int .i64 a5) := (blk_cell h0 5).trans rfl
  have g6 : w2.cell? ⟨p0, 6, none⟩ = some (.bool a6) := (blk_cell h0 6).trans rfl
  have g7 : w2.cell? ⟨p0, 7, none⟩ = some (.string a7) := (blk_cell h0 7).trans rfl
  have g8 : w2.cell? ⟨p0, 8, none⟩ = some (.int .i64 0) := (blk_cell h0 8).trans rfl
  have g9 : w2.cell? ⟨p0, 9, none⟩ = some (.slice none 0 0) := (blk_cell h0 9).trans rfl
  have z0 : w2.cell? ⟨p1, 0, none⟩ = some (.int .i64 0) := (blk_cell h1 0).trans rfl
  have y0 := blk_frozen h1 0
  have z1 : w2.cell? ⟨p1, 1, none⟩ = some (.int .i64 0) := (blk_cell h1 1).trans rfl
  have y1 := blk_frozen h1 1
  have z2 : w2.cell? ⟨p1, 2, none⟩ = some (.int .i64 0) := (blk_cell h1 2).trans rfl
  have y2 := blk_frozen h1 2
  have z3 : w2.cell? ⟨p1, 3, none⟩ = some (.int .i64 0) := (blk_cell h1 3).trans rfl
  have y3 := blk_frozen h1 3
  have z4 : w2.cell? ⟨p1, 4, none⟩ = some (.int .i64 0) := (blk_cell h1 4).trans rfl
  have y4 := blk_frozen h1 4
  have z5 : w2.cell? ⟨p1, 5, none⟩ = some (.int .i64 0) := (blk_cell h1 5).trans rfl
  have y5 := blk_frozen h1 5
  have z6 : w2.cell? ⟨p1, 6, none⟩ = some (.bool false) := (blk_cell h1 6).trans rfl
  have y6 := blk_frozen h1 6
  have z7 : w2.cell? ⟨p1, 7, none⟩ = some (.string ⟨#[]⟩) := (blk_cell h1 7).trans rfl
  have y7 := blk_frozen h1 7
  have z8 : w2.cell? ⟨p1, 8, none⟩ = some (.int .i64 0) := (blk_cell h1 8).trans rfl
  have y8 := blk_frozen h1 8
  have z9 : w2.cell? ⟨p1, 9, none⟩ = some (.slice none 0 0) := (blk_cell h1 9).trans rfl
  have y9 := blk_frozen h1 9
  clear hb h0 h1 k0 f0 k1 f1 k2 f2 k3 f3 k4 f4 k5 f5 k6 f6 k7 f7 k8 f8 k9 f9
  go_wp2_with fail
  refine bodyPost_ret (results_ct rfl _ _ p1 40 #[.int .i64 9, .int .i64 a1, .int .i64 a2, .int .i64 a3, .int .i64 a4, .int .i64 a5, .bool a6, .string a7, .int .i64 0, .slice none 0 0] (0, 0) _ rfl (put10 H2.out rfl _ _ _ _ _ _ _ _ _ _) Tryd.underlying40 rfl (by kernel_rfl)) rfl ?_
  exact ⟨by rfl, below10 HB2.out HO.out.2.1 _ _ _ _ _ _ _ _ _ _⟩
 have d9 : (a0 == 9) = false := beq_eq_false_iff_ne.2 c9
 by_cases c4 : a0 = 4
 ·subst c4
  go_upto_region 19 with fail
  refine script_named.hide (fun W => Below w.heap.size w W ∧ W.heap[p0]? = some (.cells #[.int .i64 4, .int .i64 a1, .int .i64 a2, .int .i64 a3, .int .i64 a4, .int .i64 a5, .bool a6, .string a7, .int .i64 a8, .slice A n c] 40 (0, 0)) ∧ W.heap[p1]? = some (.cells #[.int .i64 0, .int .i64 0, .int .i64 0, .int .i64 0, .int .i64 0, .int .i64 0, .bool false, .string ⟨#[]⟩, .int .i64 0, .slice none 0 0] 40 (0, 0))) ⟨HB.out, H0.out, H1.out⟩ ?_
  intro w2 ⟨hb, h0, h1⟩
  have HB2 := Aside0.mk hb
  have H2 := Aside0.mk h1
  have g0 : w2.cell? ⟨p0, 0, none⟩ = some (.int .i64 4) := (blk_cell h0 0).trans rfl
  have g1 : w2.cell? ⟨p0, 1, none⟩ = some (.int .i64 a1) := (blk_cell h0 1).trans rfl
  have g2 : w2.cell? ⟨p0, 2, none⟩ = some (.int .i64 a2) := (blk_cell h0 2).trans rfl
  have g3 : w2.cell? ⟨p0, 3, none⟩ = some (.int .i64 a3) := (blk_cell h0 3).trans rfl
  have g4 : w2.cell? ⟨p0, 4, none⟩ = some (.int .i64 a4) := (blk_cell h0 4).trans rfl
  have g5 : w2.cell? ⟨p0, 5, none⟩ = some (.int .i64 a5) := (blk_cell h0 5).trans rfl
  have g6 : w2.cell? ⟨p0, 6, none⟩ = some (.bool a6) := (blk_cell h0 6).trans rfl
  have g7 : w2.cell? ⟨p0, 7, none⟩ = some (.string a7) := (blk_cell h0 7).trans rfl
  have g8 : w2.cell? ⟨p0, 8, none⟩ = some (.int .i64 a8) := (blk_cell h0 8).trans rfl
  have g9 : w2.cell? ⟨p0, 9, none⟩ = some (.slice A n c) := (blk_cell h0 9).trans rfl
  have z0 : w2.cell? ⟨p1, 0, none⟩ = some (.int .i64 0) := (blk_cell h1 0).trans rfl
  have y0 := blk_frozen h1 0
  have z1 : w2.cell? ⟨p1, 1, none⟩ = some (.int .i64 0) := (blk_cell h1 1).trans rfl
  have y1 := blk_frozen h1 1
  have z2 : w2.cell? ⟨p1, 2, none⟩ = some (.int .i64 0) := (blk_cell h1 2).trans rfl
  have y2 := blk_frozen h1 2
  have z3 : w2.cell? ⟨p1, 3, none⟩ = some (.int .i64 0) := (blk_cell h1 3).trans rfl
  have y3 := blk_frozen h1 3
  have z4 : w2.cell? ⟨p1, 4, none⟩ = some (.int .i64 0) := (blk_cell h1 4).trans rfl
  have y4 := blk_frozen h1 4
  have z5 : w2.cell? ⟨p1, 5, none⟩ = some (.int .i64 0) := (blk_cell h1 5).trans rfl
  have y5 := blk_frozen h1 5
  have z6 : w2.cell? ⟨p1, 6, none⟩ = some (.bool false) := (blk_cell h1 6).trans rfl
  have y6 := blk_frozen h1 6
  have z7 : w2.cell? ⟨p1, 7, none⟩ = some (.string ⟨#[]⟩) := (blk_cell h1 7).trans rfl
  have y7 := blk_frozen h1 7
  have z8 : w2.cell? ⟨p1, 8, none⟩ = some (.int .i64 0) := (blk_cell h1 8).trans rfl
  have y8 := blk_frozen h1 8
  have z9 : w2.cell? ⟨p1, 9, none⟩ = some (.slice none 0 0) := (blk_cell h1 9).trans rfl
  have y9 := blk_frozen h1 9
  clear hb h0 h1 k0 f0 k1 f1 k2 f2 k3 f3 k4 f4 k5 f5 k6 f6 k7 f7 k8 f8 k9 f9
  go_wp2_with fail
  refine bodyPost_ret (results_ct rfl _ _ p1 40 #[.int .i64 4, .int .i64 a1, .int .i64 a2, .int .i64 a3, .int .i64 a4, .int .i64 a5, .bool a6, .string a7, .int .i64 a8, .slice A n c] (0, 0) _ rfl (put10 H2.out rfl _ _ _ _ _ _ _ _ _ _) Tryd.underlying40 rfl (by kernel_rfl)) rfl ?_
  exact ⟨by rfl, below10 HB2.out HO.out.2.1 _ _ _ _ _ _ _ _ _ _⟩
 have d4 : (a0 == 4) = false := beq_eq_false_iff_ne.2 c4
 go_upto_region 18 with fail
 refine script_named.hide (fun W => Below w.heap.size w W ∧ W.heap[p0]? = some (.cells #[.int .i64 a0, .int .i64 a1, .int .i64 a2, .int .i64 a3, .int .i64 a4, .int .i64 a5, .bool a6, .string a7, .int .i64 a8, .slice A n c] 40 (0, 0)) ∧ W.heap[p1]? = some (.cells #[.int .i64 0, .int .i64 0, .int .i64 0, .int .i64 0, .int .i64 0, .int .i64 0, .bool false, .string ⟨#[]⟩, .int .i64 0, .slice none 0 0] 40 (0, 0))) ⟨HB.out, H0.out, H1.out⟩ ?_
 intro w2 ⟨hb, h0, h1⟩
 have HB2 := Aside0.mk hb
 have H2 := Aside0.mk h1
 have g0 : w2.cell? ⟨p0, 0, none⟩ = some (.int .i64 a0) := (blk_cell h0 0).trans rfl
 have g1 : w2.cell? ⟨p0, 1, none⟩ = some (.int .i64 a1) := (blk_cell h0 1).trans rfl
 have g2 : w2.cell? ⟨p0, 2, none⟩ = some (.int .i64 a2) := (blk_cell h0 2).trans rfl
 have g3 : w2.cell? ⟨p0, 3, none⟩ = some (.int .i64 a3) := (blk_cell h0 3).trans rfl
 have g4 : w2.cell? ⟨p0, 4, none⟩ = some (.int .i64 a4) := (blk_cell h0 4).trans rfl
 have g5 : w2.cell? ⟨p0, 5, none⟩ = some (.int .i64 a5) := (blk_cell h0 5).trans rfl
 have g6 : w2.cell? ⟨p0, 6, none⟩ = some (.bool a6) := (blk_cell h0 6).trans rfl
 have g7 : w2.cell? ⟨p0, 7, none⟩ = some (.string a7) := (blk_cell h0 7).trans rfl
 have g8 : w2.cell? ⟨p0, 8, none⟩ = some (.int .i64 a8) := (blk_cell h0 8).trans rfl
 have g9 : w2.cell? ⟨p0, 9, none⟩ = some (.slice A n c) := (blk_cell h0 9).trans rfl
 have z0 : w2.cell? ⟨p1, 0, none⟩ = some (.int .i64 0) := (blk_cell h1 0).trans rfl
 have y0 := blk_frozen h1 0
 have z1 : w2.cell? ⟨p1, 1, none⟩ = some (.int .i64 0) := (blk_cell h1 1).trans rfl
 have y1 := blk_frozen h1 1
 have z2 : w2.cell? ⟨p1, 2, none⟩ = some (.int .i64 0) := (blk_cell h1 2).trans rfl
 have y2 := blk_frozen h1 2
 have z3 : w2.cell? ⟨p1, 3, none⟩ = some (.int .i64 0) := (blk_cell h1 3).trans rfl
 have y3 := blk_frozen h1 3
 have z4 : w2.cell? ⟨p1, 4, none⟩ = some (.int .i64 0) := (blk_cell h1 4).trans rfl
 have y4 := blk_frozen h1 4
 have z5 : w2.cell? ⟨p1, 5, none⟩ = some (.int .i64 0) := (blk_cell h1 5).trans rfl
 have y5 := blk_frozen h1 5
 have z6 : w2.cell? ⟨p1, 6, none⟩ = some (.bool false) := (blk_cell h1 6).trans rfl
 have y6 := blk_frozen h1 6
 have z7 : w2.cell? ⟨p1, 7, none⟩ = some (.string ⟨#[]⟩) := (blk_cell h1 7).trans rfl
 have y7 := blk_frozen h1 7
 have z8 : w2.cell? ⟨p1, 8, none⟩ = some (.int .i64 0) := (blk_cell h1 8).trans rfl
 have y8 := blk_frozen h1 8
 have z9 : w2.cell? ⟨p1, 9, none⟩ = some (.slice none 0 0) := (blk_cell h1 9).trans rfl
 have y9 := blk_frozen h1 9
 clear hb h0 h1 k0 f0 k1 f1 k2 f2 k3 f3 k4 f4 k5 f5 k6 f6 k7 f7 k8 f8 k9 f9
 go_wp2_with fail
 refine bodyPost_ret (results_ct rfl _ _ p1 40 #[.int .i64 a0, .int .i64 a1, .int .i64 a2, .int .i64 a3, .int .i64 a4, .int .i64 a5, .bool a6, .string a7, .int .i64 a8, .slice A n c] (0, 0) _ rfl (put10 H2.out rfl _ _ _ _ _ _ _ _ _ _) Tryd.underlying40 rfl (by kernel_rfl)) rfl ?_
 exact ⟨by simp [script_named.nR, script_named.nS, script_named.nT, script_named.nA, script_named.nG, script_named.nX, script_named.nC, script_named.nD, script_named.nN, script_named.r0, script_named.is, *]; omega, below10 HB2.out HO.out.2.1 _ _ _ _ _ _ _ _ _ _⟩


end Go.Proofs.YtnojgkiaolmoeaaDoor.PSc
end
section
/- Contracts: what calls of these functions of the program do, each as a plain function; written by a program of this session. -/
namespace Go.Proofs.YtnojgkiaolmoeaaDoor.PSc
open Go.RowKit Go.Proofs.YtnojgkiaolmoeaaDoorW.PrintWords Go.Proofs.YtnojgkiaolmoeaaDoorW.PrintLast Go.Proofs.YtnojgkiaolmoeaaDoorW.PrintMore
attribute [local go_sem] max2_int min2_int max_two min_two max_three min_three max_four min_four   -- for this text's walks alone
set_option linter.unusedVariables false
set_option linter.unusedSimpArgs false

/-! ### ip_In: function 31 -/
def ip_In.f (a0 : Int) (a1 : Int) : Option (Bool) := if a0 ≥ 0 then (if 0 ≤ a1 then (some ((shr .i64 a0 a1) == 0)) else (none)) else (some false)
set_option maxHeartbeats 8000000 in
set_option maxRecDepth 100000 in
theorem ip_In.calls (a0 : Int) (a1 : Int) (r : Bool) (w : World) (h : ip_In.f a0 a1 = some r) :
  Calls Tryd.prog 31 #[.int .i64 a0, .int .i64 a1] w fun e w' => e = .returned (.bool r) ∧ Drawn0 w w' := by
 have H : (if a0 ≥ 0 then (if 0 ≤ a1 then (some ((shr .i64 a0 a1) == 0)) else (none)) else (some false)) = some r := h
 clear h
 by_cases c3 : a0 ≥ 0
 ·rw [if_pos c3] at H
  have c3b0 : decide (0 ≤ a0) = true := decide_eq_true c3
  clear c3
  by_cases c4 : 0 ≤ a1
  ·rw [if_pos c4] at H
   have c4b0 := eq_true c4
   have c4b1 : decide (0 ≤ a1) = true := decide_eq_true c4
   clear c4
   obtain ⟨ji5, hji5⟩ : ∃ j_ : Int, (shr .i64 a0 a1) = j_ := ⟨_, rfl⟩
   replace H : (some ((ji5) == 0)) = some r := by first | (rw [hji5] at H; exact H) | (simp only [hji5] at H ⊢; exact H)
   have hji5_ : (a0 / 2 ^ min a1.toNat 64) = ji5 := hji5
   have hji5z : a1 ≤ 64 → (a0 / 2 ^ a1.toNat) = ji5 := shr_small hji5
   obtain rfl := Option.some.inj H
   go_enter Tryd.func31, Tryd.ntmps31
   go_wp2
   go_ret
   exact ⟨by first | rfl | (simp; done) | (simp only [← hji5] <;> (first | rfl | simp)) | (simp [*]; done), by repeat (first | exact Drawn0.refl _ | apply Drawn0.step)⟩
  ·rw [if_neg c4] at H
   exact absurd H (by simp)
 ·rw [if_neg c3] at H
  have c3b0 : decide (0 ≤ a0) = false := decide_eq_false c3
  clear c3
  obtain rfl := Option.some.inj H
  go_enter Tryd.func31, Tryd.ntmps31
  go_wp2
  go_ret
  exact ⟨by first | rfl | (simp; done) | (simp [*]; done), by repeat (first | exact Drawn0.refl _ | apply Drawn0.step)⟩

/-! ### conf_to: function 57 -/
def conf_to.f (a0 : Int) (a1 : Int) : Option (Bool) := if a0 ≥ 0 then (some (decide (a0 ≤ a1))) else (some false)
set_option maxHeartbeats 8000000 in
set_option maxRecDepth 100000 in
theorem conf_to.calls (a0 : Int) (a1 : Int) (r : Bool) (w : World) (h : conf_to.f a0 a1 = some r) :
  Calls Tryd.prog 57 #[.int .i64 a0, .int .i64 a1] w fun e w' => e = .returned (.bool r) ∧ Drawn0 w w' := by
 have H : (if a0 ≥ 0 then (some (decide (a0 ≤ a1))) else (some false)) = some r := h
 clear h
 by_cases c3 : a0 ≥ 0
 ·rw [if_pos c3] at H
  have c3b0 : decide (0 ≤ a0) = true := decide_eq_true c3
  clear c3
  obtain rfl := Option.some.inj H
  go_enter Tryd.func57, Tryd.ntmps57
  go_wp2
  go_ret
  exact ⟨by first | rfl | (simp; done) | (simp [*]; done), by repeat (first | exact Drawn0.refl _ | apply Drawn0.step)⟩
 ·rw [if_neg c3] at H
  have c3b0 : decide (0 ≤ a0) = false := decide_eq_false c3
  clear c3
  obtain rfl := Option.some.inj H
  go_enter Tryd.func57, Tryd.ntmps57
  go_wp2
  go_ret
  exact ⟨by first | rfl | (simp; done) | (simp [*]; done), by repeat (first | exact Drawn0.refl _ | apply Drawn0.step)⟩

end Go.Proofs.YtnojgkiaolmoeaaDoor.PSc
end
section
/- Contracts: what calls of these functions of the program do, each as a plain function; written by a program of this session. -/
namespace Go.Proofs.YtnojgkiaolmoeaaDoor.PSc
open Go.RowKit Go.Proofs.YtnojgkiaolmoeaaDoorW.PrintWords Go.Proofs.YtnojgkiaolmoeaaDoorW.PrintLast Go.Proofs.YtnojgkiaolmoeaaDoorW.PrintMore
attribute [local go_sem] max2_int min2_int max_two min_two max_three min_three max_four min_four   -- for this text's walks alone
set_option linter.unusedVariables false
set_option linter.unusedSimpArgs false

/-! ### conf_site: function 48, by hand -/
def backOk (b : S65) : Bool := decide (0 ≤ b.f0 ∧ b.f0 ≤ 16)
def siteOk (x : S63) : Bool := x.f3.all backOk && decide (0 ≤ x.f0 ∧ x.f0 ≤ 16) && decide (0 ≤ x.f2 ∧ x.f2 ≤ 8) && decide (x.f3.length ≤ 4)
theorem conf_to.plain (x m : Int) : conf_to.f x m = some (decide (0 ≤ x ∧ x ≤ m)) := by
 unfold conf_to.f
 by_cases h : x ≥ 0
 ·rw [if_pos h]; congr 1; simp; omega
 ·rw [if_neg h]; congr 1; simp; omega
theorem conf_to.at (x m : Int) (b : Bool) (hb : decide (0 ≤ x ∧ x ≤ m) = b) (w : World) : Calls Tryd.prog 57 #[.int .i64 x, .int .i64 m] w fun e w' => e = .returned (.bool b) ∧ Drawn0 w w' :=
 conf_to.calls x m b w (by rw [conf_to.plain, hb])
theorem all_snoc {α : Type} (p : α → Bool) (l : List α) (i : Nat) (h : i < l.length) : (l.take (i + 1)).all p = ((l.take i).all p && p l[i]) := by
 rw [List.take_succ_eq_append_getElem h, List.all_append]; simp
theorem ret_bool {a b : Bool} (h : a = b) : Ending.returned (.bool a) = .returned (.bool b) := by rw [h]
set_option maxHeartbeats 4000000 in
set_option maxRecDepth 100000 in
theorem conf_site.at (x : S63) (p : Addr) (A3 : Option Addr) (c3 : Nat) (w : World) (h0 : w.cell? p = some (.int .i64 x.f0)) (h2 : w.cell? ⟨p.block, p.off + 2, none⟩ = some (.int .i64 x.f2)) (h3 : w.cell? ⟨p.block, p.off + 3, none⟩ = some (.slice A3 x.f3.length c3))
    (g3 : Kd.C k65 w A3 x.f3.length x.f3) :
    Calls Tryd.prog 48 #[.pointer (some p)] w fun e w' => e = .returned (.bool (siteOk x)) ∧ Below w.heap.size w w' := by
  have hl := g3.2.1
  have G3 := Aside0.mk g3
  clear g3
  have hu := Tryd.underlying65
  go_enter Tryd.func48, Tryd.ntmps48
  go_wp2_with fail
  go_loopw [10] (fun v wr => ∃ i : Nat, v = .int .i64 i ∧ i ≤ x.f3.length ∧ Aside0 ((x.f3.take i).all backOk = true) ∧ Below w.heap.size w wr) (fun v _ => x.f3.length - (intOf v).toNat)
  case atStart => exact ⟨0, rfl, Nat.zero_le _, ⟨rfl⟩, Below.refl _ _⟩
  case round =>
    obtain ⟨i, rfl, hi, HA, HB⟩ := hrel
    by_cases hlt : i < x.f3.length
    · obtain ⟨ad, e, hx0, hx1⟩ := at_T65 G3.out (i : Int) (by omega) (by omega)
      subst e
      rw [Int.toNat_natCast] at hx0 hx1
      replace hx0 := pw_cell_below HB hx0
      replace hx1 := pw_cell_below HB hx1
      have er : rd_T65 x.f3 (i : Int) = x.f3[i] := by simp [rd_T65, hlt]
      have HE := Aside0.mk er
      clear er
      cases hbk : backOk (rd_T65 x.f3 i)
      · have HK := Aside0.mk hbk
        go_wp2_with (go_at_call 57; refine (conf_to.at _ _ false HK.out _).mono ?_; rintro e w' ⟨rfl, ⟨nd, rfl⟩⟩)
        go_ret
        refine ⟨ret_bool ?_, by repeat (first | exact HB | refine Below.alloc ?_ (by have := HB.size; simp; omega) _ | refine pw_below_drewN ?_ _ | refine Below.setCell ?_ (by have := HB.size; simp; omega) _ | refine below_drew ?_)⟩
        have h1 := HK.out
        rw [HE.out] at h1
        have hx : x.f3.all backOk = false := by
          rw [List.all_eq_false]
          exact ⟨x.f3[i], List.getElem_mem hlt, by rw [h1]; decide⟩
        simp [siteOk, hx]
      · have HK := Aside0.mk hbk
        go_wp2_with (go_at_call 57; refine (conf_to.at _ _ true HK.out _).mono ?_; rintro e w' ⟨rfl, ⟨nd, rfl⟩⟩)
        go_roundw
        case rel =>
          refine ⟨i + 1, by go_num, by omega, ⟨?_⟩, by repeat (first | exact HB | refine Below.alloc ?_ (by have := HB.size; simp; omega) _ | refine pw_below_drewN ?_ _ | refine Below.setCell ?_ (by have := HB.size; simp; omega) _ | refine below_drew ?_)⟩
          have h1 := HK.out
          rw [HE.out] at h1
          rw [all_snoc backOk x.f3 i hlt, HA.out, h1]; rfl
        case measure => simp [intOf]; omega
    · have hi2 : i = x.f3.length := by omega
      have HA2 : x.f3.all backOk = true := by have := HA.out; rw [hi2, List.take_length] at this; exact this
      clear HA hi2
      replace h0 := pw_cell_below HB h0
      replace h2 := pw_cell_below HB h2
      replace h3 := pw_cell_below HB h3
      have HA3 := Aside0.mk HA2
      clear HA2
      have fin : ∀ (W : World), Below w.heap.size w W → ∀ bv : Bool, (decide (0 ≤ x.f0 ∧ x.f0 ≤ 16) && decide (0 ≤ x.f2 ∧ x.f2 ≤ 8) && decide (x.f3.length ≤ 4)) = bv → Ending.returned (.bool bv) = .returned (.bool (siteOk x)) ∧ Below w.heap.size w W := by
        intro W hW bv hbv
        refine ⟨ret_bool ?_, hW⟩
        rw [← hbv]
        unfold siteOk
        rw [HA3.out, Bool.true_and]
      have FIN := Aside0.mk fin
      clear fin
      cases hw : decide (0 ≤ x.f0 ∧ x.f0 ≤ 16)
      · have HW := Aside0.mk hw
        clear hw
        go_wp2_with (go_at_call 57; refine (conf_to.at _ _ false HW.out _).mono ?_; rintro e w' ⟨rfl, ⟨nd, rfl⟩⟩)
        go_ret
        exact FIN.out _ (by repeat (first | exact HB | refine pw_below_drewN ?_ _)) _ (by rw [HW.out]; rfl)
      · have HW := Aside0.mk hw
        clear hw
        cases hc : decide (0 ≤ x.f2 ∧ x.f2 ≤ 8)
        · have HC := Aside0.mk hc
          clear hc
          go_wp2_with (first
            | (go_at_call 57; (with_reducible refine (conf_to.at x.f0 16 true HW.out _).mono ?_); rintro e w' ⟨rfl, ⟨nd, rfl⟩⟩)
            | (go_at_call 57; (with_reducible refine (conf_to.at x.f2 8 false HC.out _).mono ?_); rintro e w' ⟨rfl, ⟨nd, rfl⟩⟩))
          go_ret
          exact FIN.out _ (by repeat (first | exact HB | refine pw_below_drewN ?_ _)) _ (by rw [HW.out, HC.out]; rfl)
        · have HC := Aside0.mk hc
          clear hc
          go_wp2_with (first
            | (go_at_call 57; (with_reducible refine (conf_to.at x.f0 16 true HW.out _).mono ?_); rintro e w' ⟨rfl, ⟨nd, rfl⟩⟩)
            | (go_at_call 57; (with_reducible refine (conf_to.at x.f2 8 true HC.out _).mono ?_); rintro e w' ⟨rfl, ⟨nd, rfl⟩⟩))
          go_ret
          exact FIN.out _ (by repeat (first | exact HB | refine pw_below_drewN ?_ _)) _ (by rw [HW.out, HC.out, Bool.true_and, Bool.true_and]; first | rfl | exact decide_eq_decide.2 (by omega))


/-! ### conf_Time: function 49 -/
def conf_Time.f (a0 : Int) : Option (Bool) := (conf_to.f a0 1048576).bind fun t124 => (some t124)
set_option maxHeartbeats 8000000 in
set_option maxRecDepth 100000 in
theorem conf_Time.calls (a0 : Int) (r : Bool) (w : World) (h : conf_Time.f a0 = some r) :
  Calls Tryd.prog 49 #[.int .i64 a0] w fun e w' => e = .returned (.bool r) ∧ Drawn0 w w' := by
 have H : ((conf_to.f a0 1048576).bind fun t124 => (some t124)) = some r := h
 clear h
 replace H := Option.bind_eq_some_iff.mp H
 obtain ⟨t124, A20, H⟩ := H
 replace H : (some t124) = some r := H
 have A2 := Aside0.mk A20
 clear A20
 obtain rfl := Option.some.inj H
 go_enter Tryd.func49, Tryd.ntmps49
 go_wp2_with (first | ((with_reducible refine gate_callee (f := 57) rfl ?_); refine goesL_ (some 4) rfl rfl Tryd.func57 (by kernel_rfl) rfl #[.int .i64 a0, .int .i64 1048576] rfl (by (try simp only [List.map_toArray, List.map_cons, List.map_nil]); first | done | rfl | (simp only [List.length_drop, List.length_take]; rfl)) ?_; (with_reducible refine (conf_to.calls a0 1048576 t124 _ A2.out).mono ?_); rintro e w' ⟨rfl, ⟨nd, rfl⟩⟩; refine ⟨_, rfl, ?_⟩))
 go_ret
 exact ⟨by first | rfl | (simp; done) | (simp [*]; done), by repeat (first | exact Drawn0.refl _ | apply Drawn0.step)⟩

end Go.Proofs.YtnojgkiaolmoeaaDoor.PSc
end
section
/- Contracts: what calls of these functions of the program do, each as a plain function; written by a program of this session. -/
namespace Go.Proofs.YtnojgkiaolmoeaaDoor.PSc
open Go.RowKit Go.Proofs.YtnojgkiaolmoeaaDoorW.PrintWords Go.Proofs.YtnojgkiaolmoeaaDoorW.PrintLast Go.Proofs.YtnojgkiaolmoeaaDoorW.PrintMore
attribute [local go_sem] max2_int min2_int max_two min_two max_three min_three max_four min_four   -- for this text's walks alone
set_option linter.unusedVariables false
set_option linter.unusedSimpArgs false

/-! ### conf_May: function 32, by hand -/
def conf_May.f (a0_0 : Int) (l0_1 : List S63) : Option Bool := some (l0_1.all siteOk && decide (0 ≤ a0_0 ∧ a0_0 ≤ 1048576) && decide (l0_1.length ≤ 3))
theorem conf_Time.at (x : Int) (b : Bool) (hb : decide (0 ≤ x ∧ x ≤ 1048576) = b) (w : World) : Calls Tryd.prog 49 #[.int .i64 x] w fun e w' => e = .returned (.bool b) ∧ Drawn0 w w' :=
 conf_Time.calls x b w (by unfold conf_Time.f; rw [conf_to.plain, hb]; rfl)
set_option maxHeartbeats 4000000 in
set_option maxRecDepth 100000 in
theorem conf_May.calls (a0_0 : Int) (A0_1 : Option Addr) (c0_1 : Nat) (l0_1 : List S63) (r : Bool) (w : World) (hr0_1 : Kd.C k63 w A0_1 l0_1.length l0_1) (hc0_1 : l0_1.length ≤ c0_1) (h : conf_May.f a0_0 l0_1 = some r) :
  Calls Tryd.prog 32 #[.agg #[.int .i64 a0_0, .slice A0_1 l0_1.length c0_1]] w fun e w' => e = .returned (.bool r) ∧ Below w.heap.size w w' := by
 have H := Aside0.mk (Option.some.inj h)
 have hl := hr0_1.2.1
 have G := Aside0.mk hr0_1
 clear h hr0_1 hc0_1
 go_enter Tryd.func32, Tryd.ntmps32
 go_wp2_with fail
 go_loopw [3, 7] (fun _ v wr => ∃ i : Nat, v = .int .i64 i ∧ i ≤ l0_1.length ∧ Aside0 ((l0_1.take i).all siteOk = true) ∧ Below (w.heap.size + 1) (w.alloc (.cells #[.int .i64 a0_0, .slice A0_1 l0_1.length c0_1] 38)) wr) (fun _ v _ => l0_1.length - (intOf v).toNat)
 case atStart => exact ⟨0, rfl, Nat.zero_le _, ⟨rfl⟩, Below.refl _ _⟩
 case round =>
  obtain ⟨i, rfl, hi, HA, HB⟩ := hrel
  have hbw : Below w.heap.size w wr := ((Below.refl w.heap.size w).alloc (Nat.le_refl _) _).trans (HB.mono (by omega))
  have c0 : wr.cell? ⟨w.heap.size, 0, none⟩ = some (.int .i64 a0_0) := (HB.cell (p := ⟨w.heap.size, 0, none⟩) (by simp)).trans (by simp)
  have c1 : wr.cell? ⟨w.heap.size, 1, none⟩ = some (.slice A0_1 l0_1.length c0_1) := (HB.cell (p := ⟨w.heap.size, 1, none⟩) (by simp)).trans (by simp)
  by_cases hlt : i < l0_1.length
  ·obtain ⟨ad, A3, c3, e, hx0, hx1, hx2, hx3, l3, g3⟩ := at_T63 G.out (i : Int) (by omega) (by omega)
   subst e
   rw [Int.toNat_natCast] at hx0 hx1 hx2 hx3
   replace hx0 := pw_cell_below hbw hx0
   replace hx2 := pw_cell_below hbw hx2
   replace hx3 := pw_cell_below hbw hx3
   have g3' := Kd.C_below g3 hbw
   have er : rd_T63 l0_1 (i : Int) = l0_1[i] := by simp [rd_T63, hlt]
   have HS := Aside0.mk (conf_site.at (rd_T63 l0_1 (i : Int)) (ad.add (i * 4)) A3 c3)
   have HX := Aside0.mk (And.intro hx0 (And.intro hx2 (And.intro hx3 g3')))
   have HE := Aside0.mk er
   have HBW := Aside0.mk hbw
   clear er g3 g3' hx1 l3 hx0 hx2 hx3 hbw
   have hs2 : w.heap.size + 1 ≤ wr.heap.size := by have := HB.size; simpa using this
   cases hbk : siteOk (rd_T63 l0_1 i)
   ·have HK := Aside0.mk hbk
    clear hbk
    go_wp2_with (go_at_call 48; refine (HS.out _ HX.out.1 HX.out.2.1 HX.out.2.2.1 HX.out.2.2.2).mono ?_; rintro e w1 ⟨rfl, hb1⟩; rw [HK.out])
    go_ret
    have h1 := HK.out
    rw [HE.out] at h1
    have hx : l0_1.all siteOk = false := by
     rw [List.all_eq_false]
     exact ⟨l0_1[i], List.getElem_mem hlt, by rw [h1]; decide⟩
    refine ⟨ret_bool ?_, HBW.out.trans (hb1.mono (by omega))⟩
    rw [← H.out, hx]; rfl
   ·have HK := Aside0.mk hbk
    clear hbk
    go_wp2_with (go_at_call 48; refine (HS.out _ HX.out.1 HX.out.2.1 HX.out.2.2.1 HX.out.2.2.2).mono ?_; rintro e w1 ⟨rfl, hb1⟩; rw [HK.out])
    go_roundw
    case rel =>
     refine ⟨i + 1, by go_num, by omega, ⟨?_⟩, HB.trans (hb1.mono hs2)⟩
     have h1 := HK.out
     rw [HE.out] at h1
     rw [all_snoc siteOk l0_1 i hlt, HA.out, h1]; rfl
    case measure => simp [intOf]; omega
  ·have hi2 : i = l0_1.length := by omega
   have HA2 : l0_1.all siteOk = true := by have := HA.out; rw [hi2, List.take_length] at this; exact this
   clear HA hi2
   have HA3 := Aside0.mk HA2
   have HBW := Aside0.mk hbw
   clear HA2 hbw
   cases hw : decide (0 ≤ a0_0 ∧ a0_0 ≤ 1048576)
   ·have HW := Aside0.mk hw
    clear hw
    go_wp2_with (go_at_call 49; refine (conf_Time.at a0_0 false HW.out _).mono ?_; rintro e w' ⟨rfl, ⟨nd, rfl⟩⟩)
    go_ret
    exact ⟨ret_bool (by rw [← H.out, HA3.out, HW.out]; rfl), pw_below_drewN HBW.out _⟩
   ·have HW := Aside0.mk hw
    clear hw
    go_wp2_with (go_at_call 49; refine (conf_Time.at a0_0 true HW.out _).mono ?_; rintro e w' ⟨rfl, ⟨nd, rfl⟩⟩)
    go_ret
    refine ⟨ret_bool ?_, pw_below_drewN HBW.out _⟩
    rw [← H.out, HA3.out, HW.out, Bool.true_and, Bool.true_and]
    first | rfl | exact decide_eq_decide.2 (by omega)


end Go.Proofs.YtnojgkiaolmoeaaDoor.PSc
end
section
/- Contracts: what calls of these functions of the program do, each as a plain function; written by a program of this session. -/
namespace Go.Proofs.YtnojgkiaolmoeaaDoor.PSc
open Go.RowKit Go.Proofs.YtnojgkiaolmoeaaDoorW.PrintWords Go.Proofs.YtnojgkiaolmoeaaDoorW.PrintLast Go.Proofs.YtnojgkiaolmoeaaDoorW.PrintMore
attribute [local go_sem] max2_int min2_int max_two min_two max_three min_three max_four min_four   -- for this text's walks alone
set_option linter.unusedVariables false
set_option linter.unusedSimpArgs false

/-! ### script_May: function 14, by hand -/
def script_May.j0 (_ : Nat) (b4 b5 : Bool) (_ a1 a2 a3 a4 a5 : Int) (_ : Bool) (a7 : ByteArray) (a8 : Int) (l9 : List S63) : Option Bool := some (b4 && (b5 && (decide (0 ≤ a1 ∧ a1 ≤ 2) && (decide (0 ≤ a2 ∧ a2 < 256) && (decide (0 ≤ a3 ∧ a3 < 256) && (decide (0 ≤ a4 ∧ a4 < 256) && (decide (0 ≤ a5 ∧ a5 < 32) && (decide (a7.size ≤ 512) && (l9.all siteOk && decide (0 ≤ a8 ∧ a8 ≤ 1048576) && decide (l9.length ≤ 3))))))))))
/-- Is all that the kind does not name nothing? -/
def script_May.nB (a0 a1 a2 a3 a4 a5 : Int) (a6 : Bool) (a7 : ByteArray) (a8 : Int) (n : Nat) : Bool := decide ((Go.bits .or .i64 (Go.bits .or .i64 (Go.bits .or .i64 (Go.bits .or .i64 (script_named.nR a0 a1) (script_named.nS a0 a2)) (script_named.nR a0 a3)) (script_named.nT a0 a4)) (script_named.nA a0 a5)) = 0) && (!(script_named.nG a0 a6) && (decide ((script_named.nX a0 a7).toList = []) && (decide (script_named.nC a0 a8 = 0) && ((script_named.nN a0 n : Int) == 0))))
def script_May.f (k : Nat) (a0 a1 a2 a3 a4 a5 : Int) (a6 : Bool) (a7 : ByteArray) (a8 : Int) (l9 : List S63) : Option Bool := script_May.j0 k (script_named.is a0) (script_May.nB a0 a1 a2 a3 a4 a5 a6 a7 a8 l9.length) a0 a1 a2 a3 a4 a5 a6 a7 a8 l9
theorem script_May.mono : ∀ a0 a1 a2 a3 a4 a5 a6 a7 a8 a9 k, LeO (script_May.f k a0 a1 a2 a3 a4 a5 a6 a7 a8 a9) (script_May.f (k + 1) a0 a1 a2 a3 a4 a5 a6 a7 a8 a9) := fun _ _ _ _ _ _ _ _ _ _ _ => LeO.refl _
theorem script_May.in_any (x : Int) (b n : Nat) (hb : b ≤ 64) (hn : 2 ^ b = n) : ip_In.f x (b : Int) = some (decide (0 ≤ x ∧ x < (n : Int))) := by
 unfold ip_In.f
 by_cases h : x ≥ 0
 ·rw [if_pos h, if_pos (by omega)]
  have hn0 : 0 < n := by rw [← hn]; exact Nat.two_pow_pos b
  have e : shr .i64 x (b : Int) = x / (n : Int) := by
   unfold shr
   rw [Int.toNat_natCast, Nat.min_eq_left (by simpa [IntKind.bits] using hb), ← hn]
   simp
  rw [e]; congr 1
  rw [Bool.eq_iff_iff]
  simp only [beq_iff_eq, decide_eq_true_eq]
  constructor
  ·intro hz
   refine ⟨h, ?_⟩
   have := Int.lt_ediv_add_one_mul_self x (show (0 : Int) < n by omega)
   rw [hz] at this
   omega
  ·rintro ⟨_, hlt⟩
   exact Int.ediv_eq_zero_of_lt h hlt
 ·rw [if_neg h]; congr 1; simp; omega
theorem script_May.in8 (x : Int) : ip_In.f x 8 = some (decide (0 ≤ x ∧ x < 256)) := script_May.in_any x 8 256 (by decide) (by decide)

theorem script_May.inC (x : Int) (w : World) : Calls Tryd.prog 31 #[.int .i64 x, .int .i64 8] w fun e w' => e = .returned (.bool (decide (0 ≤ x ∧ x < 256))) ∧ Drawn0 w w' := ip_In.calls x 8 _ w (script_May.in8 x)
set_option maxHeartbeats 8000000 in
set_option maxRecDepth 100000 in
theorem script_May.calls (k : Nat) (a0 a1 a2 a3 a4 a5 : Int) (a6 : Bool) (a7 : ByteArray) (a8 : Int) (A : Option Addr) (c : Nat) (l9 : List S63) (r : Bool) (w : World) (hr : Kd.C k63 w A l9.length l9) (hc : l9.length ≤ c) (h : script_May.f k a0 a1 a2 a3 a4 a5 a6 a7 a8 l9 = some r) :
    Calls Tryd.prog 14 #[.agg #[.int .i64 a0, .int .i64 a1, .int .i64 a2, .int .i64 a3, .int .i64 a4, .int .i64 a5, .bool a6, .string a7, .int .i64 a8, .slice A l9.length c]] w fun e w' => e = .returned (.bool r) ∧ Below w.heap.size w w' := by
  have hu := Tryd.underlying40
  have hu2 := Tryd.underlying38
  obtain rfl : (script_named.is a0 && (script_May.nB a0 a1 a2 a3 a4 a5 a6 a7 a8 l9.length && (decide (0 ≤ a1 ∧ a1 ≤ 2) && (decide (0 ≤ a2 ∧ a2 < 256) && (decide (0 ≤ a3 ∧ a3 < 256) && (decide (0 ≤ a4 ∧ a4 < 256) && (decide (0 ≤ a5 ∧ a5 < 32) && (decide (a7.size ≤ 512) && (l9.all siteOk && decide (0 ≤ a8 ∧ a8 ≤ 1048576) && decide (l9.length ≤ 3)))))))))) = r := Option.some.inj h
  have HR := Aside0.mk hr
  have HC := Aside0.mk hc
  clear h hr hc
  go_enter Tryd.func14, Tryd.ntmps14
  go_upto_region 1 with fail
  obtain ⟨p, hp⟩ : ∃ n, n = w.heap.size := ⟨_, rfl⟩
  obtain ⟨wa, hwa⟩ : ∃ x_, x_ = w.alloc (.cells #[.int .i64 a0, .int .i64 a1, .int .i64 a2, .int .i64 a3, .int .i64 a4, .int .i64 a5, .bool a6, .string a7, .int .i64 a8, .slice A l9.length c] 40) := ⟨_, rfl⟩
  have HB := Aside0.mk (show Below w.heap.size w wa by rw [hwa]; exact below_alloc (Below.refl _ _) _)
  have HP := Aside0.mk (show wa.heap[p]? = some (.cells #[.int .i64 a0, .int .i64 a1, .int .i64 a2, .int .i64 a3, .int .i64 a4, .int .i64 a5, .bool a6, .string a7, .int .i64 a8, .slice A l9.length c] 40 (0, 0)) by rw [hwa, hp]; exact blk_new w _)
  rw [← hwa, ← hp]
  clear hwa hp
  have k0 : wa.cell? ⟨p, 0, none⟩ = some (.int .i64 a0) := (blk_cell HP.out 0).trans rfl
  have k1 : wa.cell? ⟨p, 1, none⟩ = some (.int .i64 a1) := (blk_cell HP.out 1).trans rfl
  have k2 : wa.cell? ⟨p, 2, none⟩ = some (.int .i64 a2) := (blk_cell HP.out 2).trans rfl
  have k3 : wa.cell? ⟨p, 3, none⟩ = some (.int .i64 a3) := (blk_cell HP.out 3).trans rfl
  have k4 : wa.cell? ⟨p, 4, none⟩ = some (.int .i64 a4) := (blk_cell HP.out 4).trans rfl
  have k5 : wa.cell? ⟨p, 5, none⟩ = some (.int .i64 a5) := (blk_cell HP.out 5).trans rfl
  have k6 : wa.cell? ⟨p, 6, none⟩ = some (.bool a6) := (blk_cell HP.out 6).trans rfl
  have k7 : wa.cell? ⟨p, 7, none⟩ = some (.string a7) := (blk_cell HP.out 7).trans rfl
  have k8 : wa.cell? ⟨p, 8, none⟩ = some (.int .i64 a8) := (blk_cell HP.out 8).trans rfl
  have k9 : wa.cell? ⟨p, 9, none⟩ = some (.slice A l9.length c) := (blk_cell HP.out 9).trans rfl
  go_upto_region 2 with (first | (go_at_call 30; refine (script_named.calls a0 a1 a2 a3 a4 a5 a6 a7 a8 A l9.length c _).mono ?_; rintro e w2 ⟨rfl, hb⟩; replace HB := Aside0.mk (below_step HB.out hb); replace HP := Aside0.mk ((hb.block p (blk_lt HP.out)).trans HP.out); clear hb k0 k1 k2 k3 k4 k5 k6 k7 k8 k9) | ((with_reducible refine gate_dst (N := 3) rfl ?_); refine box_event ?hg (N := 3) ?hd (cs := #[.int .i64 0, .int .i64 0, .int .i64 0, .int .i64 0, .int .i64 0, .int .i64 0, .bool false, .string ⟨#[]⟩, .int .i64 0, .slice none 0 0]) (t := 40) ?hr ?_; (case hd => rfl); (case hg => rfl); (case hr => first | (go_simp; done) | (go_simp; rfl)); intro q hg w3 hbox hb; have HW := Aside0.mk hb; have G := Aside0.mk (Nat.le_of_eq hg.symm : w2.heap.size ≤ q); have Zb := Aside0.mk hbox; clear hb hbox hg; have z0 : w3.cell? ⟨q, 0, none⟩ = some (.int .i64 0) := (blk_cell Zb.out 0).trans rfl; have y0 := blk_frozen Zb.out 0; have z1 : w3.cell? ⟨q, 1, none⟩ = some (.int .i64 0) := (blk_cell Zb.out 1).trans rfl; have y1 := blk_frozen Zb.out 1; have z2 : w3.cell? ⟨q, 2, none⟩ = some (.int .i64 0) := (blk_cell Zb.out 2).trans rfl; have y2 := blk_frozen Zb.out 2; have z3 : w3.cell? ⟨q, 3, none⟩ = some (.int .i64 0) := (blk_cell Zb.out 3).trans rfl; have y3 := blk_frozen Zb.out 3; have z4 : w3.cell? ⟨q, 4, none⟩ = some (.int .i64 0) := (blk_cell Zb.out 4).trans rfl; have y4 := blk_frozen Zb.out 4; have z5 : w3.cell? ⟨q, 5, none⟩ = some (.int .i64 0) := (blk_cell Zb.out 5).trans rfl; have y5 := blk_frozen Zb.out 5; have z6 : w3.cell? ⟨q, 6, none⟩ = some (.bool false) := (blk_cell Zb.out 6).trans rfl; have y6 := blk_frozen Zb.out 6; have z7 : w3.cell? ⟨q, 7, none⟩ = some (.string ⟨#[]⟩) := (blk_cell Zb.out 7).trans rfl; have y7 := blk_frozen Zb.out 7; have z8 : w3.cell? ⟨q, 8, none⟩ = some (.int .i64 0) := (blk_cell Zb.out 8).trans rfl; have y8 := blk_frozen Zb.out 8; have z9 : w3.cell? ⟨q, 9, none⟩ = some (.slice none 0 0) := (blk_cell Zb.out 9).trans rfl; have y9 := blk_frozen Zb.out 9; skip))
  refine script_named.hide (fun W => Below w2.heap.size w2 W ∧ W.heap[q]? = some (.cells #[.int .i64 a0, .int .i64 (script_named.nR a0 a1), .int .i64 (script_named.nS a0 a2), .int .i64 (script_named.nR a0 a3), .int .i64 (script_named.nT a0 a4), .int .i64 (script_named.nA a0 a5), .bool (script_named.nG a0 a6), .string (script_named.nX a0 a7), .int .i64 (script_named.nC a0 a8), .slice (script_named.nD a0 A) (script_named.nN a0 l9.length) (script_named.nN a0 c)] 40 (0, 0))) ⟨below10 HW.out G.out _ _ _ _ _ _ _ _ _ _, put10 Zb.out rfl _ _ _ _ _ _ _ _ _ _⟩ ?_
  intro w4 ⟨hb, hz⟩
  replace HB := Aside0.mk (below_step HB.out hb)
  replace HP := Aside0.mk ((hb.block p (blk_lt HP.out)).trans HP.out)
  have HQ := Aside0.mk hz
  clear hb hz HW G Zb z0 y0 z1 y1 z2 y2 z3 y3 z4 y4 z5 y5 z6 y6 z7 y7 z8 y8 z9 y9
  have q0 : w4.cell? ⟨q, 0, none⟩ = some (.int .i64 a0) := (blk_cell HQ.out 0).trans rfl
  have q1 : w4.cell? ⟨q, 1, none⟩ = some (.int .i64 (script_named.nR a0 a1)) := (blk_cell HQ.out 1).trans rfl
  have q2 : w4.cell? ⟨q, 2, none⟩ = some (.int .i64 (script_named.nS a0 a2)) := (blk_cell HQ.out 2).trans rfl
  have q3 : w4.cell? ⟨q, 3, none⟩ = some (.int .i64 (script_named.nR a0 a3)) := (blk_cell HQ.out 3).trans rfl
  have q4 : w4.cell? ⟨q, 4, none⟩ = some (.int .i64 (script_named.nT a0 a4)) := (blk_cell HQ.out 4).trans rfl
  have q5 : w4.cell? ⟨q, 5, none⟩ = some (.int .i64 (script_named.nA a0 a5)) := (blk_cell HQ.out 5).trans rfl
  have q6 : w4.cell? ⟨q, 6, none⟩ = some (.bool (script_named.nG a0 a6)) := (blk_cell HQ.out 6).trans rfl
  have q7 : w4.cell? ⟨q, 7, none⟩ = some (.string (script_named.nX a0 a7)) := (blk_cell HQ.out 7).trans rfl
  have q8 : w4.cell? ⟨q, 8, none⟩ = some (.int .i64 (script_named.nC a0 a8)) := (blk_cell HQ.out 8).trans rfl
  have q9 : w4.cell? ⟨q, 9, none⟩ = some (.slice (script_named.nD a0 A) (script_named.nN a0 l9.length) (script_named.nN a0 c)) := (blk_cell HQ.out 9).trans rfl
  go_cut [5] (fun v5 W => v5 = .bool (script_May.nB a0 a1 a2 a3 a4 a5 a6 a7 a8 l9.length) ∧ Aside0 (Below w4.heap.size w4 W))
  case first =>
    have HBR := Aside0.mk (Below.refl w4.heap.size w4)
    go_wp2_with fail
    all_goals go_meet
    all_goals exact ⟨by simp_all [script_May.nB], HBR⟩
  case rest =>
    obtain ⟨rfl, HB5⟩ := hcut
    clear q0 q1 q2 q3 q4 q5 q6 q7 q8 q9
    replace HP := Aside0.mk ((HB5.out.block p (blk_lt HP.out)).trans HP.out)
    replace HB := Aside0.mk (below_step HB.out HB5.out)
    obtain ⟨b5, hb5⟩ : ∃ b, b = script_May.nB a0 a1 a2 a3 a4 a5 a6 a7 a8 l9.length := ⟨_, rfl⟩
    rw [← hb5]
    have HB55 := Aside0.mk hb5
    clear hb5 HB5 HQ
    have k1 : wc.cell? ⟨p, 1, none⟩ = some (.int .i64 a1) := (blk_cell HP.out 1).trans rfl
    have HBR := Aside0.mk (Below.refl wc.heap.size wc)
    go_upto_region 3 with fail
    go_cut [6] (fun v6 W2 => v6 = .bool (decide (0 ≤ a1 ∧ a1 ≤ 2)) ∧ Aside0 (Below wc.heap.size wc W2))
    case first =>
      go_wp2_with fail
      all_goals go_meet
      all_goals exact ⟨by first | (simp_all; done) | (simp_all; omega), HBR⟩
    case rest =>
      obtain ⟨rfl, HB6⟩ := hcut
      clear k1 HBR
      replace HP := Aside0.mk ((HB6.out.block p (blk_lt HP.out)).trans HP.out)
      replace HB := Aside0.mk (below_step HB.out HB6.out)
      obtain ⟨b6, hb6⟩ : ∃ b, b = decide (0 ≤ a1 ∧ a1 ≤ 2) := ⟨_, rfl⟩
      rw [← hb6]
      have HB66 := Aside0.mk hb6
      clear hb6 HB6
      have k2 : wc.cell? ⟨p, 2, none⟩ = some (.int .i64 a2) := (blk_cell HP.out 2).trans rfl
      have k3 : wc.cell? ⟨p, 3, none⟩ = some (.int .i64 a3) := (blk_cell HP.out 3).trans rfl
      have k4 : wc.cell? ⟨p, 4, none⟩ = some (.int .i64 a4) := (blk_cell HP.out 4).trans rfl
      have k5 : wc.cell? ⟨p, 5, none⟩ = some (.int .i64 a5) := (blk_cell HP.out 5).trans rfl
      go_upto_region 4 with fail
      go_cut [7] (fun v7 W3 => v7 = .bool (decide (0 ≤ a2 ∧ a2 < 256) && (decide (0 ≤ a3 ∧ a3 < 256) && (decide (0 ≤ a4 ∧ a4 < 256) && decide (0 ≤ a5 ∧ a5 < 32)))) ∧ Aside0 (Below wc.heap.size wc W3))
      case first =>
        have HBR := Aside0.mk (Below.refl wc.heap.size wc)
        go_wp2_with (go_at_call 31; refine (script_May.inC _ _).mono ?_; rintro e w6 ⟨rfl, hd⟩; have hb := hd.below; replace HP := Aside0.mk ((hb.block p (blk_lt HP.out)).trans HP.out); replace HBR := Aside0.mk (below_step HBR.out hb); replace k2 : w6.cell? ⟨p, 2, none⟩ = some (.int .i64 a2) := (blk_cell HP.out 2).trans rfl; replace k3 : w6.cell? ⟨p, 3, none⟩ = some (.int .i64 a3) := (blk_cell HP.out 3).trans rfl; replace k4 : w6.cell? ⟨p, 4, none⟩ = some (.int .i64 a4) := (blk_cell HP.out 4).trans rfl; replace k5 : w6.cell? ⟨p, 5, none⟩ = some (.int .i64 a5) := (blk_cell HP.out 5).trans rfl; clear hb hd)
        all_goals go_meet
        all_goals exact ⟨by first | (simp_all; done) | (simp_all; omega), HBR⟩
      case rest =>
        obtain ⟨rfl, HB7⟩ := hcut
        replace HP := Aside0.mk ((HB7.out.block p (blk_lt HP.out)).trans HP.out)
        replace HB := Aside0.mk (below_step HB.out HB7.out)
        obtain ⟨b7, hb7⟩ : ∃ b, b = (decide (0 ≤ a2 ∧ a2 < 256) && (decide (0 ≤ a3 ∧ a3 < 256) && (decide (0 ≤ a4 ∧ a4 < 256) && decide (0 ≤ a5 ∧ a5 < 32)))) := ⟨_, rfl⟩
        rw [← hb7]
        have HB77 := Aside0.mk hb7
        obtain ⟨b4, hb4⟩ : ∃ b, b = script_named.is a0 := ⟨_, rfl⟩
        rw [← hb4]
        have HB44 := Aside0.mk hb4
        obtain ⟨b8, hb8⟩ : ∃ b, b = (l9.all siteOk && decide (0 ≤ a8 ∧ a8 ≤ 1048576) && decide (l9.length ≤ 3)) := ⟨_, rfl⟩
        have HCF := Aside0.mk (show conf_May.f a8 l9 = some b8 by rw [hb8]; rfl)
        have HB88 := Aside0.mk hb8
        clear hb4 hb7 hb8 HB7 k2 k3 k4 k5
        have k7 : wc.cell? ⟨p, 7, none⟩ = some (.string a7) := (blk_cell HP.out 7).trans rfl
        have k8 : wc.cell? ⟨p, 8, none⟩ = some (.int .i64 a8) := (blk_cell HP.out 8).trans rfl
        have k9 : wc.cell? ⟨p, 9, none⟩ = some (.slice A l9.length c) := (blk_cell HP.out 9).trans rfl
        have HRW := Aside0.mk (Kd.C_below HR.out HB.out)
        have KEY := Aside0.mk (show (script_named.is a0 && (script_May.nB a0 a1 a2 a3 a4 a5 a6 a7 a8 l9.length && (decide (0 ≤ a1 ∧ a1 ≤ 2) && (decide (0 ≤ a2 ∧ a2 < 256) && (decide (0 ≤ a3 ∧ a3 < 256) && (decide (0 ≤ a4 ∧ a4 < 256) && (decide (0 ≤ a5 ∧ a5 < 32) && (decide (a7.size ≤ 512) && (l9.all siteOk && decide (0 ≤ a8 ∧ a8 ≤ 1048576) && decide (l9.length ≤ 3)))))))))) = (b4 && (b5 && (b6 && (b7 && (decide (a7.size ≤ 512) && b8))))) by
          rw [HB44.out, HB55.out, HB66.out, HB77.out, HB88.out]
          simp only [Bool.and_assoc])
        go_wp2_with (go_at_call 32; refine (conf_May.calls a8 A c l9 b8 _ HRW.out HC.out HCF.out).mono ?_; rintro e w6 ⟨rfl, hb⟩; replace HB := Aside0.mk (below_step HB.out hb); clear hb)
        all_goals go_ret
        all_goals (refine ⟨congrArg (fun b => Ending.returned (Value.bool b)) (Eq.trans ?_ (KEY.out.symm.trans (by simp only [Bool.decide_and]))), HB.out⟩; clear KEY; first | (simp_all; done) | (simp_all; omega))


/-! ### strconv_small: function 63, by hand -/
-- (the shelf's contracts serve)


/-! ### strconv_log10Pow2: function 73, by hand -/
-- (the shelf's contracts serve)


end Go.Proofs.YtnojgkiaolmoeaaDoor.PSc
end
section
/- Contracts: what calls of these functions of the program do, each as a plain function; written by a program of this session. -/
namespace Go.Proofs.YtnojgkiaolmoeaaDoor.PSc
open Go.RowKit Go.Proofs.YtnojgkiaolmoeaaDoorW.PrintWords Go.Proofs.YtnojgkiaolmoeaaDoorW.PrintLast Go.Proofs.YtnojgkiaolmoeaaDoorW.PrintMore
attribute [local go_sem] max2_int min2_int max_two min_two max_three min_three max_four min_four   -- for this text's walks alone
set_option linter.unusedVariables false
set_option linter.unusedSimpArgs false

/-! ### script_Show: function 8, by hand -/
def okI (n : Int) : Bool := decide (-9223372036854775808 ≤ n) && decide (n ≤ 9223372036854775807)
theorem okI_ {n : Int} (h : okI n = true) : Pen.I64 n := by
 unfold okI at h
 simp only [Bool.and_eq_true, decide_eq_true_eq] at h
 exact h
def siteOkI (s : S63) : Bool := okI s.f0 && (okI s.f2 && (decide (s.f3.length ≤ 4) && s.f3.all fun b => okI b.f0))
def actOkI (x : S40) : Bool := okI x.f0 && (okI x.f1 && (okI x.f2 && (okI x.f3 && (okI x.f4 && (okI x.f5 && (decide (x.f7.size ≤ 512) && (okI x.f8.f0 && (decide (x.f8.f1.length ≤ 3) && x.f8.f1.all siteOkI))))))))
theorem actOkI_ {x : S40} (h : actOkI x = true) : Pen.ActI x := by
 unfold actOkI at h
 simp only [Bool.and_eq_true, decide_eq_true_eq, List.all_eq_true] at h
 obtain ⟨h0, h1, h2, h3, h4, h5, h7, h8, h9, ha⟩ := h
 refine ⟨?_, h7, okI_ h8, h9, fun s hs => ?_⟩
 ·simp only [List.mem_cons, List.not_mem_nil, or_false]
  rintro y (rfl | rfl | rfl | rfl | rfl | rfl)
  ·exact okI_ h0
  ·exact okI_ h1
  ·exact okI_ h2
  ·exact okI_ h3
  ·exact okI_ h4
  ·exact okI_ h5
 ·have h := ha s hs
  unfold siteOkI at h
  simp only [Bool.and_eq_true, decide_eq_true_eq, List.all_eq_true] at h
  exact ⟨okI_ h.1, okI_ h.2.1, h.2.2.1, fun b hb => okI_ (h.2.2.2 b hb)⟩
def showR (k : Nat) : List S40 → List UInt8 → Option (ByteArray × Int)
 | [], acc => some (⟨acc.toArray⟩, 0)
 | x :: r, acc => (script_May.f k x.f0 x.f1 x.f2 x.f3 x.f4 x.f5 x.f6 x.f7 x.f8.f0 x.f8.f1).bind fun m => if m = true then (if actOkI x = true then showR k r (acc ++ Pen.actT x) else none) else some ((⟨#[]⟩ : ByteArray), 2300)
theorem showR_mono (k : Nat) : ∀ (l : List S40) (acc : List UInt8), LeO (showR k l acc) (showR (k + 1) l acc)
 | [], acc => LeO.refl _
 | x :: r, acc => by
  unfold showR
  refine LeO.bind (script_May.mono _ _ _ _ _ _ _ _ _ _ _) (fun m => ?_)
  split
  ·split
   ·exact showR_mono k r _
   ·exact LeO.refl _
  ·exact LeO.refl _
def script_Show.f (k : Nat) (l0 : List S40) : Option (ByteArray × Int) := if l0.length > 256 then some ((⟨#[]⟩ : ByteArray), 2300) else showR k l0 []
theorem script_Show.mono : ∀ a0 k, LeO (script_Show.f k a0) (script_Show.f (k + 1) a0) := by
 intro a0 k
 unfold script_Show.f
 split
 ·exact LeO.refl _
 ·exact showR_mono _ _ _
set_option maxHeartbeats 4000000 in
set_option maxRecDepth 100000 in
theorem script_Show.calls (k : Nat) (A0 : Option Addr) (c0 : Nat) (l0 : List S40) (r1 : ByteArray) (r2 : Int) (w : World) (hr0 : Kd.C k40 w A0 l0.length l0) (hc0 : l0.length ≤ c0) (ht : Take.Laid w) (h : script_Show.f k l0 = some (r1, r2)) :
    Calls Tryd.prog 8 #[.slice A0 l0.length c0] w fun e w' => e = .returned (.tuple #[.string r1, .int .i64 r2]) ∧ Below w.heap.size w w' := by
  have hu := Tryd.underlying40
  have hu2 := Tryd.underlying55
  have HT := Aside0.mk (show Pen.TabB w.heap.size w from Lib.tabBelow_of_tabIs ht.1)
  have HC := Aside0.mk hr0
  have HH := Aside0.mk h
  clear hr0 ht h hc0
  by_cases hlen : (l0.length : Int) > 256
  · have hlb : decide ((l0.length : Int) > 256) = true := decide_eq_true hlen
    have hlb2 : decide ((256 : Int) < (l0.length : Int)) = true := decide_eq_true hlen
    obtain ⟨rfl, rfl⟩ : (⟨#[]⟩ : ByteArray) = r1 ∧ 2300 = r2 := by
      have h := HH.out
      unfold script_Show.f at h
      rw [if_pos (by omega)] at h
      simpa using h
    go_enter Tryd.func8, Tryd.ntmps8
    go_wp2_with fail
    go_ret2
    exact ⟨rfl, Below.refl _ _⟩
  · have hlb : decide ((l0.length : Int) > 256) = false := decide_eq_false hlen
    have hlb2 : decide ((256 : Int) < (l0.length : Int)) = false := decide_eq_false hlen
    have HN := Aside0.mk (show l0.length ≤ 256 by omega)
    have HR := Aside0.mk (show showR k l0 [] = some (r1, r2) by
      have h := HH.out
      unfold script_Show.f at h
      rwa [if_neg (by omega)] at h)
    clear HH hlen
    go_enter Tryd.func8, Tryd.ntmps8
    go_wp2_with fail
    have HP0 := Aside0.mk (show Pen.St w w.heap.size [] (w.alloc (.cells #[.pointer none, .slice none 0 0] Pen.T)) from ⟨Pen.fresh w, below_alloc (Below.refl _ _) _⟩)
    go_loopg [11] (l0.length + 1) (fun kq v11 w' => ∃ (i : Nat) (acc : List UInt8), v11 = .int .i64 (i : Int) ∧ Aside0 (i ≤ l0.length ∧ (kq : Int) + i = l0.length + 1) ∧ Aside0 (acc.length ≤ 1400 * i) ∧ Aside0 (Pen.St w w.heap.size acc w') ∧ Aside0 (showR k (l0.drop i) acc = some (r1, r2)))
    case atStart => exact ⟨0, [], rfl, ⟨by omega⟩, ⟨Nat.zero_le _⟩, HP0, HR⟩
    case round =>
      obtain ⟨i, acc, rfl, HX, HA, HP, HS⟩ := hrel
      cases gk with
      | zero => have := HX.out; omega
      | succ k1 =>
        by_cases c3 : (i : Int) < (l0.length : Int)
        · have c3b := decide_eq_true c3
          have p1 : (0 : Int) ≤ (i : Int) := by omega
          have p1b := decide_eq_true p1
          obtain ⟨ad, A9, c9, ea, hx0, hx1, hx2, hx3, hx4, hx5, hx6, hx7, hx8, hx9, hl9, hi9⟩ := at_T40 HC.out (i : Int) p1 c3
          cases ea
          have hlt : i < l0.length := by omega
          obtain ⟨x, hx⟩ : ∃ x, rd_T40 l0 (i : Int) = x := ⟨_, rfl⟩
          have hget : l0[i] = x := by rw [← hx]; simp [rd_T40, hlt]
          rw [hx] at hx0 hx1 hx2 hx3 hx4 hx5 hx6 hx7 hx8 hx9 hl9 hi9
          rw [Int.toNat_natCast] at hx0 hx1 hx2 hx3 hx4 hx5 hx6 hx7 hx8 hx9
          have hs := HS.out
          rw [List.drop_eq_getElem_cons hlt, hget] at hs
          unfold showR at hs
          obtain ⟨m, hm, hs⟩ := Option.bind_eq_some_iff.mp hs
          have HM := Aside0.mk hm
          have HI9 := Aside0.mk hi9
          have HL9 := Aside0.mk hl9
          have HX0 := Aside0.mk hx0
          have HX1 := Aside0.mk hx1
          have HX2 := Aside0.mk hx2
          have HX3 := Aside0.mk hx3
          have HX4 := Aside0.mk hx4
          have HX5 := Aside0.mk hx5
          have HX6 := Aside0.mk hx6
          have HX7 := Aside0.mk hx7
          have HX8 := Aside0.mk hx8
          have HX9 := Aside0.mk hx9
          replace hx0 := HP.out.cell hx0
          replace hx1 := HP.out.cell hx1
          replace hx2 := HP.out.cell hx2
          replace hx3 := HP.out.cell hx3
          replace hx4 := HP.out.cell hx4
          replace hx5 := HP.out.cell hx5
          replace hx6 := HP.out.cell hx6
          replace hx7 := HP.out.cell hx7
          replace hx8 := HP.out.cell hx8
          replace hx9 := HP.out.cell hx9
          have c3' := eq_true c3
          have p1' := eq_true p1
          clear hx hget hm hi9 hl9 hlt
          cases m
          · obtain ⟨rfl, rfl⟩ : (⟨#[]⟩ : ByteArray) = r1 ∧ 2300 = r2 := by simpa using hs
            clear hs
            go_wp2_with (go_at_call 14; refine (script_May.calls k x.f0 x.f1 x.f2 x.f3 x.f4 x.f5 x.f6 x.f7 x.f8.f0 _ _ x.f8.f1 false _ (Kd.C_below HI9.out HP.out.low) HL9.out HM.out).mono ?_; rintro e w5 ⟨rfl, hb⟩; have HS5 := Aside0.mk (HP.out.below hb); clear hb)
            go_ret2
            exact ⟨rfl, HS5.out.low⟩
          · rw [if_pos rfl] at hs
            by_cases hok : actOkI x = true
            · rw [if_pos hok] at hs
              have HOK := Aside0.mk (actOkI_ hok)
              have HS2 := Aside0.mk hs
              have HAL := Aside0.mk (show acc.length + 2000 ≤ 140737488355328 by have h1 := HA.out; have h2 := HX.out; have h3 := HN.out; omega)
              clear hs hok
              go_wp2_with (first
                | (go_at_call 14; refine (script_May.calls k x.f0 x.f1 x.f2 x.f3 x.f4 x.f5 x.f6 x.f7 x.f8.f0 _ _ x.f8.f1 true _ (Kd.C_below HI9.out HP.out.low) HL9.out HM.out).mono ?_; rintro e w5 ⟨rfl, hb⟩; have HS5 := Aside0.mk (HP.out.below hb); clear hb; clear hx0 hx1 hx2 hx3 hx4 hx5 hx6 hx7 hx8 hx9)
                | (go_at_call 20; refine (Pen.act w w.heap.size acc (ad.add (i * 10)) x A9 c9 _ HS5.out HT.out HX0.out HX1.out HX2.out HX3.out HX4.out HX5.out HX6.out HX7.out HX8.out HX9.out HI9.out HOK.out HAL.out).mono ?_; rintro e w6 ⟨rfl, h_⟩; have HS6 := Aside0.mk h_; clear h_))
              go_roundg k1
              case measure => have := HX.out; omega
              case rel =>
                have h1 := HX.out
                have h2 := HA.out
                have h3 := Pen.actT_len HOK.out
                have h4 := HN.out
                exact ⟨i + 1, _, by rw [show wrap64 ((i : Int) + 1) = ((i + 1 : Nat) : Int) by unfold wrap64; omega], ⟨by omega⟩, ⟨by rw [List.length_append]; omega⟩, HS6, HS2⟩
            · rw [if_neg hok] at hs
              cases hs
        · have c3b := decide_eq_false c3
          have hs := HS.out
          have h1 := HX.out
          rw [List.drop_of_length_le (by omega)] at hs
          obtain ⟨rfl, rfl⟩ : (⟨acc.toArray⟩ : ByteArray) = r1 ∧ 0 = r2 := by simpa [showR] using hs
          clear hs h1
          go_wp2_with (go_at_call 21; refine (Pen.string_ w.heap.size w.heap.size acc _ HP.out.pen HP.out.sz).mono ?_; rintro e w5 ⟨rfl, hb⟩; have HB5 := Aside0.mk (HP.out.low.trans hb); clear hb)
          go_ret2
          exact ⟨rfl, HB5.out⟩


end Go.Proofs.YtnojgkiaolmoeaaDoor.PSc
end
section
/- Contracts: what calls of these functions of the program do, each as a plain function; written by a program of this session. -/
namespace Go.Proofs.YtnojgkiaolmoeaaDoor.PSc
open Go.RowKit Go.Proofs.YtnojgkiaolmoeaaDoorW.PrintWords Go.Proofs.YtnojgkiaolmoeaaDoorW.PrintLast Go.Proofs.YtnojgkiaolmoeaaDoorW.PrintMore
attribute [local go_sem] max2_int min2_int max_two min_two max_three min_three max_four min_four   -- for this text's walks alone
set_option linter.unusedVariables false
set_option linter.unusedSimpArgs false

/-! ### wharfageref19_low: function 33 -/
def wharfageref19_low.f (a0 : Int) : Option (Bool) := if a0 ≥ 0 then (some (decide (a0 ≤ 255))) else (some false)
set_option maxHeartbeats 8000000 in
set_option maxRecDepth 100000 in
theorem wharfageref19_low.calls (a0 : Int) (r : Bool) (w : World) (h : wharfageref19_low.f a0 = some r) :
  Calls Tryd.prog 33 #[.int .i64 a0] w fun e w' => e = .returned (.bool r) ∧ Drawn0 w w' := by
 have H : (if a0 ≥ 0 then (some (decide (a0 ≤ 255))) else (some false)) = some r := h
 clear h
 by_cases c2 : a0 ≥ 0
 ·rw [if_pos c2] at H
  have c2b0 : decide (0 ≤ a0) = true := decide_eq_true c2
  clear c2
  obtain rfl := Option.some.inj H
  go_enter Tryd.func33, Tryd.ntmps33
  go_wp2
  go_ret
  exact ⟨by first | rfl | (simp; done) | (simp [*]; done), by repeat (first | exact Drawn0.refl _ | apply Drawn0.step)⟩
 ·rw [if_neg c2] at H
  have c2b0 : decide (0 ≤ a0) = false := decide_eq_false c2
  clear c2
  obtain rfl := Option.some.inj H
  go_enter Tryd.func33, Tryd.ntmps33
  go_wp2
  go_ret
  exact ⟨by first | rfl | (simp; done) | (simp [*]; done), by repeat (first | exact Drawn0.refl _ | apply Drawn0.step)⟩

end Go.Proofs.YtnojgkiaolmoeaaDoor.PSc
end
section
/- Contracts: what calls of these functions of the program do, each as a plain function; written by a program of this session. -/
namespace Go.Proofs.YtnojgkiaolmoeaaDoor.PSc
open Go.RowKit Go.Proofs.YtnojgkiaolmoeaaDoorW.PrintWords Go.Proofs.YtnojgkiaolmoeaaDoorW.PrintLast Go.Proofs.YtnojgkiaolmoeaaDoorW.PrintMore
attribute [local go_sem] max2_int min2_int max_two min_two max_three min_three max_four min_four   -- for this text's walks alone
set_option linter.unusedVariables false
set_option linter.unusedSimpArgs false

/-! ### wharfageref10_ConfMay: function 34 -/
mutual
def wharfageref10_ConfMay.j0 : Nat → Bool → Int → List (S63) → Option (Bool)
 | 0, _, _, _ => none
 | k + 1, x19, x145000, x145001 => if x19 = true then (some false) else (wharfageref10_ConfMay.l0 k 0 x145000 x145001)
def wharfageref10_ConfMay.l0 : Nat → Int → Int → List (S63) → Option (Bool)
 | 0, _, _, _ => none
 | k + 1, x3, x145000, x145001 => if x3 < (x145001.length : Int) then (if 0 ≤ x3 then (if ((rd_T63 x145001 x3).f0) < 0 then (wharfageref10_ConfMay.j2 k x3 true x145000 x145001 ((rd_T63 x145001 x3).f0) ((rd_T63 x145001 x3).f1) ((rd_T63 x145001 x3).f2) ((rd_T63 x145001 x3).f3)) else (if ((rd_T63 x145001 x3).f0) > 16 then (wharfageref10_ConfMay.j2 k x3 true x145000 x145001 ((rd_T63 x145001 x3).f0) ((rd_T63 x145001 x3).f1) ((rd_T63 x145001 x3).f2) ((rd_T63 x145001 x3).f3)) else (if ((rd_T63 x145001 x3).f2) < 0 then (wharfageref10_ConfMay.j2 k x3 true x145000 x145001 ((rd_T63 x145001 x3).f0) ((rd_T63 x145001 x3).f1) ((rd_T63 x145001 x3).f2) ((rd_T63 x145001 x3).f3)) else (if ((rd_T63 x145001 x3).f2) > 8 then (wharfageref10_ConfMay.j2 k x3 true x145000 x145001 ((rd_T63 x145001 x3).f0) ((rd_T63 x145001 x3).f1) ((rd_T63 x145001 x3).f2) ((rd_T63 x145001 x3).f3)) else (wharfageref10_ConfMay.j2 k x3 (decide ((((rd_T63 x145001 x3).f3).length : Int) > 4)) x145000 x145001 ((rd_T63 x145001 x3).f0) ((rd_T63 x145001 x3).f1) ((rd_T63 x145001 x3).f2) ((rd_T63 x145001 x3).f3)))))) else (none)) else (some true)
def wharfageref10_ConfMay.j2 : Nat → Int → Bool → Int → List (S63) → Int → Bool → Int → List (S65) → Option (Bool)
 | 0, _, _, _, _, _, _, _, _ => none
 | k + 1, x3, x55, x145000, x145001, x147000, x147001, x147002, x147003 => if x55 = true then (some false) else (wharfageref10_ConfMay.l1 k x3 0 x145000 x145001 x147000 x147001 x147002 x147003)
def wharfageref10_ConfMay.l1 : Nat → Int → Int → Int → List (S63) → Int → Bool → Int → List (S65) → Option (Bool)
 | 0, _, _, _, _, _, _, _, _ => none
 | k + 1, x3, x5, x145000, x145001, x147000, x147001, x147002, x147003 => if x5 < (x147003.length : Int) then (if 0 ≤ x5 then (if ((rd_T65 x147003 x5).f0) < 0 then (some false) else (if ((rd_T65 x147003 x5).f0) > 16 then (some false) else (wharfageref10_ConfMay.l1 k x3 (wrap64 (x5 + 1)) x145000 x145001 x147000 x147001 x147002 x147003))) else (none)) else (wharfageref10_ConfMay.l0 k (wrap64 (x3 + 1)) x145000 x145001)
end
def wharfageref10_ConfMay.f (k : Nat) (a0_0 : Int) (l0_1 : List (S63)) : Option (Bool) := if a0_0 < 0 then (wharfageref10_ConfMay.j0 k true a0_0 l0_1) else (if a0_0 > 1048576 then (wharfageref10_ConfMay.j0 k true a0_0 l0_1) else (wharfageref10_ConfMay.j0 k (decide ((l0_1.length : Int) > 3)) a0_0 l0_1))
theorem wharfageref10_ConfMay.mono_l : ∀ k, (∀ y0 y1 y2, LeO (wharfageref10_ConfMay.j0 k y0 y1 y2) (wharfageref10_ConfMay.j0 (k + 1) y0 y1 y2)) ∧ (∀ y0 y1 y2, LeO (wharfageref10_ConfMay.l0 k y0 y1 y2) (wharfageref10_ConfMay.l0 (k + 1) y0 y1 y2)) ∧ (∀ y0 y1 y2 y3 y4 y5 y6 y7, LeO (wharfageref10_ConfMay.j2 k y0 y1 y2 y3 y4 y5 y6 y7) (wharfageref10_ConfMay.j2 (k + 1) y0 y1 y2 y3 y4 y5 y6 y7)) ∧ (∀ y0 y1 y2 y3 y4 y5 y6 y7, LeO (wharfageref10_ConfMay.l1 k y0 y1 y2 y3 y4 y5 y6 y7) (wharfageref10_ConfMay.l1 (k + 1) y0 y1 y2 y3 y4 y5 y6 y7))
 | 0 => ⟨fun _ _ _ r h => by simp [wharfageref10_ConfMay.j0] at h, fun _ _ _ r h => by simp [wharfageref10_ConfMay.l0] at h, fun _ _ _ _ _ _ _ _ r h => by simp [wharfageref10_ConfMay.j2] at h, fun _ _ _ _ _ _ _ _ r h => by simp [wharfageref10_ConfMay.l1] at h⟩
 | k + 1 => by
  obtain ⟨ih0, ih1, ih2, ih3⟩ := wharfageref10_ConfMay.mono_l k
  refine ⟨?_, ?_, ?_, ?_⟩
  ·intro y0 y1 y2
   unfold wharfageref10_ConfMay.j0
   repeat' first
   | (with_reducible exact ih0 _ _ _)
   | (with_reducible exact ih1 _ _ _)
   | (with_reducible exact ih2 _ _ _ _ _ _ _ _)
   | (with_reducible exact ih3 _ _ _ _ _ _ _ _)
   | (with_reducible exact LeO.refl _)
   | (with_reducible exact LeO.none _)
   | (with_reducible refine LeO.ite ?_ ?_)
   | (with_reducible refine LeO.bind ?_ (fun _ => ?_))
   | exact ih0 _ _ _
   | exact ih1 _ _ _
   | exact ih2 _ _ _ _ _ _ _ _
   | exact ih3 _ _ _ _ _ _ _ _
   | exact LeO.none _
   | refine LeO.ite ?_ ?_
   | refine LeO.bind ?_ (fun _ => ?_)
  ·intro y0 y1 y2
   unfold wharfageref10_ConfMay.l0
   repeat' first
   | (with_reducible exact ih0 _ _ _)
   | (with_reducible exact ih1 _ _ _)
   | (with_reducible exact ih2 _ _ _ _ _ _ _ _)
   | (with_reducible exact ih3 _ _ _ _ _ _ _ _)
   | (with_reducible exact LeO.refl _)
   | (with_reducible exact LeO.none _)
   | (with_reducible refine LeO.ite ?_ ?_)
   | (with_reducible refine LeO.bind ?_ (fun _ => ?_))
   | exact ih0 _ _ _
   | exact ih1 _ _ _
   | exact ih2 _ _ _ _ _ _ _ _
   | exact ih3 _ _ _ _ _ _ _ _
   | exact LeO.none _
   | refine LeO.ite ?_ ?_
   | refine LeO.bind ?_ (fun _ => ?_)
  ·intro y0 y1 y2 y3 y4 y5 y6 y7
   unfold wharfageref10_ConfMay.j2
   repeat' first
   | (with_reducible exact ih0 _ _ _)
   | (with_reducible exact ih1 _ _ _)
   | (with_reducible exact ih2 _ _ _ _ _ _ _ _)
   | (with_reducible exact ih3 _ _ _ _ _ _ _ _)
   | (with_reducible exact LeO.refl _)
   | (with_reducible exact LeO.none _)
   | (with_reducible refine LeO.ite ?_ ?_)
   | (with_reducible refine LeO.bind ?_ (fun _ => ?_))
   | exact ih0 _ _ _
   | exact ih1 _ _ _
   | exact ih2 _ _ _ _ _ _ _ _
   | exact ih3 _ _ _ _ _ _ _ _
   | exact LeO.none _
   | refine LeO.ite ?_ ?_
   | refine LeO.bind ?_ (fun _ => ?_)
  ·intro y0 y1 y2 y3 y4 y5 y6 y7
   unfold wharfageref10_ConfMay.l1
   repeat' first
   | (with_reducible exact ih0 _ _ _)
   | (with_reducible exact ih1 _ _ _)
   | (with_reducible exact ih2 _ _ _ _ _ _ _ _)
   | (with_reducible exact ih3 _ _ _ _ _ _ _ _)
   | (with_reducible exact LeO.refl _)
   | (with_reducible exact LeO.none _)
   | (with_reducible refine LeO.ite ?_ ?_)
   | (with_reducible refine LeO.bind ?_ (fun _ => ?_))
   | exact ih0 _ _ _
   | exact ih1 _ _ _
   | exact ih2 _ _ _ _ _ _ _ _
   | exact ih3 _ _ _ _ _ _ _ _
   | exact LeO.none _
   | refine LeO.ite ?_ ?_
   | refine LeO.bind ?_ (fun _ => ?_)
theorem wharfageref10_ConfMay.mono : ∀ a0 a1 k, LeO (wharfageref10_ConfMay.f k a0 a1) (wharfageref10_ConfMay.f (k + 1) a0 a1) := by
 intro a0 a1 k
 obtain ⟨ih0, ih1, ih2, ih3⟩ := wharfageref10_ConfMay.mono_l k
 unfold wharfageref10_ConfMay.f
 repeat' first
   | (with_reducible exact ih0 _ _ _)
   | (with_reducible exact ih1 _ _ _)
   | (with_reducible exact ih2 _ _ _ _ _ _ _ _)
   | (with_reducible exact ih3 _ _ _ _ _ _ _ _)
   | (with_reducible exact LeO.refl _)
   | (with_reducible exact LeO.none _)
   | (with_reducible refine LeO.ite ?_ ?_)
   | (with_reducible refine LeO.bind ?_ (fun _ => ?_))
   | exact ih0 _ _ _
   | exact ih1 _ _ _
   | exact ih2 _ _ _ _ _ _ _ _
   | exact ih3 _ _ _ _ _ _ _ _
   | exact LeO.none _
   | refine LeO.ite ?_ ?_
   | refine LeO.bind ?_ (fun _ => ?_)
set_option maxHeartbeats 8000000 in
set_option maxRecDepth 100000 in
theorem wharfageref10_ConfMay.calls (k : Nat) (a0_0 : Int) (A0_1 : Option Addr) (c0_1 : Nat) (l0_1 : List (S63)) (r : Bool) (w : World) (hr0_1 : Kd.C k63 w A0_1 l0_1.length l0_1) (hc0_1 : l0_1.length ≤ c0_1) (h : wharfageref10_ConfMay.f k a0_0 l0_1 = some r) :
  Calls Tryd.prog 34 #[.agg #[.int .i64 a0_0, .slice A0_1 l0_1.length c0_1]] w fun e w' => e = .returned (.bool r) ∧ Below w.heap.size w w' := by
 have hu38 := Tryd.underlying38
 have hu63 := Tryd.underlying63
 have HR0_1 := Aside0.mk hr0_1
 have HC0_1 := Aside0.mk hc0_1
 clear hr0_1 hc0_1
 have HB := Aside0.mk (Below.refl w.heap.size w)
 have H : (if a0_0 < 0 then (wharfageref10_ConfMay.j0 k true a0_0 l0_1) else (if a0_0 > 1048576 then (wharfageref10_ConfMay.j0 k true a0_0 l0_1) else (wharfageref10_ConfMay.j0 k (decide ((l0_1.length : Int) > 3)) a0_0 l0_1))) = some r := h
 clear h
 have HC2 := Aside0.mk H
 clear H
 go_enter Tryd.func34, Tryd.ntmps34
 go_upto_region 1 with (first | ((with_reducible refine gate_dst (N := 1) rfl ?_); (try (refine gate_guard (by rfl) ?_; dsimp only)); refine box_event ?hg (N := 1) ?hd (cs := #[.int .i64 a0_0, .slice A0_1 l0_1.length c0_1]) (t := 38) ?hr ?_; (case hd => rfl); (case hg => rfl); (case hr => first | (go_simp; done) | (go_simp; rfl)); intro g1 hg w3 hbox hb; have n0_ := Aside0.mk (below_step (by repeat (first | (with_reducible first | exact HB.out | apply below_alloc | apply pw_below_drewN | apply below_drew1) | exact HB.out)) hb); have n1_ := Aside0.mk (hbox); have n2_ := Aside0.mk ((by rw [hg]; exact (below_size (by repeat (first | (with_reducible first | exact HB.out | apply below_alloc | apply pw_below_drewN | apply below_drew1) | exact HB.out))) : w.heap.size ≤ g1)); have n3_ := Aside0.mk ((by rw [hg]; exact (below_size (by repeat (first | (with_reducible first | exact HB.out | apply below_alloc | apply pw_below_drewN | apply below_drew1) | exact HB.out))) : w.heap.size ≤ g1)); clear HB; have HB := n0_; have K1 := n1_; have G0 := n2_; have E0 := n3_; clear n0_ n1_ n2_ n3_; clear hb hbox hg))
 (try simp only [Act.put, List.setIfInBounds_toArray, List.set_cons_zero, List.set_cons_succ])
 go_cut [19] (fun v19 wc => ∃ (kq : Nat) (x19_1 : Bool), v19 = .bool x19_1 ∧ Aside0 (wharfageref10_ConfMay.j0 kq x19_1 a0_0 l0_1 = some r) ∧ Aside0 (kq ≤ k) ∧ Aside0 (wc.heap[g1]? = some (.cells #[.int .i64 a0_0, (.slice A0_1 l0_1.length c0_1)] 38 (0, 0))) ∧ Aside0 (Below w.heap.size w wc))
 case first =>
  have H := HC2.out
  clear HC2
  by_cases c4 : a0_0 < 0
  ·rw [if_pos c4] at H
   have c4b0 : decide (a0_0 < 0) = true := decide_eq_true c4
   clear c4
   (first | rw [c4b0] | (simp only [i64_w, i32_w]; rw [c4b0]) | skip)
   have H' := Aside0.mk H
   clear H
   have hcz5_0 : w3.cell? ⟨g1, 0, none⟩ = some (.int .i64 a0_0) := (blk_cell K1.out 0).trans rfl
   have hcz5_1 : w3.cell? ⟨g1, 1, none⟩ = some (.slice A0_1 l0_1.length c0_1) := (blk_cell K1.out 1).trans rfl
   have hfz5_0 := blk_frozen K1.out 0
   have hfz5_1 := blk_frozen K1.out 1
   go_wp2
   go_meet
   case rel => exact ⟨_, (true), (by first | rfl | (simp; done) | (simp [*]; done)), H', ⟨by first | omega | exact Nat.le_refl _⟩, ⟨by (with_reducible repeat (first | refine blk_drewN ?_ _ | refine blk_drew ?_ | refine blk_alloc ?_ _)); exact K1.out⟩, ⟨by repeat (first | (with_reducible first | exact HB.out | apply below_alloc | apply pw_below_drewN | apply below_drew1 | refine below_set ?_ E0.out) | exact HB.out)⟩⟩
  ·rw [if_neg c4] at H
   have c4b0 : decide (a0_0 < 0) = false := decide_eq_false c4
   clear c4
   (first | rw [c4b0] | (simp only [i64_w, i32_w]; rw [c4b0]) | skip)
   by_cases c6 : a0_0 > 1048576
   ·rw [if_pos c6] at H
    have c6b0 : decide (1048576 < a0_0) = true := decide_eq_true c6
    clear c6
    have H' := Aside0.mk H
    clear H
    have hcz7_0 : w3.cell? ⟨g1, 0, none⟩ = some (.int .i64 a0_0) := (blk_cell K1.out 0).trans rfl
    have hcz7_1 : w3.cell? ⟨g1, 1, none⟩ = some (.slice A0_1 l0_1.length c0_1) := (blk_cell K1.out 1).trans rfl
    have hfz7_0 := blk_frozen K1.out 0
    have hfz7_1 := blk_frozen K1.out 1
    go_wp2
    go_meet
    case rel => exact ⟨_, (true), (by first | rfl | (simp; done) | (simp [*]; done)), H', ⟨by first | omega | exact Nat.le_refl _⟩, ⟨by (with_reducible repeat (first | refine blk_drewN ?_ _ | refine blk_drew ?_ | refine blk_alloc ?_ _)); exact K1.out⟩, ⟨by repeat (first | (with_reducible first | exact HB.out | apply below_alloc | apply pw_below_drewN | apply below_drew1 | refine below_set ?_ E0.out) | exact HB.out)⟩⟩
   ·rw [if_neg c6] at H
    have c6b0 : decide (1048576 < a0_0) = false := decide_eq_false c6
    clear c6
    have H' := Aside0.mk H
    clear H
    have hcz8_0 : w3.cell? ⟨g1, 0, none⟩ = some (.int .i64 a0_0) := (blk_cell K1.out 0).trans rfl
    have hcz8_1 : w3.cell? ⟨g1, 1, none⟩ = some (.slice A0_1 l0_1.length c0_1) := (blk_cell K1.out 1).trans rfl
    have hfz8_0 := blk_frozen K1.out 0
    have hfz8_1 := blk_frozen K1.out 1
    go_wp2
    go_meet
    case rel => exact ⟨_, (decide ((l0_1.length : Int) > 3)), (by first | rfl | (simp; done) | (simp [*]; done)), H', ⟨by first | omega | exact Nat.le_refl _⟩, ⟨by (with_reducible repeat (first | refine blk_drewN ?_ _ | refine blk_drew ?_ | refine blk_alloc ?_ _)); exact K1.out⟩, ⟨by repeat (first | (with_reducible first | exact HB.out | apply below_alloc | apply pw_below_drewN | apply below_drew1 | refine below_set ?_ E0.out) | exact HB.out)⟩⟩
 case rest =>
  clear HC2
  try clear p2
  try clear c3
  try clear c4
  try clear c4b0
  try clear c6
  try clear c6b0
  try clear hcz5_0
  try clear hcz5_1
  try clear hcz7_0
  try clear hcz7_1
  try clear hcz8_0
  try clear hcz8_1
  try clear hfz5_0
  try clear hfz5_1
  try clear hfz7_0
  try clear hfz7_1
  try clear hfz8_0
  try clear hfz8_1
  obtain ⟨kq, x19_1, rfl, HA, HJ1, K1, HB⟩ := hcut
  cases kq with
  | zero => exact absurd HA.out (by simp [wharfageref10_ConfMay.j0])
  | succ kj1 =>
   have H := HA.out
   clear HA
   simp only [wharfageref10_ConfMay.j0] at H
   by_cases c9 : x19_1 = true
   ·subst c9
    have H1 : (some false) = some r := by rw [if_pos rfl] at H; exact H
    clear H
    have H := H1
    clear H1
    obtain rfl := Option.some.inj H
    go_wp2
    go_ret
    exact ⟨by first | rfl | (simp [errW_none, errW_some] <;> rfl) | (simp [*, errW_none, errW_some] <;> rfl), by repeat (first | (with_reducible first | exact HB.out | apply below_alloc | apply pw_below_drewN | apply below_drew1 | refine below_set ?_ E0.out) | exact HB.out)⟩
   ·replace c9 := Bool.eq_false_iff.mpr c9
    subst c9
    have H1 : (wharfageref10_ConfMay.l0 kj1 0 a0_0 l0_1) = some r := by rw [if_neg (show ¬ (false = true) by decide)] at H; exact H
    clear H
    have H := H1
    clear H1
    have H' := Aside0.mk H
    clear H
    go_wp2
    go_loopg [3] kj1 (fun kq v3 w' => ∃ (x3_2 : Int), v3 = .int .i64 x3_2 ∧ Aside0 (wharfageref10_ConfMay.l0 kq x3_2 a0_0 l0_1 = some r) ∧ Aside0 (kq ≤ kj1) ∧ Aside0 (w'.heap[g1]? = some (.cells #[.int .i64 a0_0, (.slice A0_1 l0_1.length c0_1)] 38 (0, 0))) ∧ Aside0 (Below w.heap.size w w'))
    case atStart => exact ⟨(0), (by first | rfl | (simp; done) | (simp [*]; done)), H', ⟨Nat.le_refl _⟩, ⟨by (with_reducible repeat (first | refine blk_drewN ?_ _ | refine blk_drew ?_ | refine blk_alloc ?_ _)); exact K1.out⟩, ⟨by repeat (first | (with_reducible first | exact HB.out | apply below_alloc | apply pw_below_drewN | apply below_drew1 | refine below_set ?_ E0.out) | exact HB.out)⟩⟩
    case round =>
     clear H'
     try clear p2
     try clear c3
     try clear c4
     try clear c4b0
     try clear c6
     try clear c6b0
     try clear c9
     try clear hcz5_0
     try clear hcz5_1
     try clear hcz7_0
     try clear hcz7_1
     try clear hcz8_0
     try clear hcz8_1
     try clear hfz5_0
     try clear hfz5_1
     try clear hfz7_0
     try clear hfz7_1
     try clear hfz8_0
     try clear hfz8_1
     try clear p2
     obtain ⟨x3_2, rfl, HA, HK2, K1, HB⟩ := hrel
     cases gk with
     | zero => exact absurd HA.out (by simp [wharfageref10_ConfMay.l0])
     | succ k2 =>
      have H := HA.out
      clear HA
      simp only [wharfageref10_ConfMay.l0] at H
      by_cases c10 : x3_2 < (l0_1.length : Int)
      ·rw [if_pos c10] at H
       have c10b0 : decide (x3_2 < (l0_1.length : Int)) = true := decide_eq_true c10
       clear c10
       by_cases c11 : 0 ≤ x3_2
       ·rw [if_pos c11] at H
        have c11b0 : decide (0 ≤ x3_2) = true := decide_eq_true c11
        clear c11
        have HC12 := Aside0.mk H
        clear H
        have hcz13_0 : wr.cell? ⟨g1, 0, none⟩ = some (.int .i64 a0_0) := (blk_cell K1.out 0).trans rfl
        have hcz13_1 : wr.cell? ⟨g1, 1, none⟩ = some (.slice A0_1 l0_1.length c0_1) := (blk_cell K1.out 1).trans rfl
        have hfz13_0 := blk_frozen K1.out 0
        have hfz13_1 := blk_frozen K1.out 1
        have p145 : 0 ≤ (x3_2 : Int) := of_decide_eq_true (by first | (with_reducible assumption) | assumption)
        have q145 : x3_2 < (l0_1.length : Int) := of_decide_eq_true (by first | (with_reducible assumption) | assumption)
        obtain ⟨ad145, A145_3, c145_3, e145, hx145_0, hx145_1, hx145_2, hx145_3, hl145_3, hi145_3⟩ := at_T63 HR0_1.out x3_2 p145 q145
        cases e145
        replace hx145_0 := (HB.out.cell (World.block_lt_of_cell? w _ hx145_0)).trans hx145_0
        replace hx145_1 := (HB.out.cell (World.block_lt_of_cell? w _ hx145_1)).trans hx145_1
        replace hx145_2 := (HB.out.cell (World.block_lt_of_cell? w _ hx145_2)).trans hx145_2
        replace hx145_3 := (HB.out.cell (World.block_lt_of_cell? w _ hx145_3)).trans hx145_3
        have HR145_3 := Aside0.mk hi145_3
        have HC145_3 := Aside0.mk hl145_3
        clear hi145_3 hl145_3
        replace p145 := eq_true p145
        replace q145 := eq_true q145
        go_upto_region 7 with (first | ((with_reducible refine gate_dst (N := 4) rfl ?_); (try (refine gate_guard (by rfl) ?_; dsimp only)); refine box_event ?hg (N := 4) ?hd (cs := #[.int .i64 0, .bool false, .int .i64 0, .slice none 0 0]) (t := 63) ?hr ?_; (case hd => rfl); (case hg => rfl); (case hr => first | (go_simp; done) | (go_simp; rfl)); intro g0 hg w14 hbox hb; have n0_ := Aside0.mk (blk_below (g := g1) (o := .cells #[.int .i64 a0_0, .slice (some ad145) l0_1.length c0_1] 38 (0, 0)) (by (with_reducible repeat (first | refine blk_drewN ?_ _ | refine blk_drew ?_ | refine blk_alloc ?_ _)); exact K1.out) hb); have n1_ := Aside0.mk (below_step (by repeat (first | (with_reducible first | exact HB.out | apply below_alloc | apply pw_below_drewN | apply below_drew1 | refine below_set ?_ E0.out) | exact HB.out)) hb); have n2_ := Aside0.mk (hbox); have n3_ := Aside0.mk ((by rw [hg]; exact (below_size (by repeat (first | (with_reducible first | exact HB.out | apply below_alloc | apply pw_below_drewN | apply below_drew1 | refine below_set ?_ E0.out) | exact HB.out))) : w.heap.size ≤ g0)); have n4_ := Aside0.mk ((by rw [hg]; exact (below_size (by repeat (first | (with_reducible first | exact HB.out | apply below_alloc | apply pw_below_drewN | apply below_drew1 | refine below_set ?_ E0.out) | exact HB.out))) : w.heap.size ≤ g0)); have n5_ := Aside0.mk ((by rw [hg]; exact Nat.ne_of_lt (blk_lt (g := g1) (o := .cells #[.int .i64 a0_0, .slice (some ad145) l0_1.length c0_1] 38 (0, 0)) (by (with_reducible repeat (first | refine blk_drewN ?_ _ | refine blk_drew ?_ | refine blk_alloc ?_ _)); exact K1.out)) : g1 ≠ g0)); have n6_ := Aside0.mk ((by rw [hg]; exact Nat.ne_of_gt (blk_lt (g := g1) (o := .cells #[.int .i64 a0_0, .slice (some ad145) l0_1.length c0_1] 38 (0, 0)) (by (with_reducible repeat (first | refine blk_drewN ?_ _ | refine blk_drew ?_ | refine blk_alloc ?_ _)); exact K1.out)) : g0 ≠ g1)); clear K1; clear HB; have K1 := n0_; have HB := n1_; have K0 := n2_; have G1 := n3_; have E1 := n4_; have N0 := n5_; have N1 := n6_; clear n0_ n1_ n2_ n3_ n4_ n5_ n6_; clear hb hbox hg; have hnb15 := N1.out; have hnc15 := N0.out; have hcz16_0 : w14.cell? ⟨g0, 0, none⟩ = some (.int .i64 0) := (blk_cell K0.out 0).trans rfl; have hcz16_1 : w14.cell? ⟨g0, 1, none⟩ = some (.bool false) := (blk_cell K0.out 1).trans rfl; have hcz16_2 : w14.cell? ⟨g0, 2, none⟩ = some (.int .i64 0) := (blk_cell K0.out 2).trans rfl; have hcz16_3 : w14.cell? ⟨g0, 3, none⟩ = some (.slice none 0 0) := (blk_cell K0.out 3).trans rfl; have hfz16_0 := blk_frozen K0.out 0; have hfz16_1 := blk_frozen K0.out 1; have hfz16_2 := blk_frozen K0.out 2; have hfz16_3 := blk_frozen K0.out 3))
        (try simp only [Act.put, List.setIfInBounds_toArray, List.set_cons_zero, List.set_cons_succ])
        go_cut [55] (fun v55 wc => ∃ (kq : Nat) (x55_11 : Bool), v55 = .bool x55_11 ∧ Aside0 (wharfageref10_ConfMay.j2 kq x3_2 x55_11 a0_0 l0_1 ((rd_T63 l0_1 x3_2).f0) ((rd_T63 l0_1 x3_2).f1) ((rd_T63 l0_1 x3_2).f2) ((rd_T63 l0_1 x3_2).f3) = some r) ∧ Aside0 (kq ≤ k2) ∧ Aside0 (wc.heap[g1]? = some (.cells #[.int .i64 a0_0, (.slice (some ad145) l0_1.length c0_1)] 38 (0, 0))) ∧ Aside0 (wc.heap[g0]? = some (.cells #[.int .i64 ((rd_T63 l0_1 x3_2).f0), .bool ((rd_T63 l0_1 x3_2).f1), .int .i64 ((rd_T63 l0_1 x3_2).f2), (.slice A145_3 ((rd_T63 l0_1 x3_2).f3).length c145_3)] 63 (0, 0))) ∧ Aside0 (Below w.heap.size w wc))
        case first =>
         have H := HC12.out
         clear HC12
         by_cases c17 : ((rd_T63 l0_1 x3_2).f0) < 0
         ·rw [if_pos c17] at H
          have c17b0 : decide (((rd_T63 l0_1 x3_2).f0) < 0) = true := decide_eq_true c17
          clear c17
          (first | rw [c17b0] | (simp only [i64_w, i32_w]; rw [c17b0]) | skip)
          have H' := Aside0.mk H
          clear H
          have hnb18 := N1.out
          have hnc18 := N0.out
          have hcz19_0 : w14.cell? ⟨g0, 0, none⟩ = some (.int .i64 0) := (blk_cell K0.out 0).trans rfl
          have hcz19_1 : w14.cell? ⟨g0, 1, none⟩ = some (.bool false) := (blk_cell K0.out 1).trans rfl
          have hcz19_2 : w14.cell? ⟨g0, 2, none⟩ = some (.int .i64 0) := (blk_cell K0.out 2).trans rfl
          have hcz19_3 : w14.cell? ⟨g0, 3, none⟩ = some (.slice none 0 0) := (blk_cell K0.out 3).trans rfl
          have hfz19_0 := blk_frozen K0.out 0
          have hfz19_1 := blk_frozen K0.out 1
          have hfz19_2 := blk_frozen K0.out 2
          have hfz19_3 := blk_frozen K0.out 3
          go_wp2
          go_meet
          case rel => exact ⟨_, (true), (by first | rfl | (simp; done) | (simp [*]; done)), H', ⟨by have := HJ1.out; have := HK2.out; first | omega | exact Nat.le_refl _⟩, ⟨by (with_reducible repeat (first | refine blk_drewN ?_ _ | refine blk_drew ?_ | refine blk_alloc ?_ _)); refine blk_far ?_ N0.out _; (with_reducible repeat (first | refine blk_drewN ?_ _ | refine blk_drew ?_ | refine blk_alloc ?_ _)); refine blk_far ?_ N0.out _; (with_reducible repeat (first | refine blk_drewN ?_ _ | refine blk_drew ?_ | refine blk_alloc ?_ _)); refine blk_far ?_ N0.out _; (with_reducible repeat (first | refine blk_drewN ?_ _ | refine blk_drew ?_ | refine blk_alloc ?_ _)); refine blk_far ?_ N0.out _; (with_reducible repeat (first | refine blk_drewN ?_ _ | refine blk_drew ?_ | refine blk_alloc ?_ _)); exact K1.out⟩, ⟨by (with_reducible repeat (first | refine blk_drewN ?_ _ | refine blk_drew ?_ | refine blk_alloc ?_ _)); refine blk_put (cs := #[.int .i64 ((rd_T63 l0_1 x3_2).f0), .bool ((rd_T63 l0_1 x3_2).f1), .int .i64 ((rd_T63 l0_1 x3_2).f2), .slice none 0 0]) ?_ 3 _ rfl; (with_reducible repeat (first | refine blk_drewN ?_ _ | refine blk_drew ?_ | refine blk_alloc ?_ _)); refine blk_put (cs := #[.int .i64 ((rd_T63 l0_1 x3_2).f0), .bool ((rd_T63 l0_1 x3_2).f1), .int .i64 0, .slice none 0 0]) ?_ 2 _ rfl; (with_reducible repeat (first | refine blk_drewN ?_ _ | refine blk_drew ?_ | refine blk_alloc ?_ _)); refine blk_put (cs := #[.int .i64 ((rd_T63 l0_1 x3_2).f0), .bool false, .int .i64 0, .slice none 0 0]) ?_ 1 _ rfl; (with_reducible repeat (first | refine blk_drewN ?_ _ | refine blk_drew ?_ | refine blk_alloc ?_ _)); refine blk_put (cs := #[.int .i64 0, .bool false, .int .i64 0, .slice none 0 0]) ?_ 0 _ rfl; (with_reducible repeat (first | refine blk_drewN ?_ _ | refine blk_drew ?_ | refine blk_alloc ?_ _)); exact K0.out⟩, ⟨by repeat (first | (with_reducible first | exact HB.out | apply below_alloc | apply pw_below_drewN | apply below_drew1 | refine below_set ?_ E0.out | refine below_set ?_ E1.out) | exact HB.out)⟩⟩
         ·rw [if_neg c17] at H
          have c17b0 : decide (((rd_T63 l0_1 x3_2).f0) < 0) = false := decide_eq_false c17
          clear c17
          (first | rw [c17b0] | (simp only [i64_w, i32_w]; rw [c17b0]) | skip)
          by_cases c20 : ((rd_T63 l0_1 x3_2).f0) > 16
          ·rw [if_pos c20] at H
           have c20b0 : decide (16 < ((rd_T63 l0_1 x3_2).f0)) = true := decide_eq_true c20
           clear c20
           have H' := Aside0.mk H
           clear H
           have hnb21 := N1.out
           have hnc21 := N0.out
           have hcz22_0 : w14.cell? ⟨g0, 0, none⟩ = some (.int .i64 0) := (blk_cell K0.out 0).trans rfl
           have hcz22_1 : w14.cell? ⟨g0, 1, none⟩ = some (.bool false) := (blk_cell K0.out 1).trans rfl
           have hcz22_2 : w14.cell? ⟨g0, 2, none⟩ = some (.int .i64 0) := (blk_cell K0.out 2).trans rfl
           have hcz22_3 : w14.cell? ⟨g0, 3, none⟩ = some (.slice none 0 0) := (blk_cell K0.out 3).trans rfl
           have hfz22_0 := blk_frozen K0.out 0
           have hfz22_1 := blk_frozen K0.out 1
           have hfz22_2 := blk_frozen K0.out 2
           have hfz22_3 := blk_frozen K0.out 3
           go_wp2
           go_meet
           case rel => exact ⟨_, (true), (by first | rfl | (simp; done) | (simp [*]; done)), H', ⟨by have := HJ1.out; have := HK2.out; first | omega | exact Nat.le_refl _⟩, ⟨by (with_reducible repeat (first | refine blk_drewN ?_ _ | refine blk_drew ?_ | refine blk_alloc ?_ _)); refine blk_far ?_ N0.out _; (with_reducible repeat (first | refine blk_drewN ?_ _ | refine blk_drew ?_ | refine blk_alloc ?_ _)); refine blk_far ?_ N0.out _; (with_reducible repeat (first | refine blk_drewN ?_ _ | refine blk_drew ?_ | refine blk_alloc ?_ _)); refine blk_far ?_ N0.out _; (with_reducible repeat (first | refine blk_drewN ?_ _ | refine blk_drew ?_ | refine blk_alloc ?_ _)); refine blk_far ?_ N0.out _; (with_reducible repeat (first | refine blk_drewN ?_ _ | refine blk_drew ?_ | refine blk_alloc ?_ _)); exact K1.out⟩, ⟨by (with_reducible repeat (first | refine blk_drewN ?_ _ | refine blk_drew ?_ | refine blk_alloc ?_ _)); refine blk_put (cs := #[.int .i64 ((rd_T63 l0_1 x3_2).f0), .bool ((rd_T63 l0_1 x3_2).f1), .int .i64 ((rd_T63 l0_1 x3_2).f2), .slice none 0 0]) ?_ 3 _ rfl; (with_reducible repeat (first | refine blk_drewN ?_ _ | refine blk_drew ?_ | refine blk_alloc ?_ _)); refine blk_put (cs := #[.int .i64 ((rd_T63 l0_1 x3_2).f0), .bool ((rd_T63 l0_1 x3_2).f1), .int .i64 0, .slice none 0 0]) ?_ 2 _ rfl; (with_reducible repeat (first | refine blk_drewN ?_ _ | refine blk_drew ?_ | refine blk_alloc ?_ _)); refine blk_put (cs := #[.int .i64 ((rd_T63 l0_1 x3_2).f0), .bool false, .int .i64 0, .slice none 0 0]) ?_ 1 _ rfl; (with_reducible repeat (first | refine blk_drewN ?_ _ | refine blk_drew ?_ | refine blk_alloc ?_ _)); refine blk_put (cs := #[.int .i64 0, .bool false, .int .i64 0, .slice none 0 0]) ?_ 0 _ rfl; (with_reducible repeat (first | refine blk_drewN ?_ _ | refine blk_drew ?_ | refine blk_alloc ?_ _)); exact K0.out⟩, ⟨by repeat (first | (with_reducible first | exact HB.out | apply below_alloc | apply pw_below_drewN | apply below_drew1 | refine below_set ?_ E0.out | refine below_set ?_ E1.out) | exact HB.out)⟩⟩
          ·rw [if_neg c20] at H
           have c20b0 : decide (16 < ((rd_T63 l0_1 x3_2).f0)) = false := decide_eq_false c20
           clear c20
           by_cases c23 : ((rd_T63 l0_1 x3_2).f2) < 0
           ·rw [if_pos c23] at H
            have c23b0 : decide (((rd_T63 l0_1 x3_2).f2) < 0) = true := decide_eq_true c23
            clear c23
            have H' := Aside0.mk H
            clear H
            have hnb24 := N1.out
            have hnc24 := N0.out
            have hcz25_0 : w14.cell? ⟨g0, 0, none⟩ = some (.int .i64 0) := (blk_cell K0.out 0).trans rfl
            have hcz25_1 : w14.cell? ⟨g0, 1, none⟩ = some (.bool false) := (blk_cell K0.out 1).trans rfl
            have hcz25_2 : w14.cell? ⟨g0, 2, none⟩ = some (.int .i64 0) := (blk_cell K0.out 2).trans rfl
            have hcz25_3 : w14.cell? ⟨g0, 3, none⟩ = some (.slice none 0 0) := (blk_cell K0.out 3).trans rfl
            have hfz25_0 := blk_frozen K0.out 0
            have hfz25_1 := blk_frozen K0.out 1
            have hfz25_2 := blk_frozen K0.out 2
            have hfz25_3 := blk_frozen K0.out 3
            go_wp2
            go_meet
            case rel => exact ⟨_, (true), (by first | rfl | (simp; done) | (simp [*]; done)), H', ⟨by have := HJ1.out; have := HK2.out; first | omega | exact Nat.le_refl _⟩, ⟨by (with_reducible repeat (first | refine blk_drewN ?_ _ | refine blk_drew ?_ | refine blk_alloc ?_ _)); refine blk_far ?_ N0.out _; (with_reducible repeat (first | refine blk_drewN ?_ _ | refine blk_drew ?_ | refine blk_alloc ?_ _)); refine blk_far ?_ N0.out _; (with_reducible repeat (first | refine blk_drewN ?_ _ | refine blk_drew ?_ | refine blk_alloc ?_ _)); refine blk_far ?_ N0.out _; (with_reducible repeat (first | refine blk_drewN ?_ _ | refine blk_drew ?_ | refine blk_alloc ?_ _)); refine blk_far ?_ N0.out _; (with_reducible repeat (first | refine blk_drewN ?_ _ | refine blk_drew ?_ | refine blk_alloc ?_ _)); exact K1.out⟩, ⟨by (with_reducible repeat (first | refine blk_drewN ?_ _ | refine blk_drew ?_ | refine blk_alloc ?_ _)); refine blk_put (cs := #[.int .i64 ((rd_T63 l0_1 x3_2).f0), .bool ((rd_T63 l0_1 x3_2).f1), .int .i64 ((rd_T63 l0_1 x3_2).f2), .slice none 0 0]) ?_ 3 _ rfl; (with_reducible repeat (first | refine blk_drewN ?_ _ | refine blk_drew ?_ | refine blk_alloc ?_ _)); refine blk_put (cs := #[.int .i64 ((rd_T63 l0_1 x3_2).f0), .bool ((rd_T63 l0_1 x3_2).f1), .int .i64 0, .slice none 0 0]) ?_ 2 _ rfl; (with_reducible repeat (first | refine blk_drewN ?_ _ | refine blk_drew ?_ | refine blk_alloc ?_ _)); refine blk_put (cs := #[.int .i64 ((rd_T63 l0_1 x3_2).f0), .bool false, .int .i64 0, .slice none 0 0]) ?_ 1 _ rfl; (with_reducible repeat (first | refine blk_drewN ?_ _ | refine blk_drew ?_ | refine blk_alloc ?_ _)); refine blk_put (cs := #[.int .i64 0, .bool false, .int .i64 0, .slice none 0 0]) ?_ 0 _ rfl; (with_reducible repeat (first | refine blk_drewN ?_ _ | refine blk_drew ?_ | refine blk_alloc ?_ _)); exact K0.out⟩, ⟨by repeat (first | (with_reducible first | exact HB.out | apply below_alloc | apply pw_below_drewN | apply below_drew1 | refine below_set ?_ E0.out | refine below_set ?_ E1.out) | exact HB.out)⟩⟩
           ·rw [if_neg c23] at H
            have c23b0 : decide (((rd_T63 l0_1 x3_2).f2) < 0) = false := decide_eq_false c23
            clear c23
            by_cases c26 : ((rd_T63 l0_1 x3_2).f2) > 8
            ·rw [if_pos c26] at H
             have c26b0 : decide (8 < ((rd_T63 l0_1 x3_2).f2)) = true := decide_eq_true c26
             clear c26
             have H' := Aside0.mk H
             clear H
             have hnb27 := N1.out
             have hnc27 := N0.out
             have hcz28_0 : w14.cell? ⟨g0, 0, none⟩ = some (.int .i64 0) := (blk_cell K0.out 0).trans rfl
             have hcz28_1 : w14.cell? ⟨g0, 1, none⟩ = some (.bool false) := (blk_cell K0.out 1).trans rfl
             have hcz28_2 : w14.cell? ⟨g0, 2, none⟩ = some (.int .i64 0) := (blk_cell K0.out 2).trans rfl
             have hcz28_3 : w14.cell? ⟨g0, 3, none⟩ = some (.slice none 0 0) := (blk_cell K0.out 3).trans rfl
             have hfz28_0 := blk_frozen K0.out 0
             have hfz28_1 := blk_frozen K0.out 1
             have hfz28_2 := blk_frozen K0.out 2
             have hfz28_3 := blk_frozen K0.out 3
             go_wp2
             go_meet
             case rel => exact ⟨_, (true), (by first | rfl | (simp; done) | (simp [*]; done)), H', ⟨by have := HJ1.out; have := HK2.out; first | omega | exact Nat.le_refl _⟩, ⟨by (with_reducible repeat (first | refine blk_drewN ?_ _ | refine blk_drew ?_ | refine blk_alloc ?_ _)); refine blk_far ?_ N0.out _; (with_reducible repeat (first | refine blk_drewN ?_ _ | refine blk_drew ?_ | refine blk_alloc ?_ _)); refine blk_far ?_ N0.out _; (with_reducible repeat (first | refine blk_drewN ?_ _ | refine blk_drew ?_ | refine blk_alloc ?_ _)); refine blk_far ?_ N0.out _; (with_reducible repeat (first | refine blk_drewN ?_ _ | refine blk_drew ?_ | refine blk_alloc ?_ _)); refine blk_far ?_ N0.out _; (with_reducible repeat (first | refine blk_drewN ?_ _ | refine blk_drew ?_ | refine blk_alloc ?_ _)); exact K1.out⟩, ⟨by (with_reducible repeat (first | refine blk_drewN ?_ _ | refine blk_drew ?_ | refine blk_alloc ?_ _)); refine blk_put (cs := #[.int .i64 ((rd_T63 l0_1 x3_2).f0), .bool ((rd_T63 l0_1 x3_2).f1), .int .i64 ((rd_T63 l0_1 x3_2).f2), .slice none 0 0]) ?_ 3 _ rfl; (with_reducible repeat (first | refine blk_drewN ?_ _ | refine blk_drew ?_ | refine blk_alloc ?_ _)); refine blk_put (cs := #[.int .i64 ((rd_T63 l0_1 x3_2).f0), .bool ((rd_T63 l0_1 x3_2).f1), .int .i64 0, .slice none 0 0]) ?_ 2 _ rfl; (with_reducible repeat (first | refine blk_drewN ?_ _ | refine blk_drew ?_ | refine blk_alloc ?_ _)); refine blk_put (cs := #[.int .i64 ((rd_T63 l0_1 x3_2).f0), .bool false, .int .i64 0, .slice none 0 0]) ?_ 1 _ rfl; (with_reducible repeat (first | refine blk_drewN ?_ _ | refine blk_drew ?_ | refine blk_alloc ?_ _)); refine blk_put (cs := #[.int .i64 0, .bool false, .int .i64 0, .slice none 0 0]) ?_ 0 _ rfl; (with_reducible repeat (first | refine blk_drewN ?_ _ | refine blk_drew ?_ | refine blk_alloc ?_ _)); exact K0.out⟩, ⟨by repeat (first | (with_reducible first | exact HB.out | apply below_alloc | apply pw_below_drewN | apply below_drew1 | refine below_set ?_ E0.out | refine below_set ?_ E1.out) | exact HB.out)⟩⟩
            ·rw [if_neg c26] at H
             have c26b0 : decide (8 < ((rd_T63 l0_1 x3_2).f2)) = false := decide_eq_false c26
             clear c26
             have H' := Aside0.mk H
             clear H
             have hnb29 := N1.out
             have hnc29 := N0.out
             have hcz30_0 : w14.cell? ⟨g0, 0, none⟩ = some (.int .i64 0) := (blk_cell K0.out 0).trans rfl
             have hcz30_1 : w14.cell? ⟨g0, 1, none⟩ = some (.bool false) := (blk_cell K0.out 1).trans rfl
             have hcz30_2 : w14.cell? ⟨g0, 2, none⟩ = some (.int .i64 0) := (blk_cell K0.out 2).trans rfl
             have hcz30_3 : w14.cell? ⟨g0, 3, none⟩ = some (.slice none 0 0) := (blk_cell K0.out 3).trans rfl
             have hfz30_0 := blk_frozen K0.out 0
             have hfz30_1 := blk_frozen K0.out 1
             have hfz30_2 := blk_frozen K0.out 2
             have hfz30_3 := blk_frozen K0.out 3
             go_wp2
             go_meet
             case rel => exact ⟨_, (decide ((((rd_T63 l0_1 x3_2).f3).length : Int) > 4)), (by first | rfl | (simp; done) | (simp [*]; done)), H', ⟨by have := HJ1.out; have := HK2.out; first | omega | exact Nat.le_refl _⟩, ⟨by (with_reducible repeat (first | refine blk_drewN ?_ _ | refine blk_drew ?_ | refine blk_alloc ?_ _)); refine blk_far ?_ N0.out _; (with_reducible repeat (first | refine blk_drewN ?_ _ | refine blk_drew ?_ | refine blk_alloc ?_ _)); refine blk_far ?_ N0.out _; (with_reducible repeat (first | refine blk_drewN ?_ _ | refine blk_drew ?_ | refine blk_alloc ?_ _)); refine blk_far ?_ N0.out _; (with_reducible repeat (first | refine blk_drewN ?_ _ | refine blk_drew ?_ | refine blk_alloc ?_ _)); refine blk_far ?_ N0.out _; (with_reducible repeat (first | refine blk_drewN ?_ _ | refine blk_drew ?_ | refine blk_alloc ?_ _)); exact K1.out⟩, ⟨by (with_reducible repeat (first | refine blk_drewN ?_ _ | refine blk_drew ?_ | refine blk_alloc ?_ _)); refine blk_put (cs := #[.int .i64 ((rd_T63 l0_1 x3_2).f0), .bool ((rd_T63 l0_1 x3_2).f1), .int .i64 ((rd_T63 l0_1 x3_2).f2), .slice none 0 0]) ?_ 3 _ rfl; (with_reducible repeat (first | refine blk_drewN ?_ _ | refine blk_drew ?_ | refine blk_alloc ?_ _)); refine blk_put (cs := #[.int .i64 ((rd_T63 l0_1 x3_2).f0), .bool ((rd_T63 l0_1 x3_2).f1), .int .i64 0, .slice none 0 0]) ?_ 2 _ rfl; (with_reducible repeat (first | refine blk_drewN ?_ _ | refine blk_drew ?_ | refine blk_alloc ?_ _)); refine blk_put (cs := #[.int .i64 ((rd_T63 l0_1 x3_2).f0), .bool false, .int .i64 0, .slice none 0 0]) ?_ 1 _ rfl; (with_reducible repeat (first | refine blk_drewN ?_ _ | refine blk_drew ?_ | refine blk_alloc ?_ _)); refine blk_put (cs := #[.int .i64 0, .bool false, .int .i64 0, .slice none 0 0]) ?_ 0 _ rfl; (with_reducible repeat (first | refine blk_drewN ?_ _ | refine blk_drew ?_ | refine blk_alloc ?_ _)); exact K0.out⟩, ⟨by repeat (first | (with_reducible first | exact HB.out | apply below_alloc | apply pw_below_drewN | apply below_drew1 | refine below_set ?_ E0.out | refine below_set ?_ E1.out) | exact HB.out)⟩⟩
        case rest =>
         clear HC12
         try clear c1
         try clear p1
         try clear q1
         try clear hx1
         try clear c2
         try clear p2
         try clear c3
         try clear c4
         try clear c4b0
         try clear c6
         try clear c6b0
         try clear c9
         try clear c10
         try clear c10b0
         try clear c11
         try clear c11b0
         try clear c14
         try clear p14
         try clear q14
         try clear hx14
         try clear c15
         try clear c17
         try clear c17b0
         try clear c18
         try clear c20
         try clear c20b0
         try clear c21
         try clear c23
         try clear c23b0
         try clear c24
         try clear c26
         try clear c26b0
         try clear c27
         try clear c29
         try clear hcz13_0
         try clear hcz13_1
         try clear hcz16_0
         try clear hcz16_1
         try clear hcz16_2
         try clear hcz16_3
         try clear hcz19_0
         try clear hcz19_1
         try clear hcz19_2
         try clear hcz19_3
         try clear hcz22_0
         try clear hcz22_1
         try clear hcz22_2
         try clear hcz22_3
         try clear hcz25_0
         try clear hcz25_1
         try clear hcz25_2
         try clear hcz25_3
         try clear hcz28_0
         try clear hcz28_1
         try clear hcz28_2
         try clear hcz28_3
         try clear hcz30_0
         try clear hcz30_1
         try clear hcz30_2
         try clear hcz30_3
         try clear hcz5_0
         try clear hcz5_1
         try clear hcz7_0
         try clear hcz7_1
         try clear hcz8_0
         try clear hcz8_1
         try clear hfz13_0
         try clear hfz13_1
         try clear hfz16_0
         try clear hfz16_1
         try clear hfz16_2
         try clear hfz16_3
         try clear hfz19_0
         try clear hfz19_1
         try clear hfz19_2
         try clear hfz19_3
         try clear hfz22_0
         try clear hfz22_1
         try clear hfz22_2
         try clear hfz22_3
         try clear hfz25_0
         try clear hfz25_1
         try clear hfz25_2
         try clear hfz25_3
         try clear hfz28_0
         try clear hfz28_1
         try clear hfz28_2
         try clear hfz28_3
         try clear hfz30_0
         try clear hfz30_1
         try clear hfz30_2
         try clear hfz30_3
         try clear hfz5_0
         try clear hfz5_1
         try clear hfz7_0
         try clear hfz7_1
         try clear hfz8_0
         try clear hfz8_1
         try clear hx145_0
         try clear hx145_1
         try clear hx145_2
         try clear hx145_3
         try clear p145
         try clear p2
         try clear q145
         obtain ⟨kq, x55_11, rfl, HA, HJ11, K1, K0, HB⟩ := hcut
         cases kq with
         | zero => exact absurd HA.out (by simp [wharfageref10_ConfMay.j2])
         | succ kj11 =>
          have H := HA.out
          clear HA
          simp only [wharfageref10_ConfMay.j2] at H
          by_cases c31 : x55_11 = true
          ·subst c31
           have H1 : (some false) = some r := by rw [if_pos rfl] at H; exact H
           clear H
           have H := H1
           clear H1
           obtain rfl := Option.some.inj H
           go_wp2
           go_ret
           exact ⟨by first | rfl | (simp [errW_none, errW_some] <;> rfl) | (simp [*, errW_none, errW_some] <;> rfl), by repeat (first | (with_reducible first | exact HB.out | apply below_alloc | apply pw_below_drewN | apply below_drew1 | refine below_set ?_ E0.out | refine below_set ?_ E1.out) | exact HB.out)⟩
          ·replace c31 := Bool.eq_false_iff.mpr c31
           subst c31
           have H1 : (wharfageref10_ConfMay.l1 kj11 x3_2 0 a0_0 l0_1 ((rd_T63 l0_1 x3_2).f0) ((rd_T63 l0_1 x3_2).f1) ((rd_T63 l0_1 x3_2).f2) ((rd_T63 l0_1 x3_2).f3)) = some r := by rw [if_neg (show ¬ (false = true) by decide)] at H; exact H
           clear H
           have H := H1
           clear H1
           have H' := Aside0.mk H
           clear H
           go_wp2
           go_loopg [5] kj11 (fun kq v5 w' => ∃ (x5_4 : Int), v5 = .int .i64 x5_4 ∧ Aside0 (wharfageref10_ConfMay.l1 kq x3_2 x5_4 a0_0 l0_1 ((rd_T63 l0_1 x3_2).f0) ((rd_T63 l0_1 x3_2).f1) ((rd_T63 l0_1 x3_2).f2) ((rd_T63 l0_1 x3_2).f3) = some r) ∧ Aside0 (kq ≤ kj11) ∧ Aside0 (w'.heap[g1]? = some (.cells #[.int .i64 a0_0, (.slice (some ad145) l0_1.length c0_1)] 38 (0, 0))) ∧ Aside0 (w'.heap[g0]? = some (.cells #[.int .i64 ((rd_T63 l0_1 x3_2).f0), .bool ((rd_T63 l0_1 x3_2).f1), .int .i64 ((rd_T63 l0_1 x3_2).f2), (.slice A145_3 ((rd_T63 l0_1 x3_2).f3).length c145_3)] 63 (0, 0))) ∧ Aside0 (Below w.heap.size w w'))
           case atStart => exact ⟨(0), (by first | rfl | (simp; done) | (simp [*]; done)), H', ⟨Nat.le_refl _⟩, ⟨by (with_reducible repeat (first | refine blk_drewN ?_ _ | refine blk_drew ?_ | refine blk_alloc ?_ _)); exact K1.out⟩, ⟨by (with_reducible repeat (first | refine blk_drewN ?_ _ | refine blk_drew ?_ | refine blk_alloc ?_ _)); exact K0.out⟩, ⟨by repeat (first | (with_reducible first | exact HB.out | apply below_alloc | apply pw_below_drewN | apply below_drew1 | refine below_set ?_ E0.out | refine below_set ?_ E1.out) | exact HB.out)⟩⟩
           case round =>
            clear H'
            try clear c1
            try clear p1
            try clear q1
            try clear hx1
            try clear c2
            try clear p2
            try clear c3
            try clear c4
            try clear c4b0
            try clear c6
            try clear c6b0
            try clear c9
            try clear c10
            try clear c10b0
            try clear c11
            try clear c11b0
            try clear c14
            try clear p14
            try clear q14
            try clear hx14
            try clear c15
            try clear c17
            try clear c17b0
            try clear c18
            try clear c20
            try clear c20b0
            try clear c21
            try clear c23
            try clear c23b0
            try clear c24
            try clear c26
            try clear c26b0
            try clear c27
            try clear c29
            try clear c31
            try clear hcz13_0
            try clear hcz13_1
            try clear hcz16_0
            try clear hcz16_1
            try clear hcz16_2
            try clear hcz16_3
            try clear hcz19_0
            try clear hcz19_1
            try clear hcz19_2
            try clear hcz19_3
            try clear hcz22_0
            try clear hcz22_1
            try clear hcz22_2
            try clear hcz22_3
            try clear hcz25_0
            try clear hcz25_1
            try clear hcz25_2
            try clear hcz25_3
            try clear hcz28_0
            try clear hcz28_1
            try clear hcz28_2
            try clear hcz28_3
            try clear hcz30_0
            try clear hcz30_1
            try clear hcz30_2
            try clear hcz30_3
            try clear hcz5_0
            try clear hcz5_1
            try clear hcz7_0
            try clear hcz7_1
            try clear hcz8_0
            try clear hcz8_1
            try clear hfz13_0
            try clear hfz13_1
            try clear hfz16_0
            try clear hfz16_1
            try clear hfz16_2
            try clear hfz16_3
            try clear hfz19_0
            try clear hfz19_1
            try clear hfz19_2
            try clear hfz19_3
            try clear hfz22_0
            try clear hfz22_1
            try clear hfz22_2
            try clear hfz22_3
            try clear hfz25_0
            try clear hfz25_1
            try clear hfz25_2
            try clear hfz25_3
            try clear hfz28_0
            try clear hfz28_1
            try clear hfz28_2
            try clear hfz28_3
            try clear hfz30_0
            try clear hfz30_1
            try clear hfz30_2
            try clear hfz30_3
            try clear hfz5_0
            try clear hfz5_1
            try clear hfz7_0
            try clear hfz7_1
            try clear hfz8_0
            try clear hfz8_1
            try clear hx145_0
            try clear hx145_1
            try clear hx145_2
            try clear hx145_3
            try clear p1
            try clear p14
            try clear p145
            try clear p2
            try clear q1
            try clear q14
            try clear q145
            obtain ⟨x5_4, rfl, HA, HK4, K1, K0, HB⟩ := hrel
            cases gk with
            | zero => exact absurd HA.out (by simp [wharfageref10_ConfMay.l1])
            | succ k4 =>
             have H := HA.out
             clear HA
             simp only [wharfageref10_ConfMay.l1] at H
             by_cases c32 : x5_4 < (((rd_T63 l0_1 x3_2).f3).length : Int)
             ·rw [if_pos c32] at H
              have c32b0 : decide (x5_4 < (((rd_T63 l0_1 x3_2).f3).length : Int)) = true := decide_eq_true c32
              clear c32
              by_cases c33 : 0 ≤ x5_4
              ·rw [if_pos c33] at H
               have c33b0 : decide (0 ≤ x5_4) = true := decide_eq_true c33
               clear c33
               by_cases c34 : ((rd_T65 ((rd_T63 l0_1 x3_2).f3) x5_4).f0) < 0
               ·rw [if_pos c34] at H
                have c34b0 : decide (((rd_T65 ((rd_T63 l0_1 x3_2).f3) x5_4).f0) < 0) = true := decide_eq_true c34
                clear c34
                obtain rfl := Option.some.inj H
                have hnb35 := N1.out
                have hnc35 := N0.out
                have hcz36_0 : wr.cell? ⟨g0, 0, none⟩ = some (.int .i64 ((rd_T63 l0_1 x3_2).f0)) := (blk_cell K0.out 0).trans rfl
                have hcz36_1 : wr.cell? ⟨g0, 1, none⟩ = some (.bool ((rd_T63 l0_1 x3_2).f1)) := (blk_cell K0.out 1).trans rfl
                have hcz36_2 : wr.cell? ⟨g0, 2, none⟩ = some (.int .i64 ((rd_T63 l0_1 x3_2).f2)) := (blk_cell K0.out 2).trans rfl
                have hcz36_3 : wr.cell? ⟨g0, 3, none⟩ = some (.slice A145_3 ((rd_T63 l0_1 x3_2).f3).length c145_3) := (blk_cell K0.out 3).trans rfl
                have hfz36_0 := blk_frozen K0.out 0
                have hfz36_1 := blk_frozen K0.out 1
                have hfz36_2 := blk_frozen K0.out 2
                have hfz36_3 := blk_frozen K0.out 3
                have p147 : 0 ≤ (x5_4 : Int) := of_decide_eq_true (by first | (with_reducible assumption) | assumption)
                have q147 : x5_4 < (((rd_T63 l0_1 x3_2).f3).length : Int) := of_decide_eq_true (by first | (with_reducible assumption) | assumption)
                obtain ⟨ad147, e147, hx147_0, hx147_1⟩ := at_T65 HR145_3.out x5_4 p147 q147
                cases e147
                replace hx147_0 := (HB.out.cell (World.block_lt_of_cell? w _ hx147_0)).trans hx147_0
                replace hx147_1 := (HB.out.cell (World.block_lt_of_cell? w _ hx147_1)).trans hx147_1
                replace p147 := eq_true p147
                replace q147 := eq_true q147
                go_wp2
                go_ret
                exact ⟨by first | rfl | (simp [errW_none, errW_some] <;> rfl) | (simp [*, errW_none, errW_some] <;> rfl), by repeat (first | (with_reducible first | exact HB.out | apply below_alloc | apply pw_below_drewN | apply below_drew1 | refine below_set ?_ E0.out | refine below_set ?_ E1.out) | exact HB.out)⟩
               ·rw [if_neg c34] at H
                have c34b0 : decide (((rd_T65 ((rd_T63 l0_1 x3_2).f3) x5_4).f0) < 0) = false := decide_eq_false c34
                clear c34
                by_cases c37 : ((rd_T65 ((rd_T63 l0_1 x3_2).f3) x5_4).f0) > 16
                ·rw [if_pos c37] at H
                 have c37b0 : decide (16 < ((rd_T65 ((rd_T63 l0_1 x3_2).f3) x5_4).f0)) = true := decide_eq_true c37
                 clear c37
                 obtain rfl := Option.some.inj H
                 have hnb38 := N1.out
                 have hnc38 := N0.out
                 have hcz39_0 : wr.cell? ⟨g0, 0, none⟩ = some (.int .i64 ((rd_T63 l0_1 x3_2).f0)) := (blk_cell K0.out 0).trans rfl
                 have hcz39_1 : wr.cell? ⟨g0, 1, none⟩ = some (.bool ((rd_T63 l0_1 x3_2).f1)) := (blk_cell K0.out 1).trans rfl
                 have hcz39_2 : wr.cell? ⟨g0, 2, none⟩ = some (.int .i64 ((rd_T63 l0_1 x3_2).f2)) := (blk_cell K0.out 2).trans rfl
                 have hcz39_3 : wr.cell? ⟨g0, 3, none⟩ = some (.slice A145_3 ((rd_T63 l0_1 x3_2).f3).length c145_3) := (blk_cell K0.out 3).trans rfl
                 have hfz39_0 := blk_frozen K0.out 0
                 have hfz39_1 := blk_frozen K0.out 1
                 have hfz39_2 := blk_frozen K0.out 2
                 have hfz39_3 := blk_frozen K0.out 3
                 have p147 : 0 ≤ (x5_4 : Int) := of_decide_eq_true (by first | (with_reducible assumption) | assumption)
                 have q147 : x5_4 < (((rd_T63 l0_1 x3_2).f3).length : Int) := of_decide_eq_true (by first | (with_reducible assumption) | assumption)
                 obtain ⟨ad147, e147, hx147_0, hx147_1⟩ := at_T65 HR145_3.out x5_4 p147 q147
                 cases e147
                 replace hx147_0 := (HB.out.cell (World.block_lt_of_cell? w _ hx147_0)).trans hx147_0
                 replace hx147_1 := (HB.out.cell (World.block_lt_of_cell? w _ hx147_1)).trans hx147_1
                 replace p147 := eq_true p147
                 replace q147 := eq_true q147
                 have p148 : 0 ≤ (x5_4 : Int) := of_decide_eq_true (by first | (with_reducible assumption) | assumption)
                 have q148 : x5_4 < (((rd_T63 l0_1 x3_2).f3).length : Int) := of_decide_eq_true (by first | (with_reducible assumption) | assumption)
                 obtain ⟨ad148, e148, hx148_0, hx148_1⟩ := at_T65 HR145_3.out x5_4 p148 q148
                 obtain rfl : ad147 = ad148 := (by injection e148)
                 replace hx148_0 := (HB.out.cell (World.block_lt_of_cell? w _ hx148_0)).trans hx148_0
                 replace hx148_1 := (HB.out.cell (World.block_lt_of_cell? w _ hx148_1)).trans hx148_1
                 replace p148 := eq_true p148
                 replace q148 := eq_true q148
                 go_wp2
                 go_ret
                 exact ⟨by first | rfl | (simp [errW_none, errW_some] <;> rfl) | (simp [*, errW_none, errW_some] <;> rfl), by repeat (first | (with_reducible first | exact HB.out | apply below_alloc | apply pw_below_drewN | apply below_drew1 | refine below_set ?_ E0.out | refine below_set ?_ E1.out) | exact HB.out)⟩
                ·rw [if_neg c37] at H
                 have c37b0 : decide (16 < ((rd_T65 ((rd_T63 l0_1 x3_2).f3) x5_4).f0)) = false := decide_eq_false c37
                 clear c37
                 have H' := Aside0.mk H
                 clear H
                 have hnb40 := N1.out
                 have hnc40 := N0.out
                 have hcz41_0 : wr.cell? ⟨g0, 0, none⟩ = some (.int .i64 ((rd_T63 l0_1 x3_2).f0)) := (blk_cell K0.out 0).trans rfl
                 have hcz41_1 : wr.cell? ⟨g0, 1, none⟩ = some (.bool ((rd_T63 l0_1 x3_2).f1)) := (blk_cell K0.out 1).trans rfl
                 have hcz41_2 : wr.cell? ⟨g0, 2, none⟩ = some (.int .i64 ((rd_T63 l0_1 x3_2).f2)) := (blk_cell K0.out 2).trans rfl
                 have hcz41_3 : wr.cell? ⟨g0, 3, none⟩ = some (.slice A145_3 ((rd_T63 l0_1 x3_2).f3).length c145_3) := (blk_cell K0.out 3).trans rfl
                 have hfz41_0 := blk_frozen K0.out 0
                 have hfz41_1 := blk_frozen K0.out 1
                 have hfz41_2 := blk_frozen K0.out 2
                 have hfz41_3 := blk_frozen K0.out 3
                 have p147 : 0 ≤ (x5_4 : Int) := of_decide_eq_true (by first | (with_reducible assumption) | assumption)
                 have q147 : x5_4 < (((rd_T63 l0_1 x3_2).f3).length : Int) := of_decide_eq_true (by first | (with_reducible assumption) | assumption)
                 obtain ⟨ad147, e147, hx147_0, hx147_1⟩ := at_T65 HR145_3.out x5_4 p147 q147
                 cases e147
                 replace hx147_0 := (HB.out.cell (World.block_lt_of_cell? w _ hx147_0)).trans hx147_0
                 replace hx147_1 := (HB.out.cell (World.block_lt_of_cell? w _ hx147_1)).trans hx147_1
                 replace p147 := eq_true p147
                 replace q147 := eq_true q147
                 have p148 : 0 ≤ (x5_4 : Int) := of_decide_eq_true (by first | (with_reducible assumption) | assumption)
                 have q148 : x5_4 < (((rd_T63 l0_1 x3_2).f3).length : Int) := of_decide_eq_true (by first | (with_reducible assumption) | assumption)
                 obtain ⟨ad148, e148, hx148_0, hx148_1⟩ := at_T65 HR145_3.out x5_4 p148 q148
                 obtain rfl : ad147 = ad148 := (by injection e148)
                 replace hx148_0 := (HB.out.cell (World.block_lt_of_cell? w _ hx148_0)).trans hx148_0
                 replace hx148_1 := (HB.out.cell (World.block_lt_of_cell? w _ hx148_1)).trans hx148_1
                 replace p148 := eq_true p148
                 replace q148 := eq_true q148
                 go_wp2
                 go_roundg k4
                 case measure => have := HJ1.out; have := HK2.out; have := HJ11.out; have := HK4.out; omega
                 case rel => exact ⟨(wrap64 (x5_4 + 1)), (by first | rfl | (simp; done) | (simp [*]; done)), H', ⟨by have := HJ1.out; have := HK2.out; have := HJ11.out; have := HK4.out; omega⟩, ⟨by (with_reducible repeat (first | refine blk_drewN ?_ _ | refine blk_drew ?_ | refine blk_alloc ?_ _)); exact K1.out⟩, ⟨by (with_reducible repeat (first | refine blk_drewN ?_ _ | refine blk_drew ?_ | refine blk_alloc ?_ _)); exact K0.out⟩, ⟨by repeat (first | (with_reducible first | exact HB.out | apply below_alloc | apply pw_below_drewN | apply below_drew1 | refine below_set ?_ E0.out | refine below_set ?_ E1.out) | exact HB.out)⟩⟩
              ·rw [if_neg c33] at H
               exact absurd H (by simp)
             ·rw [if_neg c32] at H
              have c32b0 : decide (x5_4 < (((rd_T63 l0_1 x3_2).f3).length : Int)) = false := decide_eq_false c32
              clear c32
              have H' := Aside0.mk H
              clear H
              have hnb42 := N1.out
              have hnc42 := N0.out
              have hcz43_0 : wr.cell? ⟨g0, 0, none⟩ = some (.int .i64 ((rd_T63 l0_1 x3_2).f0)) := (blk_cell K0.out 0).trans rfl
              have hcz43_1 : wr.cell? ⟨g0, 1, none⟩ = some (.bool ((rd_T63 l0_1 x3_2).f1)) := (blk_cell K0.out 1).trans rfl
              have hcz43_2 : wr.cell? ⟨g0, 2, none⟩ = some (.int .i64 ((rd_T63 l0_1 x3_2).f2)) := (blk_cell K0.out 2).trans rfl
              have hcz43_3 : wr.cell? ⟨g0, 3, none⟩ = some (.slice A145_3 ((rd_T63 l0_1 x3_2).f3).length c145_3) := (blk_cell K0.out 3).trans rfl
              have hfz43_0 := blk_frozen K0.out 0
              have hfz43_1 := blk_frozen K0.out 1
              have hfz43_2 := blk_frozen K0.out 2
              have hfz43_3 := blk_frozen K0.out 3
              go_wp2
              go_roundg k4
              case measure => have := HJ1.out; have := HK2.out; have := HJ11.out; have := HK4.out; omega
              case rel => exact ⟨(wrap64 (x3_2 + 1)), (by first | rfl | (simp; done) | (simp [*]; done)), H', ⟨by have := HJ1.out; have := HK2.out; have := HJ11.out; have := HK4.out; omega⟩, ⟨by (with_reducible repeat (first | refine blk_drewN ?_ _ | refine blk_drew ?_ | refine blk_alloc ?_ _)); exact K1.out⟩, ⟨by repeat (first | (with_reducible first | exact HB.out | apply below_alloc | apply pw_below_drewN | apply below_drew1 | refine below_set ?_ E0.out | refine below_set ?_ E1.out) | exact HB.out)⟩⟩
       ·rw [if_neg c11] at H
        exact absurd H (by simp)
      ·rw [if_neg c10] at H
       have c10b0 : decide (x3_2 < (l0_1.length : Int)) = false := decide_eq_false c10
       clear c10
       obtain rfl := Option.some.inj H
       have hcz44_0 : wr.cell? ⟨g1, 0, none⟩ = some (.int .i64 a0_0) := (blk_cell K1.out 0).trans rfl
       have hcz44_1 : wr.cell? ⟨g1, 1, none⟩ = some (.slice A0_1 l0_1.length c0_1) := (blk_cell K1.out 1).trans rfl
       have hfz44_0 := blk_frozen K1.out 0
       have hfz44_1 := blk_frozen K1.out 1
       go_wp2
       go_ret
       exact ⟨by first | rfl | (simp [errW_none, errW_some] <;> rfl) | (simp [*, errW_none, errW_some] <;> rfl), by repeat (first | (with_reducible first | exact HB.out | apply below_alloc | apply pw_below_drewN | apply below_drew1 | refine below_set ?_ E0.out) | exact HB.out)⟩

end Go.Proofs.YtnojgkiaolmoeaaDoor.PSc
end
section
/- Contracts: what calls of these functions of the program do, each as a plain function; written by a program of this session. -/
namespace Go.Proofs.YtnojgkiaolmoeaaDoor.PSc
open Go.RowKit Go.Proofs.YtnojgkiaolmoeaaDoorW.PrintWords Go.Proofs.YtnojgkiaolmoeaaDoorW.PrintLast Go.Proofs.YtnojgkiaolmoeaaDoorW.PrintMore
attribute [local go_sem] max2_int min2_int max_two min_two max_three min_three max_four min_four   -- for this text's walks alone
set_option linter.unusedVariables false
set_option linter.unusedSimpArgs false

theorem eqA65 (d : Nat) (w : World) (x0 y0 : Int) (x1 y1 : Bool) :
  (Op.equalIn (d + 2) 65 (.agg #[.int .i64 x0, .bool x1]) (.agg #[.int .i64 y0, .bool y1])).run Tryd.prog w = .ok (x0 == y0 && (x1 == y1)) w := by
 refine eqA_of Tryd.underlying65 (by kernel_rfl) ?_
 refine eqf_cons (by rfl) (by go_simp; rfl) (by go_simp; rfl) (by go_simp) ?_
 exact eqf_last (by rfl) (by go_simp; rfl) (by go_simp; rfl) (by go_simp)
end Go.Proofs.YtnojgkiaolmoeaaDoor.PSc
end
