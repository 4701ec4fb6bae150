/- Contracts: what calls of these functions of the program do, each as a plain function; written by a program of this session. -/
import Derived.Test.YtlapbhgkmmeeoaaPSpareRoomx0
import Derived.Test.YtlapbhgkmmeeoaaPSpareRoomx2
import Derived.Test.YtlapbhgkmmeeoaaPSpareRoomx5
import Derived.Test.YtlapbhgkmmeeoaaPSpareRoomx10
namespace Go.Proofs.Ytlapbhgkmmeeoaa.PSpareRoom
open Go.RowKit Go.Proofs.YtlapbhgkmmeeoaaW.PrintWords Go.Proofs.YtlapbhgkmmeeoaaW.PrintLast Go.Proofs.YtlapbhgkmmeeoaaW.PrintMore
attribute [local go_sem] max2_int min2_int max_two min_two max_three min_three max_four min_four   -- for this text's walks alone
set_option linter.unusedVariables false
set_option linter.unusedSimpArgs false

attribute [local go_sem high] eqA89
/-! ### view_May: function 36 -/
mutual
def view_May.l0 : Nat → List (S91) → List (S91) → Int → Int → Option (Bool)
  | 0, _, _, _, _ => none
  | k + 1, x0, x6, x7, x8 => if x8 < x7 then (if 0 ≤ x8 then (if x8 < (x6.length : Int) then (if ((rd_T91 x6 x8).f1) = (-1) then (view_May.j1 k x0 x8 (((rd_T91 x6 x8).f0.f0) == 0 && (((rd_T91 x6 x8).f0.f1) == 0 && (((rd_T91 x6 x8).f0.f2) == 0 && (((rd_T91 x6 x8).f0.f3) == 0)))) x6 x7 x8 ((rd_T91 x6 x8).f0.f0) ((rd_T91 x6 x8).f0.f1) ((rd_T91 x6 x8).f0.f2) ((rd_T91 x6 x8).f0.f3) ((rd_T91 x6 x8).f1)) else (view_May.j1 k x0 x8 false x6 x7 x8 ((rd_T91 x6 x8).f0.f0) ((rd_T91 x6 x8).f0.f1) ((rd_T91 x6 x8).f0.f2) ((rd_T91 x6 x8).f0.f3) ((rd_T91 x6 x8).f1))) else (none)) else (none)) else (some ((x0.length : Int) == 3))
def view_May.j1 : Nat → List (S91) → Int → Bool → List (S91) → Int → Int → Int → Int → Int → Int → Int → Option (Bool)
  | 0, _, _, _, _, _, _, _, _, _, _, _ => none
  | k + 1, x0, x3, x5, x6, x7, x8, x126000, x126001, x126002, x126003, x126004 => if x5 = true then (view_May.l0 k x0 x6 x7 (wrap64 (x8 + 1))) else ((conf_Time.f x126004).bind fun t126 => (if t126 = true then ((report_May.f x126000 x126001 x126002 x126003).bind fun t127 => (if t127 = true then (if x126000 = x3 then (view_May.l0 k x0 x6 x7 (wrap64 (x8 + 1))) else (some false)) else (some false))) else (some false)))
end
def view_May.f (k : Nat) (l0 : List (S91)) : Option (Bool) := view_May.l0 k l0 l0 (l0.length : Int) 0
theorem view_May.mono_l : ∀ k, (∀ y0 y1 y2 y3, LeO (view_May.l0 k y0 y1 y2 y3) (view_May.l0 (k + 1) y0 y1 y2 y3)) ∧ (∀ y0 y1 y2 y3 y4 y5 y6 y7 y8 y9 y10, LeO (view_May.j1 k y0 y1 y2 y3 y4 y5 y6 y7 y8 y9 y10) (view_May.j1 (k + 1) y0 y1 y2 y3 y4 y5 y6 y7 y8 y9 y10))
  | 0 => ⟨fun _ _ _ _ r h => by simp [view_May.l0] at h, fun _ _ _ _ _ _ _ _ _ _ _ r h => by simp [view_May.j1] at h⟩
  | k + 1 => by
    obtain ⟨ih0, ih1⟩ := view_May.mono_l k
    refine ⟨?_, ?_⟩
    · intro y0 y1 y2 y3
      unfold view_May.l0
      repeat' first
      | (with_reducible exact ih0 _ _ _ _)
      | (with_reducible exact ih1 _ _ _ _ _ _ _ _ _ _ _)
      | (with_reducible exact LeO.refl _)
      | (with_reducible exact LeO.none _)
      | (with_reducible refine LeO.ite ?_ ?_)
      | (with_reducible refine LeO.bind ?_ (fun _ => ?_))
      | exact ih0 _ _ _ _
      | exact ih1 _ _ _ _ _ _ _ _ _ _ _
      | exact LeO.none _
      | refine LeO.ite ?_ ?_
      | refine LeO.bind ?_ (fun _ => ?_)
    · intro y0 y1 y2 y3 y4 y5 y6 y7 y8 y9 y10
      unfold view_May.j1
      repeat' first
      | (with_reducible exact ih0 _ _ _ _)
      | (with_reducible exact ih1 _ _ _ _ _ _ _ _ _ _ _)
      | (with_reducible exact LeO.refl _)
      | (with_reducible exact LeO.none _)
      | (with_reducible refine LeO.ite ?_ ?_)
      | (with_reducible refine LeO.bind ?_ (fun _ => ?_))
      | exact ih0 _ _ _ _
      | exact ih1 _ _ _ _ _ _ _ _ _ _ _
      | exact LeO.none _
      | refine LeO.ite ?_ ?_
      | refine LeO.bind ?_ (fun _ => ?_)
theorem view_May.mono : ∀ a0 k, LeO (view_May.f k a0) (view_May.f (k + 1) a0) := by
  intro a0 k
  obtain ⟨ih0, ih1⟩ := view_May.mono_l k
  unfold view_May.f
  repeat' first
      | (with_reducible exact ih0 _ _ _ _)
      | (with_reducible exact ih1 _ _ _ _ _ _ _ _ _ _ _)
      | (with_reducible exact LeO.refl _)
      | (with_reducible exact LeO.none _)
      | (with_reducible refine LeO.ite ?_ ?_)
      | (with_reducible refine LeO.bind ?_ (fun _ => ?_))
      | exact ih0 _ _ _ _
      | exact ih1 _ _ _ _ _ _ _ _ _ _ _
      | exact LeO.none _
      | refine LeO.ite ?_ ?_
      | refine LeO.bind ?_ (fun _ => ?_)
set_option maxHeartbeats 8000000 in
set_option maxRecDepth 100000 in
theorem view_May.calls (k : Nat) (A0 : Option Addr) (c0 : Nat) (l0 : List (S91)) (r : Bool) (w : World) (hr0 : Kd.C k91 w A0 l0.length l0) (hc0 : l0.length ≤ c0) (h : view_May.f k l0 = some r) :
    Calls Try.prog 36 #[.slice A0 l0.length c0] w fun e w' => e = .returned (.bool r) ∧ Below w.heap.size w w' := by
  have hu91 := Try.underlying91
  have hu89 := Try.underlying89
  have HR0 := Aside0.mk hr0
  have HC0 := Aside0.mk hc0
  clear hr0 hc0
  have HB := Aside0.mk (Below.refl w.heap.size w)
  have H : (view_May.l0 k l0 l0 (l0.length : Int) 0) = some r := h
  clear h
  have H' := Aside0.mk H
  clear H
  go_enter Try.func36, Try.ntmps36
  go_wp2
  go_loopg [8] k (fun kq v8 w' => ∃ (x8_1 : Int), v8 = .int .i64 x8_1 ∧ Aside0 (view_May.l0 kq l0 l0 (l0.length : Int) x8_1 = some r) ∧ Aside0 (kq ≤ k) ∧ Aside0 (Below w.heap.size w w'))
  case atStart => exact ⟨(0), (by first | rfl | (simp; done) | (simp [*]; done)), H', ⟨Nat.le_refl _⟩, ⟨by repeat (first | (with_reducible first | exact HB.out | apply below_alloc | apply pw_below_drewN | apply below_drew1) | exact HB.out)⟩⟩
  case round =>
    clear H'
    obtain ⟨x8_1, rfl, HA, HK1, HB⟩ := hrel
    cases gk with
    | zero => exact absurd HA.out (by simp [view_May.l0])
    | succ k1 =>
      have H := HA.out
      clear HA
      simp only [view_May.l0] at H
      by_cases c2 : x8_1 < (l0.length : Int)
      · rw [if_pos c2] at H
        have c2b0 : decide (x8_1 < (l0.length : Int)) = true := decide_eq_true c2
        clear c2
        by_cases c3 : 0 ≤ x8_1
        · rw [if_pos c3] at H
          have c3b0 : decide (0 ≤ x8_1) = true := decide_eq_true c3
          clear c3
          by_cases c4 : x8_1 < (l0.length : Int)
          · rw [if_pos c4] at H
            have c4b0 : decide (x8_1 < (l0.length : Int)) = true := decide_eq_true c4
            clear c4
            have HC5 := Aside0.mk H
            clear H
            have p124 : 0 ≤ (x8_1 : Int) := of_decide_eq_true (by first | (with_reducible assumption) | assumption)
            have q124 : x8_1 < (l0.length : Int) := of_decide_eq_true (by first | (with_reducible assumption) | assumption)
            obtain ⟨ad124, e124, hx124_0, hx124_1, hx124_2, hx124_3, hx124_4⟩ := at_T91 HR0.out x8_1 p124 q124
            cases e124
            replace hx124_0 := (HB.out.cell (World.block_lt_of_cell? w _ hx124_0)).trans hx124_0
            replace hx124_1 := (HB.out.cell (World.block_lt_of_cell? w _ hx124_1)).trans hx124_1
            replace hx124_2 := (HB.out.cell (World.block_lt_of_cell? w _ hx124_2)).trans hx124_2
            replace hx124_3 := (HB.out.cell (World.block_lt_of_cell? w _ hx124_3)).trans hx124_3
            replace hx124_4 := (HB.out.cell (World.block_lt_of_cell? w _ hx124_4)).trans hx124_4
            replace p124 := eq_true p124
            replace q124 := eq_true q124
            go_upto_region 4 with (first | ((with_reducible refine gate_dst (N := 4) rfl ?_); refine box_event ?hg (N := 4) ?hd (cs := #[.int .i64 0, .int .i64 0, .int .i64 0, .int .i64 0, .int .i64 0]) (t := 91) ?hr ?_; (case hd => rfl); (case hg => rfl); (case hr => first | (go_simp; done) | (go_simp; rfl)); intro gb125 hg w6 hbox hb; have n0_ := Aside0.mk (below_step (by repeat (first | (with_reducible first | exact HB.out | apply below_alloc | apply pw_below_drewN | apply below_drew1) | exact HB.out)) hb); have n1_ := Aside0.mk (hbox); have n2_ := Aside0.mk ((by rw [hg]; exact (below_size (by repeat (first | (with_reducible first | exact HB.out | apply below_alloc | apply pw_below_drewN | apply below_drew1) | exact HB.out))) : w.heap.size ≤ gb125)); have n3_ := Aside0.mk ((by rw [hg]; exact (below_size (by repeat (first | (with_reducible first | exact HB.out | apply below_alloc | apply pw_below_drewN | apply below_drew1) | exact HB.out))) : w.heap.size ≤ gb125)); clear HB; have HB := n0_; have BK125 := n1_; have GW125 := n2_; have GE125 := n3_; clear n0_ n1_ n2_ n3_; clear hb hbox hg; have hcz7_0 : w6.cell? ⟨gb125, 0, none⟩ = some (.int .i64 0) := (blk_cell BK125.out 0).trans rfl; have hcz7_1 : w6.cell? ⟨gb125, 1, none⟩ = some (.int .i64 0) := (blk_cell BK125.out 1).trans rfl; have hcz7_2 : w6.cell? ⟨gb125, 2, none⟩ = some (.int .i64 0) := (blk_cell BK125.out 2).trans rfl; have hcz7_3 : w6.cell? ⟨gb125, 3, none⟩ = some (.int .i64 0) := (blk_cell BK125.out 3).trans rfl; have hcz7_4 : w6.cell? ⟨gb125, 4, none⟩ = some (.int .i64 0) := (blk_cell BK125.out 4).trans rfl; have hfz7_0 := blk_frozen BK125.out 0; have hfz7_1 := blk_frozen BK125.out 1; have hfz7_2 := blk_frozen BK125.out 2; have hfz7_3 := blk_frozen BK125.out 3; have hfz7_4 := blk_frozen BK125.out 4))
            (try simp only [Act.put, List.setIfInBounds_toArray, List.set_cons_zero, List.set_cons_succ])
            go_cut [5] (fun v5 wc => ∃ (kq : Nat) (x5_4 : Bool), v5 = .bool x5_4 ∧ Aside0 (view_May.j1 kq l0 x8_1 x5_4 l0 (l0.length : Int) x8_1 ((rd_T91 l0 x8_1).f0.f0) ((rd_T91 l0 x8_1).f0.f1) ((rd_T91 l0 x8_1).f0.f2) ((rd_T91 l0 x8_1).f0.f3) ((rd_T91 l0 x8_1).f1) = some r) ∧ Aside0 (kq ≤ k1) ∧ Aside0 (wc.heap[gb125]? = some (.cells #[.int .i64 ((rd_T91 l0 x8_1).f0.f0), .int .i64 ((rd_T91 l0 x8_1).f0.f1), .int .i64 ((rd_T91 l0 x8_1).f0.f2), .int .i64 ((rd_T91 l0 x8_1).f0.f3), .int .i64 ((rd_T91 l0 x8_1).f1)] 91 (0, 0))) ∧ Aside0 (Below w.heap.size w wc))
            case first =>
              have H := HC5.out
              clear HC5
              by_cases c8 : ((rd_T91 l0 x8_1).f1) = (-1)
              · rw [if_pos c8] at H
                have c8b0 : (((rd_T91 l0 x8_1).f1) == (-1)) = true := beq_iff_eq.mpr c8
                have c8b1 : (((rd_T91 l0 x8_1).f1) != (-1)) = false := bne_eq_false_iff_eq.mpr c8
                clear c8
                (first | rw [c8b0] | (simp only [i64_w, i32_w]; rw [c8b0]) | skip)
                have H' := Aside0.mk H
                clear H
                have hcz9_0 : w6.cell? ⟨gb125, 0, none⟩ = some (.int .i64 0) := (blk_cell BK125.out 0).trans rfl
                have hcz9_1 : w6.cell? ⟨gb125, 1, none⟩ = some (.int .i64 0) := (blk_cell BK125.out 1).trans rfl
                have hcz9_2 : w6.cell? ⟨gb125, 2, none⟩ = some (.int .i64 0) := (blk_cell BK125.out 2).trans rfl
                have hcz9_3 : w6.cell? ⟨gb125, 3, none⟩ = some (.int .i64 0) := (blk_cell BK125.out 3).trans rfl
                have hcz9_4 : w6.cell? ⟨gb125, 4, none⟩ = some (.int .i64 0) := (blk_cell BK125.out 4).trans rfl
                have hfz9_0 := blk_frozen BK125.out 0
                have hfz9_1 := blk_frozen BK125.out 1
                have hfz9_2 := blk_frozen BK125.out 2
                have hfz9_3 := blk_frozen BK125.out 3
                have hfz9_4 := blk_frozen BK125.out 4
                go_wp2
                go_meet
                case rel => exact ⟨_, ((((rd_T91 l0 x8_1).f0.f0) == 0 && (((rd_T91 l0 x8_1).f0.f1) == 0 && (((rd_T91 l0 x8_1).f0.f2) == 0 && (((rd_T91 l0 x8_1).f0.f3) == 0))))), (by first | rfl | (simp; done) | (simp [*]; done)), H', ⟨by have := HK1.out; first | omega | exact Nat.le_refl _⟩, ⟨by (with_reducible repeat (first | refine blk_drewN ?_ _ | refine blk_drew ?_ | refine blk_alloc ?_ _)); refine blk_put (cs := #[.int .i64 ((rd_T91 l0 x8_1).f0.f0), .int .i64 ((rd_T91 l0 x8_1).f0.f1), .int .i64 ((rd_T91 l0 x8_1).f0.f2), .int .i64 ((rd_T91 l0 x8_1).f0.f3), .int .i64 0]) ?_ 4 _ rfl; (with_reducible repeat (first | refine blk_drewN ?_ _ | refine blk_drew ?_ | refine blk_alloc ?_ _)); refine blk_put (cs := #[.int .i64 ((rd_T91 l0 x8_1).f0.f0), .int .i64 ((rd_T91 l0 x8_1).f0.f1), .int .i64 ((rd_T91 l0 x8_1).f0.f2), .int .i64 0, .int .i64 0]) ?_ 3 _ rfl; (with_reducible repeat (first | refine blk_drewN ?_ _ | refine blk_drew ?_ | refine blk_alloc ?_ _)); refine blk_put (cs := #[.int .i64 ((rd_T91 l0 x8_1).f0.f0), .int .i64 ((rd_T91 l0 x8_1).f0.f1), .int .i64 0, .int .i64 0, .int .i64 0]) ?_ 2 _ rfl; (with_reducible repeat (first | refine blk_drewN ?_ _ | refine blk_drew ?_ | refine blk_alloc ?_ _)); refine blk_put (cs := #[.int .i64 ((rd_T91 l0 x8_1).f0.f0), .int .i64 0, .int .i64 0, .int .i64 0, .int .i64 0]) ?_ 1 _ rfl; (with_reducible repeat (first | refine blk_drewN ?_ _ | refine blk_drew ?_ | refine blk_alloc ?_ _)); refine blk_put (cs := #[.int .i64 0, .int .i64 0, .int .i64 0, .int .i64 0, .int .i64 0]) ?_ 0 _ rfl; (with_reducible repeat (first | refine blk_drewN ?_ _ | refine blk_drew ?_ | refine blk_alloc ?_ _)); exact BK125.out⟩, ⟨by repeat (first | (with_reducible first | exact HB.out | apply below_alloc | apply pw_below_drewN | apply below_drew1 | refine below_set ?_ GE125.out) | exact HB.out)⟩⟩
              · rw [if_neg c8] at H
                have c8b0 : (((rd_T91 l0 x8_1).f1) == (-1)) = false := beq_eq_false_iff_ne.mpr c8
                have c8b1 : (((rd_T91 l0 x8_1).f1) != (-1)) = true := bne_iff_ne.mpr c8
                (first | rw [c8b0] | (simp only [i64_w, i32_w]; rw [c8b0]) | skip)
                have H' := Aside0.mk H
                clear H
                have hcz10_0 : w6.cell? ⟨gb125, 0, none⟩ = some (.int .i64 0) := (blk_cell BK125.out 0).trans rfl
                have hcz10_1 : w6.cell? ⟨gb125, 1, none⟩ = some (.int .i64 0) := (blk_cell BK125.out 1).trans rfl
                have hcz10_2 : w6.cell? ⟨gb125, 2, none⟩ = some (.int .i64 0) := (blk_cell BK125.out 2).trans rfl
                have hcz10_3 : w6.cell? ⟨gb125, 3, none⟩ = some (.int .i64 0) := (blk_cell BK125.out 3).trans rfl
                have hcz10_4 : w6.cell? ⟨gb125, 4, none⟩ = some (.int .i64 0) := (blk_cell BK125.out 4).trans rfl
                have hfz10_0 := blk_frozen BK125.out 0
                have hfz10_1 := blk_frozen BK125.out 1
                have hfz10_2 := blk_frozen BK125.out 2
                have hfz10_3 := blk_frozen BK125.out 3
                have hfz10_4 := blk_frozen BK125.out 4
                go_wp2
                go_meet
                case rel => exact ⟨_, (false), (by first | rfl | (simp; done) | (simp [*]; done)), H', ⟨by have := HK1.out; first | omega | exact Nat.le_refl _⟩, ⟨by (with_reducible repeat (first | refine blk_drewN ?_ _ | refine blk_drew ?_ | refine blk_alloc ?_ _)); refine blk_put (cs := #[.int .i64 ((rd_T91 l0 x8_1).f0.f0), .int .i64 ((rd_T91 l0 x8_1).f0.f1), .int .i64 ((rd_T91 l0 x8_1).f0.f2), .int .i64 ((rd_T91 l0 x8_1).f0.f3), .int .i64 0]) ?_ 4 _ rfl; (with_reducible repeat (first | refine blk_drewN ?_ _ | refine blk_drew ?_ | refine blk_alloc ?_ _)); refine blk_put (cs := #[.int .i64 ((rd_T91 l0 x8_1).f0.f0), .int .i64 ((rd_T91 l0 x8_1).f0.f1), .int .i64 ((rd_T91 l0 x8_1).f0.f2), .int .i64 0, .int .i64 0]) ?_ 3 _ rfl; (with_reducible repeat (first | refine blk_drewN ?_ _ | refine blk_drew ?_ | refine blk_alloc ?_ _)); refine blk_put (cs := #[.int .i64 ((rd_T91 l0 x8_1).f0.f0), .int .i64 ((rd_T91 l0 x8_1).f0.f1), .int .i64 0, .int .i64 0, .int .i64 0]) ?_ 2 _ rfl; (with_reducible repeat (first | refine blk_drewN ?_ _ | refine blk_drew ?_ | refine blk_alloc ?_ _)); refine blk_put (cs := #[.int .i64 ((rd_T91 l0 x8_1).f0.f0), .int .i64 0, .int .i64 0, .int .i64 0, .int .i64 0]) ?_ 1 _ rfl; (with_reducible repeat (first | refine blk_drewN ?_ _ | refine blk_drew ?_ | refine blk_alloc ?_ _)); refine blk_put (cs := #[.int .i64 0, .int .i64 0, .int .i64 0, .int .i64 0, .int .i64 0]) ?_ 0 _ rfl; (with_reducible repeat (first | refine blk_drewN ?_ _ | refine blk_drew ?_ | refine blk_alloc ?_ _)); exact BK125.out⟩, ⟨by repeat (first | (with_reducible first | exact HB.out | apply below_alloc | apply pw_below_drewN | apply below_drew1 | refine below_set ?_ GE125.out) | exact HB.out)⟩⟩
            case rest =>
              clear HC5
              try clear p1
              try clear q1
              try clear hx1
              try clear c2
              try clear c2b0
              try clear p2
              try clear c3
              try clear c3b0
              try clear c4
              try clear c4b0
              try clear c8
              try clear c8b0
              try clear c8b1
              try clear hcz10_0
              try clear hcz10_1
              try clear hcz10_2
              try clear hcz10_3
              try clear hcz10_4
              try clear hcz7_0
              try clear hcz7_1
              try clear hcz7_2
              try clear hcz7_3
              try clear hcz7_4
              try clear hcz9_0
              try clear hcz9_1
              try clear hcz9_2
              try clear hcz9_3
              try clear hcz9_4
              try clear hfz10_0
              try clear hfz10_1
              try clear hfz10_2
              try clear hfz10_3
              try clear hfz10_4
              try clear hfz7_0
              try clear hfz7_1
              try clear hfz7_2
              try clear hfz7_3
              try clear hfz7_4
              try clear hfz9_0
              try clear hfz9_1
              try clear hfz9_2
              try clear hfz9_3
              try clear hfz9_4
              try clear hx124_0
              try clear hx124_1
              try clear hx124_2
              try clear hx124_3
              try clear hx124_4
              try clear p124
              try clear q124
              obtain ⟨kq, x5_4, rfl, HA, HJ4, BK125, HB⟩ := hcut
              cases kq with
              | zero => exact absurd HA.out (by simp [view_May.j1])
              | succ kj4 =>
                have H := HA.out
                clear HA
                simp only [view_May.j1] at H
                by_cases c11 : x5_4 = true
                · subst c11
                  have H1 : (view_May.l0 kj4 l0 l0 (l0.length : Int) (wrap64 (x8_1 + 1))) = some r := by rw [if_pos rfl] at H; exact H
                  clear H
                  have H := H1
                  clear H1
                  have H' := Aside0.mk H
                  clear H
                  go_wp2
                  go_roundg kj4
                  case measure => have := HK1.out; have := HJ4.out; omega
                  case rel => exact ⟨(wrap64 (x8_1 + 1)), (by first | rfl | (simp; done) | (simp [*]; done)), H', ⟨by have := HK1.out; have := HJ4.out; omega⟩, ⟨by repeat (first | (with_reducible first | exact HB.out | apply below_alloc | apply pw_below_drewN | apply below_drew1 | refine below_set ?_ GE125.out) | exact HB.out)⟩⟩
                · replace c11 := Bool.eq_false_iff.mpr c11
                  subst c11
                  have H1 : ((conf_Time.f ((rd_T91 l0 x8_1).f1)).bind fun t126 => (if t126 = true then ((report_May.f ((rd_T91 l0 x8_1).f0.f0) ((rd_T91 l0 x8_1).f0.f1) ((rd_T91 l0 x8_1).f0.f2) ((rd_T91 l0 x8_1).f0.f3)).bind fun t127 => (if t127 = true then (if ((rd_T91 l0 x8_1).f0.f0) = x8_1 then (view_May.l0 kj4 l0 l0 (l0.length : Int) (wrap64 (x8_1 + 1))) else (some false)) else (some false))) else (some false))) = some r := by rw [if_neg (show ¬ (false = true) by decide)] at H; exact H
                  clear H
                  have H := H1
                  clear H1
                  replace H := Option.bind_eq_some_iff.mp H
                  obtain ⟨t126, A120, H⟩ := H
                  replace H : (if t126 = true then ((report_May.f ((rd_T91 l0 x8_1).f0.f0) ((rd_T91 l0 x8_1).f0.f1) ((rd_T91 l0 x8_1).f0.f2) ((rd_T91 l0 x8_1).f0.f3)).bind fun t127 => (if t127 = true then (if ((rd_T91 l0 x8_1).f0.f0) = x8_1 then (view_May.l0 kj4 l0 l0 (l0.length : Int) (wrap64 (x8_1 + 1))) else (some false)) else (some false))) else (some false)) = some r := H
                  have A12 := Aside0.mk A120
                  clear A120
                  by_cases c13 : t126 = true
                  · subst c13
                    have H1 : ((report_May.f ((rd_T91 l0 x8_1).f0.f0) ((rd_T91 l0 x8_1).f0.f1) ((rd_T91 l0 x8_1).f0.f2) ((rd_T91 l0 x8_1).f0.f3)).bind fun t127 => (if t127 = true then (if ((rd_T91 l0 x8_1).f0.f0) = x8_1 then (view_May.l0 kj4 l0 l0 (l0.length : Int) (wrap64 (x8_1 + 1))) else (some false)) else (some false))) = some r := by rw [if_pos rfl] at H; exact H
                    clear H
                    have H := H1
                    clear H1
                    replace H := Option.bind_eq_some_iff.mp H
                    obtain ⟨t127, A140, H⟩ := H
                    replace H : (if t127 = true then (if ((rd_T91 l0 x8_1).f0.f0) = x8_1 then (view_May.l0 kj4 l0 l0 (l0.length : Int) (wrap64 (x8_1 + 1))) else (some false)) else (some false)) = some r := H
                    have A14 := Aside0.mk A140
                    clear A140
                    by_cases c15 : t127 = true
                    · subst c15
                      have H1 : (if ((rd_T91 l0 x8_1).f0.f0) = x8_1 then (view_May.l0 kj4 l0 l0 (l0.length : Int) (wrap64 (x8_1 + 1))) else (some false)) = some r := by rw [if_pos rfl] at H; exact H
                      clear H
                      have H := H1
                      clear H1
                      by_cases c16 : ((rd_T91 l0 x8_1).f0.f0) = x8_1
                      · rw [if_pos c16] at H
                        have c16b0 : (((rd_T91 l0 x8_1).f0.f0) == x8_1) = true := beq_iff_eq.mpr c16
                        have c16b1 : (((rd_T91 l0 x8_1).f0.f0) != x8_1) = false := bne_eq_false_iff_eq.mpr c16
                        clear c16
                        have H' := Aside0.mk H
                        clear H
                        have hcz17_0 : wc.cell? ⟨gb125, 0, none⟩ = some (.int .i64 ((rd_T91 l0 x8_1).f0.f0)) := (blk_cell BK125.out 0).trans rfl
                        have hcz17_1 : wc.cell? ⟨gb125, 1, none⟩ = some (.int .i64 ((rd_T91 l0 x8_1).f0.f1)) := (blk_cell BK125.out 1).trans rfl
                        have hcz17_2 : wc.cell? ⟨gb125, 2, none⟩ = some (.int .i64 ((rd_T91 l0 x8_1).f0.f2)) := (blk_cell BK125.out 2).trans rfl
                        have hcz17_3 : wc.cell? ⟨gb125, 3, none⟩ = some (.int .i64 ((rd_T91 l0 x8_1).f0.f3)) := (blk_cell BK125.out 3).trans rfl
                        have hcz17_4 : wc.cell? ⟨gb125, 4, none⟩ = some (.int .i64 ((rd_T91 l0 x8_1).f1)) := (blk_cell BK125.out 4).trans rfl
                        have hfz17_0 := blk_frozen BK125.out 0
                        have hfz17_1 := blk_frozen BK125.out 1
                        have hfz17_2 := blk_frozen BK125.out 2
                        have hfz17_3 := blk_frozen BK125.out 3
                        have hfz17_4 := blk_frozen BK125.out 4
                        go_wp2_with (first | (go_at_call 24; (with_reducible refine (conf_Time.calls ((rd_T91 l0 x8_1).f1) true _ A12.out).mono ?_); rintro e w' ⟨rfl, ⟨nd, rfl⟩⟩) | (go_at_call 49; (with_reducible refine (report_May.calls ((rd_T91 l0 x8_1).f0.f0) ((rd_T91 l0 x8_1).f0.f1) ((rd_T91 l0 x8_1).f0.f2) ((rd_T91 l0 x8_1).f0.f3) true _ A14.out).mono ?_); rintro e w18 ⟨rfl, hb⟩; have n0_ := Aside0.mk (blk_below (g := gb125) (o := .cells #[.int .i64 ((rd_T91 l0 x8_1).f0.f0), .int .i64 ((rd_T91 l0 x8_1).f0.f1), .int .i64 ((rd_T91 l0 x8_1).f0.f2), .int .i64 ((rd_T91 l0 x8_1).f0.f3), .int .i64 ((rd_T91 l0 x8_1).f1)] 91 (0, 0)) (by (with_reducible repeat (first | refine blk_drewN ?_ _ | refine blk_drew ?_ | refine blk_alloc ?_ _)); exact BK125.out) hb); have n1_ := Aside0.mk (below_step (by repeat (first | (with_reducible first | exact HB.out | apply below_alloc | apply pw_below_drewN | apply below_drew1 | refine below_set ?_ GE125.out) | exact HB.out)) hb); clear BK125; clear HB; have BK125 := n0_; have HB := n1_; clear n0_ n1_; (try clear hb); (try clear hb2); (try clear hk); (try clear hi); have hcz19_0 : w18.cell? ⟨gb125, 0, none⟩ = some (.int .i64 ((rd_T91 l0 x8_1).f0.f0)) := (blk_cell BK125.out 0).trans rfl; have hcz19_1 : w18.cell? ⟨gb125, 1, none⟩ = some (.int .i64 ((rd_T91 l0 x8_1).f0.f1)) := (blk_cell BK125.out 1).trans rfl; have hcz19_2 : w18.cell? ⟨gb125, 2, none⟩ = some (.int .i64 ((rd_T91 l0 x8_1).f0.f2)) := (blk_cell BK125.out 2).trans rfl; have hcz19_3 : w18.cell? ⟨gb125, 3, none⟩ = some (.int .i64 ((rd_T91 l0 x8_1).f0.f3)) := (blk_cell BK125.out 3).trans rfl; have hcz19_4 : w18.cell? ⟨gb125, 4, none⟩ = some (.int .i64 ((rd_T91 l0 x8_1).f1)) := (blk_cell BK125.out 4).trans rfl; have hfz19_0 := blk_frozen BK125.out 0; have hfz19_1 := blk_frozen BK125.out 1; have hfz19_2 := blk_frozen BK125.out 2; have hfz19_3 := blk_frozen BK125.out 3; have hfz19_4 := blk_frozen BK125.out 4))
                        go_roundg kj4
                        case measure => have := HK1.out; have := HJ4.out; omega
                        case rel => exact ⟨(wrap64 (x8_1 + 1)), (by first | rfl | (simp; done) | (simp [*]; done)), H', ⟨by have := HK1.out; have := HJ4.out; omega⟩, ⟨by repeat (first | (with_reducible first | exact HB.out | apply below_alloc | apply pw_below_drewN | apply below_drew1 | refine below_set ?_ GE125.out) | exact HB.out)⟩⟩
                      · rw [if_neg c16] at H
                        have c16b0 : (((rd_T91 l0 x8_1).f0.f0) == x8_1) = false := beq_eq_false_iff_ne.mpr c16
                        have c16b1 : (((rd_T91 l0 x8_1).f0.f0) != x8_1) = true := bne_iff_ne.mpr c16
                        obtain rfl := Option.some.inj H
                        have hcz20_0 : wc.cell? ⟨gb125, 0, none⟩ = some (.int .i64 ((rd_T91 l0 x8_1).f0.f0)) := (blk_cell BK125.out 0).trans rfl
                        have hcz20_1 : wc.cell? ⟨gb125, 1, none⟩ = some (.int .i64 ((rd_T91 l0 x8_1).f0.f1)) := (blk_cell BK125.out 1).trans rfl
                        have hcz20_2 : wc.cell? ⟨gb125, 2, none⟩ = some (.int .i64 ((rd_T91 l0 x8_1).f0.f2)) := (blk_cell BK125.out 2).trans rfl
                        have hcz20_3 : wc.cell? ⟨gb125, 3, none⟩ = some (.int .i64 ((rd_T91 l0 x8_1).f0.f3)) := (blk_cell BK125.out 3).trans rfl
                        have hcz20_4 : wc.cell? ⟨gb125, 4, none⟩ = some (.int .i64 ((rd_T91 l0 x8_1).f1)) := (blk_cell BK125.out 4).trans rfl
                        have hfz20_0 := blk_frozen BK125.out 0
                        have hfz20_1 := blk_frozen BK125.out 1
                        have hfz20_2 := blk_frozen BK125.out 2
                        have hfz20_3 := blk_frozen BK125.out 3
                        have hfz20_4 := blk_frozen BK125.out 4
                        go_wp2_with (first | (go_at_call 24; (with_reducible refine (conf_Time.calls ((rd_T91 l0 x8_1).f1) true _ A12.out).mono ?_); rintro e w' ⟨rfl, ⟨nd, rfl⟩⟩) | (go_at_call 49; (with_reducible refine (report_May.calls ((rd_T91 l0 x8_1).f0.f0) ((rd_T91 l0 x8_1).f0.f1) ((rd_T91 l0 x8_1).f0.f2) ((rd_T91 l0 x8_1).f0.f3) true _ A14.out).mono ?_); rintro e w21 ⟨rfl, hb⟩; have n0_ := Aside0.mk (blk_below (g := gb125) (o := .cells #[.int .i64 ((rd_T91 l0 x8_1).f0.f0), .int .i64 ((rd_T91 l0 x8_1).f0.f1), .int .i64 ((rd_T91 l0 x8_1).f0.f2), .int .i64 ((rd_T91 l0 x8_1).f0.f3), .int .i64 ((rd_T91 l0 x8_1).f1)] 91 (0, 0)) (by (with_reducible repeat (first | refine blk_drewN ?_ _ | refine blk_drew ?_ | refine blk_alloc ?_ _)); exact BK125.out) hb); have n1_ := Aside0.mk (below_step (by repeat (first | (with_reducible first | exact HB.out | apply below_alloc | apply pw_below_drewN | apply below_drew1 | refine below_set ?_ GE125.out) | exact HB.out)) hb); clear BK125; clear HB; have BK125 := n0_; have HB := n1_; clear n0_ n1_; (try clear hb); (try clear hb2); (try clear hk); (try clear hi); have hcz22_0 : w21.cell? ⟨gb125, 0, none⟩ = some (.int .i64 ((rd_T91 l0 x8_1).f0.f0)) := (blk_cell BK125.out 0).trans rfl; have hcz22_1 : w21.cell? ⟨gb125, 1, none⟩ = some (.int .i64 ((rd_T91 l0 x8_1).f0.f1)) := (blk_cell BK125.out 1).trans rfl; have hcz22_2 : w21.cell? ⟨gb125, 2, none⟩ = some (.int .i64 ((rd_T91 l0 x8_1).f0.f2)) := (blk_cell BK125.out 2).trans rfl; have hcz22_3 : w21.cell? ⟨gb125, 3, none⟩ = some (.int .i64 ((rd_T91 l0 x8_1).f0.f3)) := (blk_cell BK125.out 3).trans rfl; have hcz22_4 : w21.cell? ⟨gb125, 4, none⟩ = some (.int .i64 ((rd_T91 l0 x8_1).f1)) := (blk_cell BK125.out 4).trans rfl; have hfz22_0 := blk_frozen BK125.out 0; have hfz22_1 := blk_frozen BK125.out 1; have hfz22_2 := blk_frozen BK125.out 2; have hfz22_3 := blk_frozen BK125.out 3; have hfz22_4 := blk_frozen BK125.out 4))
                        go_ret
                        exact ⟨by first | rfl | (simp [errW_none, errW_some] <;> rfl) | (simp [*, errW_none, errW_some] <;> rfl), by repeat (first | (with_reducible first | exact HB.out | apply below_alloc | apply pw_below_drewN | apply below_drew1 | refine below_set ?_ GE125.out) | exact HB.out)⟩
                    · replace c15 := Bool.eq_false_iff.mpr c15
                      subst c15
                      have H1 : (some false) = some r := by rw [if_neg (show ¬ (false = true) by decide)] at H; exact H
                      clear H
                      have H := H1
                      clear H1
                      obtain rfl := Option.some.inj H
                      have hcz23_0 : wc.cell? ⟨gb125, 0, none⟩ = some (.int .i64 ((rd_T91 l0 x8_1).f0.f0)) := (blk_cell BK125.out 0).trans rfl
                      have hcz23_1 : wc.cell? ⟨gb125, 1, none⟩ = some (.int .i64 ((rd_T91 l0 x8_1).f0.f1)) := (blk_cell BK125.out 1).trans rfl
                      have hcz23_2 : wc.cell? ⟨gb125, 2, none⟩ = some (.int .i64 ((rd_T91 l0 x8_1).f0.f2)) := (blk_cell BK125.out 2).trans rfl
                      have hcz23_3 : wc.cell? ⟨gb125, 3, none⟩ = some (.int .i64 ((rd_T91 l0 x8_1).f0.f3)) := (blk_cell BK125.out 3).trans rfl
                      have hcz23_4 : wc.cell? ⟨gb125, 4, none⟩ = some (.int .i64 ((rd_T91 l0 x8_1).f1)) := (blk_cell BK125.out 4).trans rfl
                      have hfz23_0 := blk_frozen BK125.out 0
                      have hfz23_1 := blk_frozen BK125.out 1
                      have hfz23_2 := blk_frozen BK125.out 2
                      have hfz23_3 := blk_frozen BK125.out 3
                      have hfz23_4 := blk_frozen BK125.out 4
                      go_wp2_with (first | (go_at_call 24; (with_reducible refine (conf_Time.calls ((rd_T91 l0 x8_1).f1) true _ A12.out).mono ?_); rintro e w' ⟨rfl, ⟨nd, rfl⟩⟩) | (go_at_call 49; (with_reducible refine (report_May.calls ((rd_T91 l0 x8_1).f0.f0) ((rd_T91 l0 x8_1).f0.f1) ((rd_T91 l0 x8_1).f0.f2) ((rd_T91 l0 x8_1).f0.f3) false _ A14.out).mono ?_); rintro e w24 ⟨rfl, hb⟩; have n0_ := Aside0.mk (blk_below (g := gb125) (o := .cells #[.int .i64 ((rd_T91 l0 x8_1).f0.f0), .int .i64 ((rd_T91 l0 x8_1).f0.f1), .int .i64 ((rd_T91 l0 x8_1).f0.f2), .int .i64 ((rd_T91 l0 x8_1).f0.f3), .int .i64 ((rd_T91 l0 x8_1).f1)] 91 (0, 0)) (by (with_reducible repeat (first | refine blk_drewN ?_ _ | refine blk_drew ?_ | refine blk_alloc ?_ _)); exact BK125.out) hb); have n1_ := Aside0.mk (below_step (by repeat (first | (with_reducible first | exact HB.out | apply below_alloc | apply pw_below_drewN | apply below_drew1 | refine below_set ?_ GE125.out) | exact HB.out)) hb); clear BK125; clear HB; have BK125 := n0_; have HB := n1_; clear n0_ n1_; (try clear hb); (try clear hb2); (try clear hk); (try clear hi)))
                      go_ret
                      exact ⟨by first | rfl | (simp [errW_none, errW_some] <;> rfl) | (simp [*, errW_none, errW_some] <;> rfl), by repeat (first | (with_reducible first | exact HB.out | apply below_alloc | apply pw_below_drewN | apply below_drew1 | refine below_set ?_ GE125.out) | exact HB.out)⟩
                  · replace c13 := Bool.eq_false_iff.mpr c13
                    subst c13
                    have H1 : (some false) = some r := by rw [if_neg (show ¬ (false = true) by decide)] at H; exact H
                    clear H
                    have H := H1
                    clear H1
                    obtain rfl := Option.some.inj H
                    have hcz25_0 : wc.cell? ⟨gb125, 0, none⟩ = some (.int .i64 ((rd_T91 l0 x8_1).f0.f0)) := (blk_cell BK125.out 0).trans rfl
                    have hcz25_1 : wc.cell? ⟨gb125, 1, none⟩ = some (.int .i64 ((rd_T91 l0 x8_1).f0.f1)) := (blk_cell BK125.out 1).trans rfl
                    have hcz25_2 : wc.cell? ⟨gb125, 2, none⟩ = some (.int .i64 ((rd_T91 l0 x8_1).f0.f2)) := (blk_cell BK125.out 2).trans rfl
                    have hcz25_3 : wc.cell? ⟨gb125, 3, none⟩ = some (.int .i64 ((rd_T91 l0 x8_1).f0.f3)) := (blk_cell BK125.out 3).trans rfl
                    have hcz25_4 : wc.cell? ⟨gb125, 4, none⟩ = some (.int .i64 ((rd_T91 l0 x8_1).f1)) := (blk_cell BK125.out 4).trans rfl
                    have hfz25_0 := blk_frozen BK125.out 0
                    have hfz25_1 := blk_frozen BK125.out 1
                    have hfz25_2 := blk_frozen BK125.out 2
                    have hfz25_3 := blk_frozen BK125.out 3
                    have hfz25_4 := blk_frozen BK125.out 4
                    go_wp2_with (first | (go_at_call 24; (with_reducible refine (conf_Time.calls ((rd_T91 l0 x8_1).f1) false _ A12.out).mono ?_); rintro e w' ⟨rfl, ⟨nd, rfl⟩⟩))
                    go_ret
                    exact ⟨by first | rfl | (simp [errW_none, errW_some] <;> rfl) | (simp [*, errW_none, errW_some] <;> rfl), by repeat (first | (with_reducible first | exact HB.out | apply below_alloc | apply pw_below_drewN | apply below_drew1 | refine below_set ?_ GE125.out) | exact HB.out)⟩
          · rw [if_neg c4] at H
            exact absurd H (by simp)
        · rw [if_neg c3] at H
          exact absurd H (by simp)
      · rw [if_neg c2] at H
        have c2b0 : decide (x8_1 < (l0.length : Int)) = false := decide_eq_false c2
        clear c2
        obtain rfl := Option.some.inj H
        go_wp2
        go_ret
        exact ⟨by first | rfl | (simp [errW_none, errW_some] <;> rfl) | (simp [*, errW_none, errW_some] <;> rfl), by repeat (first | (with_reducible first | exact HB.out | apply below_alloc | apply pw_below_drewN | apply below_drew1) | exact HB.out)⟩

end Go.Proofs.Ytlapbhgkmmeeoaa.PSpareRoom
