/- Contracts: what calls of these functions of the program do, each as a plain function; written by a program of this session. -/
import Derived.Test.YtnocfhnandedoaaPCandsx0
import Derived.Test.YtnocfhnandedoaaPCandsx14
import Derived.Test.YtnocfhnandedoaaPCandsx16
import Derived.Test.YtnocfhnandedoaaPCandsx20
namespace Go.Proofs.Ytnocfhnandedoaa.PCands
open Go.RowKit Go.Proofs.YtnocfhnandedoaaW.PrintWords Go.Proofs.YtnocfhnandedoaaW.PrintLast Go.Proofs.YtnocfhnandedoaaW.PrintMore
attribute [local go_sem] max2_int min2_int max_two min_two max_three min_three max_four min_four   -- for this text's walks alone
set_option linter.unusedVariables false
set_option linter.unusedSimpArgs false

/-! ### wharfageref10_BacksOf: function 30 -/
mutual
def wharfageref10_BacksOf.j0 : Nat → Int → List (S67) → Bool → Int → List (S70) → Option ((List (S72)) × Int)
  | 0, _, _, _, _, _ => none
  | k + 1, x1, x2, x24, x160000, x160001 => if x24 = true then (some (([] : List (S72)), 1300)) else (if 0 ≤ x1 then (if x1 < (x160001.length : Int) then (wharfageref10_BacksOf.l0 k x2 ([] : List (S72)) ((rd_T70 x160001 x1).f3) 0) else (none)) else (none))
def wharfageref10_BacksOf.l0 : Nat → List (S67) → List (S72) → List (S74) → Int → Option ((List (S72)) × Int)
  | 0, _, _, _, _ => none
  | k + 1, x2, x8, x9, x10 => if x10 < (x9.length : Int) then (if 0 ≤ x10 then (if x10 < (x2.length : Int) then (if (rd_T67 x2 x10).f0 = true then (if (rd_T74 x9 x10).f1 = true then (wharfageref10_BacksOf.l0 k x2 x8 x9 (wrap64 (x10 + 1))) else (if ((rd_T74 x9 x10).f0) > 0 then (if x8.length < 8796093022208 then (wharfageref10_BacksOf.l0 k x2 (x8 ++ [(⟨x10, (rd_T74 x9 x10).f0⟩ : S72)]) x9 (wrap64 (x10 + 1))) else (none)) else (wharfageref10_BacksOf.l0 k x2 x8 x9 (wrap64 (x10 + 1))))) else (wharfageref10_BacksOf.l0 k x2 x8 x9 (wrap64 (x10 + 1)))) else (none)) else (none)) else (some (x8, 0))
end
def wharfageref10_BacksOf.f (k : Nat) (a0_0 : Int) (l0_1 : List (S70)) (a1 : Int) (l2 : List (S67)) : Option ((List (S72)) × Int) := (wharfageref10_ConfMay.f k a0_0 l0_1).bind fun t160 => (if t160 = true then ((wharfageref10_healthsMay.f k l2 4).bind fun t161 => (if t161 = true then ((wharfageref10_Has.f k a0_0 l0_1 a1 (-1)).bind fun t162 => (wharfageref10_BacksOf.j0 k a1 l2 (!t162) a0_0 l0_1)) else (wharfageref10_BacksOf.j0 k a1 l2 true a0_0 l0_1))) else (wharfageref10_BacksOf.j0 k a1 l2 true a0_0 l0_1))
theorem wharfageref10_BacksOf.mono_l : ∀ k, (∀ y0 y1 y2 y3 y4, LeO (wharfageref10_BacksOf.j0 k y0 y1 y2 y3 y4) (wharfageref10_BacksOf.j0 (k + 1) y0 y1 y2 y3 y4)) ∧ (∀ y0 y1 y2 y3, LeO (wharfageref10_BacksOf.l0 k y0 y1 y2 y3) (wharfageref10_BacksOf.l0 (k + 1) y0 y1 y2 y3))
  | 0 => ⟨fun _ _ _ _ _ r h => by simp [wharfageref10_BacksOf.j0] at h, fun _ _ _ _ r h => by simp [wharfageref10_BacksOf.l0] at h⟩
  | k + 1 => by
    obtain ⟨ih0, ih1⟩ := wharfageref10_BacksOf.mono_l k
    refine ⟨?_, ?_⟩
    · intro y0 y1 y2 y3 y4
      unfold wharfageref10_BacksOf.j0
      repeat' first
      | (with_reducible exact ih0 _ _ _ _ _)
      | (with_reducible exact ih1 _ _ _ _)
      | (with_reducible exact wharfageref10_ConfMay.mono _ _ _)
      | (with_reducible exact wharfageref10_Has.mono _ _ _ _ _)
      | (with_reducible exact wharfageref10_healthsMay.mono _ _ _)
      | (with_reducible exact LeO.refl _)
      | (with_reducible exact LeO.none _)
      | (with_reducible refine LeO.ite ?_ ?_)
      | (with_reducible refine LeO.bind ?_ (fun _ => ?_))
      | exact ih0 _ _ _ _ _
      | exact ih1 _ _ _ _
      | exact wharfageref10_ConfMay.mono _ _ _
      | exact wharfageref10_Has.mono _ _ _ _ _
      | exact wharfageref10_healthsMay.mono _ _ _
      | exact LeO.none _
      | refine LeO.ite ?_ ?_
      | refine LeO.bind ?_ (fun _ => ?_)
    · intro y0 y1 y2 y3
      unfold wharfageref10_BacksOf.l0
      repeat' first
      | (with_reducible exact ih0 _ _ _ _ _)
      | (with_reducible exact ih1 _ _ _ _)
      | (with_reducible exact wharfageref10_ConfMay.mono _ _ _)
      | (with_reducible exact wharfageref10_Has.mono _ _ _ _ _)
      | (with_reducible exact wharfageref10_healthsMay.mono _ _ _)
      | (with_reducible exact LeO.refl _)
      | (with_reducible exact LeO.none _)
      | (with_reducible refine LeO.ite ?_ ?_)
      | (with_reducible refine LeO.bind ?_ (fun _ => ?_))
      | exact ih0 _ _ _ _ _
      | exact ih1 _ _ _ _
      | exact wharfageref10_ConfMay.mono _ _ _
      | exact wharfageref10_Has.mono _ _ _ _ _
      | exact wharfageref10_healthsMay.mono _ _ _
      | exact LeO.none _
      | refine LeO.ite ?_ ?_
      | refine LeO.bind ?_ (fun _ => ?_)
theorem wharfageref10_BacksOf.mono : ∀ a0 a1 a2 a3 k, LeO (wharfageref10_BacksOf.f k a0 a1 a2 a3) (wharfageref10_BacksOf.f (k + 1) a0 a1 a2 a3) := by
  intro a0 a1 a2 a3 k
  obtain ⟨ih0, ih1⟩ := wharfageref10_BacksOf.mono_l k
  unfold wharfageref10_BacksOf.f
  repeat' first
      | (with_reducible exact ih0 _ _ _ _ _)
      | (with_reducible exact ih1 _ _ _ _)
      | (with_reducible exact wharfageref10_ConfMay.mono _ _ _)
      | (with_reducible exact wharfageref10_Has.mono _ _ _ _ _)
      | (with_reducible exact wharfageref10_healthsMay.mono _ _ _)
      | (with_reducible exact LeO.refl _)
      | (with_reducible exact LeO.none _)
      | (with_reducible refine LeO.ite ?_ ?_)
      | (with_reducible refine LeO.bind ?_ (fun _ => ?_))
      | exact ih0 _ _ _ _ _
      | exact ih1 _ _ _ _
      | exact wharfageref10_ConfMay.mono _ _ _
      | exact wharfageref10_Has.mono _ _ _ _ _
      | exact wharfageref10_healthsMay.mono _ _ _
      | exact LeO.none _
      | refine LeO.ite ?_ ?_
      | refine LeO.bind ?_ (fun _ => ?_)
set_option maxHeartbeats 8000000 in
set_option maxRecDepth 100000 in
theorem wharfageref10_BacksOf.calls (k : Nat) (a0_0 : Int) (A0_1 : Option Addr) (c0_1 : Nat) (l0_1 : List (S70)) (a1 : Int) (A2 : Option Addr) (c2 : Nat) (l2 : List (S67)) (r1 : List (S72)) (r2 : Int) (w : World) (hr0_1 : Kd.C k70 w A0_1 l0_1.length l0_1) (hc0_1 : l0_1.length ≤ c0_1) (hr2 : Kd.C k67 w A2 l2.length l2) (hc2 : l2.length ≤ c2) (h : wharfageref10_BacksOf.f k a0_0 l0_1 a1 l2 = some (r1, r2)) :
    Calls Try.prog 30 #[.agg #[.int .i64 a0_0, .slice A0_1 l0_1.length c0_1], .int .i64 a1, .slice A2 l2.length c2] w fun e w' => ∃ v0_ : Value, e = .returned (.tuple #[v0_, .int .i64 r2]) ∧ Kd.R k72 72 w' w.heap.size (fun _ => True) v0_ r1 ∧ Below w.heap.size w w' := by
  have hu49 := Try.underlying49
  have hu72 := Try.underlying72
  have HR0_1 := Aside0.mk hr0_1
  have HC0_1 := Aside0.mk hc0_1
  clear hr0_1 hc0_1
  have HR2 := Aside0.mk hr2
  have HC2 := Aside0.mk hc2
  clear hr2 hc2
  have HB := Aside0.mk (Below.refl w.heap.size w)
  have H : ((wharfageref10_ConfMay.f k a0_0 l0_1).bind fun t160 => (if t160 = true then ((wharfageref10_healthsMay.f k l2 4).bind fun t161 => (if t161 = true then ((wharfageref10_Has.f k a0_0 l0_1 a1 (-1)).bind fun t162 => (wharfageref10_BacksOf.j0 k a1 l2 (!t162) a0_0 l0_1)) else (wharfageref10_BacksOf.j0 k a1 l2 true a0_0 l0_1))) else (wharfageref10_BacksOf.j0 k a1 l2 true a0_0 l0_1))) = some (r1, r2) := h
  clear h
  have HC4 := Aside0.mk H
  clear H
  go_enter Try.func30, Try.ntmps30
  go_upto_region 1 with (first | ((with_reducible refine gate_dst (N := 3) rfl ?_); refine box_event ?hg (N := 3) ?hd (cs := #[.int .i64 a0_0, .slice A0_1 l0_1.length c0_1]) (t := 49) ?hr ?_; (case hd => rfl); (case hg => rfl); (case hr => first | (go_simp; done) | (go_simp; rfl)); intro gb159 hg w5 hbox hb; have n0_ := Aside0.mk (below_step (by repeat (first | (with_reducible first | exact HB.out | apply below_alloc | apply pw_below_drewN | apply below_drew1) | exact HB.out)) hb); have n1_ := Aside0.mk (hbox); have n2_ := Aside0.mk ((by rw [hg]; exact (below_size (by repeat (first | (with_reducible first | exact HB.out | apply below_alloc | apply pw_below_drewN | apply below_drew1) | exact HB.out))) : w.heap.size ≤ gb159)); have n3_ := Aside0.mk ((by rw [hg]; exact (below_size (by repeat (first | (with_reducible first | exact HB.out | apply below_alloc | apply pw_below_drewN | apply below_drew1) | exact HB.out))) : w.heap.size ≤ gb159)); clear HB; have HB := n0_; have BK159 := n1_; have GW159 := n2_; have GE159 := n3_; clear n0_ n1_ n2_ n3_; clear hb hbox hg))
  (try simp only [Act.put, List.setIfInBounds_toArray, List.set_cons_zero, List.set_cons_succ])
  go_cut [24] (fun v24 wc => ∃ (kq : Nat) (x24_3 : Bool), v24 = .bool x24_3 ∧ Aside0 (wharfageref10_BacksOf.j0 kq a1 l2 x24_3 a0_0 l0_1 = some (r1, r2)) ∧ Aside0 (kq ≤ k) ∧ Aside0 (wc.heap[gb159]? = some (.cells #[.int .i64 a0_0, (.slice A0_1 l0_1.length c0_1)] 49 (0, 0))) ∧ Aside0 (Below w.heap.size w wc))
  case first =>
    have H := HC4.out
    clear HC4
    replace H := Option.bind_eq_some_iff.mp H
    obtain ⟨t160, A60, H⟩ := H
    replace H : (if t160 = true then ((wharfageref10_healthsMay.f k l2 4).bind fun t161 => (if t161 = true then ((wharfageref10_Has.f k a0_0 l0_1 a1 (-1)).bind fun t162 => (wharfageref10_BacksOf.j0 k a1 l2 (!t162) a0_0 l0_1)) else (wharfageref10_BacksOf.j0 k a1 l2 true a0_0 l0_1))) else (wharfageref10_BacksOf.j0 k a1 l2 true a0_0 l0_1)) = some (r1, r2) := H
    have A6 := Aside0.mk A60
    clear A60
    by_cases c7 : t160 = true
    · subst c7
      have H1 : ((wharfageref10_healthsMay.f k l2 4).bind fun t161 => (if t161 = true then ((wharfageref10_Has.f k a0_0 l0_1 a1 (-1)).bind fun t162 => (wharfageref10_BacksOf.j0 k a1 l2 (!t162) a0_0 l0_1)) else (wharfageref10_BacksOf.j0 k a1 l2 true a0_0 l0_1))) = some (r1, r2) := by rw [if_pos rfl] at H; exact H
      clear H
      have H := H1
      clear H1
      replace H := Option.bind_eq_some_iff.mp H
      obtain ⟨t161, A80, H⟩ := H
      replace H : (if t161 = true then ((wharfageref10_Has.f k a0_0 l0_1 a1 (-1)).bind fun t162 => (wharfageref10_BacksOf.j0 k a1 l2 (!t162) a0_0 l0_1)) else (wharfageref10_BacksOf.j0 k a1 l2 true a0_0 l0_1)) = some (r1, r2) := H
      have A8 := Aside0.mk A80
      clear A80
      by_cases c9 : t161 = true
      · subst c9
        have H1 : ((wharfageref10_Has.f k a0_0 l0_1 a1 (-1)).bind fun t162 => (wharfageref10_BacksOf.j0 k a1 l2 (!t162) a0_0 l0_1)) = some (r1, r2) := by rw [if_pos rfl] at H; exact H
        clear H
        have H := H1
        clear H1
        replace H := Option.bind_eq_some_iff.mp H
        obtain ⟨t162, A100, H⟩ := H
        replace H : (wharfageref10_BacksOf.j0 k a1 l2 (!t162) a0_0 l0_1) = some (r1, r2) := H
        have A10 := Aside0.mk A100
        clear A100
        have H' := Aside0.mk H
        clear H
        have hcz11_0 : w5.cell? ⟨gb159, 0, none⟩ = some (.int .i64 a0_0) := (blk_cell BK159.out 0).trans rfl
        have hcz11_1 : w5.cell? ⟨gb159, 1, none⟩ = some (.slice A0_1 l0_1.length c0_1) := (blk_cell BK159.out 1).trans rfl
        have hfz11_0 := blk_frozen BK159.out 0
        have hfz11_1 := blk_frozen BK159.out 1
        go_wp2_with (first | ((with_reducible refine gate_callee (f := 62) rfl ?_); refine goesL_ (some 12) rfl rfl Try.func62 (by kernel_rfl) rfl #[.agg #[.int .i64 a0_0, .slice A0_1 l0_1.length c0_1]] rfl (by (try simp only [List.map_toArray, List.map_cons, List.map_nil]); first | done | rfl | (simp only [List.length_drop, List.length_take]; rfl)) ?_; (with_reducible refine (wharfageref10_ConfMay.calls k a0_0 _ _ l0_1 true _ ?side1 ?side2 A6.out).mono ?_); (case side1 => repeat (first | exact (Kd.C_below HR0_1.out HB.out) | (with_reducible refine Kd.C_alloc ?_ _) | (with_reducible refine Kd.C_drewN ?_ _) | (with_reducible refine Kd.C_drew ?_))); (case side2 => exact HC0_1.out); rintro e w12 ⟨rfl, hb⟩; refine ⟨_, rfl, ?_⟩; have n0_ := Aside0.mk (blk_below (g := gb159) (o := .cells #[.int .i64 a0_0, .slice A0_1 l0_1.length c0_1] 49 (0, 0)) (by (with_reducible repeat (first | refine blk_drewN ?_ _ | refine blk_drew ?_ | refine blk_alloc ?_ _)); exact BK159.out) hb); have n1_ := Aside0.mk (below_step (by repeat (first | (with_reducible first | exact HB.out | apply below_alloc | apply pw_below_drewN | apply below_drew1 | refine below_set ?_ GE159.out) | exact HB.out)) hb); clear BK159; clear HB; have BK159 := n0_; have HB := n1_; clear n0_ n1_; (try clear hb); (try clear hb2); (try clear hk); (try clear hi)) | (go_at_call 63; (with_reducible refine (wharfageref10_healthsMay.calls k _ _ l2 4 true _ ?side1 ?side2 A8.out).mono ?_); (case side1 => repeat (first | exact (Kd.C_below HR2.out HB.out) | (with_reducible refine Kd.C_alloc ?_ _) | (with_reducible refine Kd.C_drewN ?_ _) | (with_reducible refine Kd.C_drew ?_))); (case side2 => exact HC2.out); rintro e w13 ⟨rfl, hb⟩; have n0_ := Aside0.mk (blk_below (g := gb159) (o := .cells #[.int .i64 a0_0, .slice A0_1 l0_1.length c0_1] 49 (0, 0)) (by (with_reducible repeat (first | refine blk_drewN ?_ _ | refine blk_drew ?_ | refine blk_alloc ?_ _)); exact BK159.out) hb); have n1_ := Aside0.mk (below_step (by repeat (first | (with_reducible first | exact HB.out | apply below_alloc | apply pw_below_drewN | apply below_drew1 | refine below_set ?_ GE159.out) | exact HB.out)) hb); clear BK159; clear HB; have BK159 := n0_; have HB := n1_; clear n0_ n1_; (try clear hb); (try clear hb2); (try clear hk); (try clear hi); have hcz14_0 : w13.cell? ⟨gb159, 0, none⟩ = some (.int .i64 a0_0) := (blk_cell BK159.out 0).trans rfl; have hcz14_1 : w13.cell? ⟨gb159, 1, none⟩ = some (.slice A0_1 l0_1.length c0_1) := (blk_cell BK159.out 1).trans rfl; have hfz14_0 := blk_frozen BK159.out 0; have hfz14_1 := blk_frozen BK159.out 1) | (go_at_call 65; (with_reducible refine (wharfageref10_Has.calls k a0_0 _ _ l0_1 a1 (-1) t162 _ ?side1 ?side2 A10.out).mono ?_); (case side1 => repeat (first | exact (Kd.C_below HR0_1.out HB.out) | (with_reducible refine Kd.C_alloc ?_ _) | (with_reducible refine Kd.C_drewN ?_ _) | (with_reducible refine Kd.C_drew ?_))); (case side2 => exact HC0_1.out); rintro e w15 ⟨rfl, hb⟩; have n0_ := Aside0.mk (blk_below (g := gb159) (o := .cells #[.int .i64 a0_0, .slice A0_1 l0_1.length c0_1] 49 (0, 0)) (by (with_reducible repeat (first | refine blk_drewN ?_ _ | refine blk_drew ?_ | refine blk_alloc ?_ _)); exact BK159.out) hb); have n1_ := Aside0.mk (below_step (by repeat (first | (with_reducible first | exact HB.out | apply below_alloc | apply pw_below_drewN | apply below_drew1 | refine below_set ?_ GE159.out) | exact HB.out)) hb); clear BK159; clear HB; have BK159 := n0_; have HB := n1_; clear n0_ n1_; (try clear hb); (try clear hb2); (try clear hk); (try clear hi)))
        go_meet
        case rel => exact ⟨_, (!t162), (by first | rfl | (simp; done) | (simp [*]; done)), H', ⟨by first | omega | exact Nat.le_refl _⟩, ⟨by (with_reducible repeat (first | refine blk_drewN ?_ _ | refine blk_drew ?_ | refine blk_alloc ?_ _)); exact BK159.out⟩, ⟨by repeat (first | (with_reducible first | exact HB.out | apply below_alloc | apply pw_below_drewN | apply below_drew1 | refine below_set ?_ GE159.out) | exact HB.out)⟩⟩
      · replace c9 := Bool.eq_false_iff.mpr c9
        subst c9
        have H1 : (wharfageref10_BacksOf.j0 k a1 l2 true a0_0 l0_1) = some (r1, r2) := by rw [if_neg (show ¬ (false = true) by decide)] at H; exact H
        clear H
        have H := H1
        clear H1
        have H' := Aside0.mk H
        clear H
        have hcz16_0 : w5.cell? ⟨gb159, 0, none⟩ = some (.int .i64 a0_0) := (blk_cell BK159.out 0).trans rfl
        have hcz16_1 : w5.cell? ⟨gb159, 1, none⟩ = some (.slice A0_1 l0_1.length c0_1) := (blk_cell BK159.out 1).trans rfl
        have hfz16_0 := blk_frozen BK159.out 0
        have hfz16_1 := blk_frozen BK159.out 1
        go_wp2_with (first | ((with_reducible refine gate_callee (f := 62) rfl ?_); refine goesL_ (some 12) rfl rfl Try.func62 (by kernel_rfl) rfl #[.agg #[.int .i64 a0_0, .slice A0_1 l0_1.length c0_1]] rfl (by (try simp only [List.map_toArray, List.map_cons, List.map_nil]); first | done | rfl | (simp only [List.length_drop, List.length_take]; rfl)) ?_; (with_reducible refine (wharfageref10_ConfMay.calls k a0_0 _ _ l0_1 true _ ?side1 ?side2 A6.out).mono ?_); (case side1 => repeat (first | exact (Kd.C_below HR0_1.out HB.out) | (with_reducible refine Kd.C_alloc ?_ _) | (with_reducible refine Kd.C_drewN ?_ _) | (with_reducible refine Kd.C_drew ?_))); (case side2 => exact HC0_1.out); rintro e w17 ⟨rfl, hb⟩; refine ⟨_, rfl, ?_⟩; have n0_ := Aside0.mk (blk_below (g := gb159) (o := .cells #[.int .i64 a0_0, .slice A0_1 l0_1.length c0_1] 49 (0, 0)) (by (with_reducible repeat (first | refine blk_drewN ?_ _ | refine blk_drew ?_ | refine blk_alloc ?_ _)); exact BK159.out) hb); have n1_ := Aside0.mk (below_step (by repeat (first | (with_reducible first | exact HB.out | apply below_alloc | apply pw_below_drewN | apply below_drew1 | refine below_set ?_ GE159.out) | exact HB.out)) hb); clear BK159; clear HB; have BK159 := n0_; have HB := n1_; clear n0_ n1_; (try clear hb); (try clear hb2); (try clear hk); (try clear hi)) | (go_at_call 63; (with_reducible refine (wharfageref10_healthsMay.calls k _ _ l2 4 false _ ?side1 ?side2 A8.out).mono ?_); (case side1 => repeat (first | exact (Kd.C_below HR2.out HB.out) | (with_reducible refine Kd.C_alloc ?_ _) | (with_reducible refine Kd.C_drewN ?_ _) | (with_reducible refine Kd.C_drew ?_))); (case side2 => exact HC2.out); rintro e w18 ⟨rfl, hb⟩; have n0_ := Aside0.mk (blk_below (g := gb159) (o := .cells #[.int .i64 a0_0, .slice A0_1 l0_1.length c0_1] 49 (0, 0)) (by (with_reducible repeat (first | refine blk_drewN ?_ _ | refine blk_drew ?_ | refine blk_alloc ?_ _)); exact BK159.out) hb); have n1_ := Aside0.mk (below_step (by repeat (first | (with_reducible first | exact HB.out | apply below_alloc | apply pw_below_drewN | apply below_drew1 | refine below_set ?_ GE159.out) | exact HB.out)) hb); clear BK159; clear HB; have BK159 := n0_; have HB := n1_; clear n0_ n1_; (try clear hb); (try clear hb2); (try clear hk); (try clear hi)))
        go_meet
        case rel => exact ⟨_, (true), (by first | rfl | (simp; done) | (simp [*]; done)), H', ⟨by first | omega | exact Nat.le_refl _⟩, ⟨by (with_reducible repeat (first | refine blk_drewN ?_ _ | refine blk_drew ?_ | refine blk_alloc ?_ _)); exact BK159.out⟩, ⟨by repeat (first | (with_reducible first | exact HB.out | apply below_alloc | apply pw_below_drewN | apply below_drew1 | refine below_set ?_ GE159.out) | exact HB.out)⟩⟩
    · replace c7 := Bool.eq_false_iff.mpr c7
      subst c7
      have H1 : (wharfageref10_BacksOf.j0 k a1 l2 true a0_0 l0_1) = some (r1, r2) := by rw [if_neg (show ¬ (false = true) by decide)] at H; exact H
      clear H
      have H := H1
      clear H1
      have H' := Aside0.mk H
      clear H
      have hcz19_0 : w5.cell? ⟨gb159, 0, none⟩ = some (.int .i64 a0_0) := (blk_cell BK159.out 0).trans rfl
      have hcz19_1 : w5.cell? ⟨gb159, 1, none⟩ = some (.slice A0_1 l0_1.length c0_1) := (blk_cell BK159.out 1).trans rfl
      have hfz19_0 := blk_frozen BK159.out 0
      have hfz19_1 := blk_frozen BK159.out 1
      go_wp2_with (first | ((with_reducible refine gate_callee (f := 62) rfl ?_); refine goesL_ (some 12) rfl rfl Try.func62 (by kernel_rfl) rfl #[.agg #[.int .i64 a0_0, .slice A0_1 l0_1.length c0_1]] rfl (by (try simp only [List.map_toArray, List.map_cons, List.map_nil]); first | done | rfl | (simp only [List.length_drop, List.length_take]; rfl)) ?_; (with_reducible refine (wharfageref10_ConfMay.calls k a0_0 _ _ l0_1 false _ ?side1 ?side2 A6.out).mono ?_); (case side1 => repeat (first | exact (Kd.C_below HR0_1.out HB.out) | (with_reducible refine Kd.C_alloc ?_ _) | (with_reducible refine Kd.C_drewN ?_ _) | (with_reducible refine Kd.C_drew ?_))); (case side2 => exact HC0_1.out); rintro e w20 ⟨rfl, hb⟩; refine ⟨_, rfl, ?_⟩; have n0_ := Aside0.mk (blk_below (g := gb159) (o := .cells #[.int .i64 a0_0, .slice A0_1 l0_1.length c0_1] 49 (0, 0)) (by (with_reducible repeat (first | refine blk_drewN ?_ _ | refine blk_drew ?_ | refine blk_alloc ?_ _)); exact BK159.out) hb); have n1_ := Aside0.mk (below_step (by repeat (first | (with_reducible first | exact HB.out | apply below_alloc | apply pw_below_drewN | apply below_drew1 | refine below_set ?_ GE159.out) | exact HB.out)) hb); clear BK159; clear HB; have BK159 := n0_; have HB := n1_; clear n0_ n1_; (try clear hb); (try clear hb2); (try clear hk); (try clear hi)))
      go_meet
      case rel => exact ⟨_, (true), (by first | rfl | (simp; done) | (simp [*]; done)), H', ⟨by first | omega | exact Nat.le_refl _⟩, ⟨by (with_reducible repeat (first | refine blk_drewN ?_ _ | refine blk_drew ?_ | refine blk_alloc ?_ _)); exact BK159.out⟩, ⟨by repeat (first | (with_reducible first | exact HB.out | apply below_alloc | apply pw_below_drewN | apply below_drew1 | refine below_set ?_ GE159.out) | exact HB.out)⟩⟩
  case rest =>
    clear HC4
    try clear c2
    try clear p2
    try clear c3
    try clear c6
    try clear c7
    try clear c9
    try clear hcz11_0
    try clear hcz11_1
    try clear hcz14_0
    try clear hcz14_1
    try clear hcz16_0
    try clear hcz16_1
    try clear hcz19_0
    try clear hcz19_1
    try clear hfz11_0
    try clear hfz11_1
    try clear hfz14_0
    try clear hfz14_1
    try clear hfz16_0
    try clear hfz16_1
    try clear hfz19_0
    try clear hfz19_1
    obtain ⟨kq, x24_3, rfl, HA, HJ3, BK159, HB⟩ := hcut
    cases kq with
    | zero => exact absurd HA.out (by simp [wharfageref10_BacksOf.j0])
    | succ kj3 =>
      have H := HA.out
      clear HA
      simp only [wharfageref10_BacksOf.j0] at H
      by_cases c21 : x24_3 = true
      · subst c21
        have H1 : (some (([] : List (S72)), 1300)) = some (r1, r2) := by rw [if_pos rfl] at H; exact H
        clear H
        have H := H1
        clear H1
        simp only [Option.some.injEq, Prod.mk.injEq] at H
        obtain ⟨rfl, rfl⟩ := H
        go_wp2
        go_ret2
        exact ⟨_, by first | rfl | (simp [errW_none, errW_some] <;> rfl) | (simp [*, errW_none, errW_some] <;> rfl), by first | exact Kd.R_nil _ _ _ _ _ | exact Kd.N_nil _ _ _ _ _ | exact Kd.V_nil _ _ _ _ _ | exact Kd.Q_nil _ _ _ _ _ | exact Kd.S_nil _ _ _ _ _, by repeat (first | (with_reducible first | exact HB.out | apply below_alloc | apply pw_below_drewN | apply below_drew1 | refine below_set ?_ GE159.out) | exact HB.out)⟩
      · replace c21 := Bool.eq_false_iff.mpr c21
        subst c21
        have H1 : (if 0 ≤ a1 then (if a1 < (l0_1.length : Int) then (wharfageref10_BacksOf.l0 kj3 l2 ([] : List (S72)) ((rd_T70 l0_1 a1).f3) 0) else (none)) else (none)) = some (r1, r2) := by rw [if_neg (show ¬ (false = true) by decide)] at H; exact H
        clear H
        have H := H1
        clear H1
        by_cases c22 : 0 ≤ a1
        · rw [if_pos c22] at H
          have c22b0 : decide (0 ≤ a1) = true := decide_eq_true c22
          clear c22
          by_cases c23 : a1 < (l0_1.length : Int)
          · rw [if_pos c23] at H
            have c23b0 : decide (a1 < (l0_1.length : Int)) = true := decide_eq_true c23
            clear c23
            have H' := Aside0.mk H
            clear H
            have hcz24_0 : wc.cell? ⟨gb159, 0, none⟩ = some (.int .i64 a0_0) := (blk_cell BK159.out 0).trans rfl
            have hcz24_1 : wc.cell? ⟨gb159, 1, none⟩ = some (.slice A0_1 l0_1.length c0_1) := (blk_cell BK159.out 1).trans rfl
            have hfz24_0 := blk_frozen BK159.out 0
            have hfz24_1 := blk_frozen BK159.out 1
            have p163 : 0 ≤ (a1 : Int) := of_decide_eq_true (by first | (with_reducible assumption) | assumption)
            have q163 : a1 < (l0_1.length : Int) := of_decide_eq_true (by first | (with_reducible assumption) | assumption)
            obtain ⟨ad163, A163_3, c163_3, e163, hx163_0, hx163_1, hx163_2, hx163_3, hl163_3, hi163_3⟩ := at_T70 HR0_1.out a1 p163 q163
            cases e163
            replace hx163_0 := (HB.out.cell (World.block_lt_of_cell? w _ hx163_0)).trans hx163_0
            replace hx163_1 := (HB.out.cell (World.block_lt_of_cell? w _ hx163_1)).trans hx163_1
            replace hx163_2 := (HB.out.cell (World.block_lt_of_cell? w _ hx163_2)).trans hx163_2
            replace hx163_3 := (HB.out.cell (World.block_lt_of_cell? w _ hx163_3)).trans hx163_3
            have HR163_3 := Aside0.mk hi163_3
            have HC163_3 := Aside0.mk hl163_3
            clear hi163_3 hl163_3
            replace p163 := eq_true p163
            replace q163 := eq_true q163
            go_wp2
            go_loopg [8, 10] kj3 (fun kq v8 v10 w' => ∃ (x8_2 : List (S72)) (x10_2 : Int), v10 = .int .i64 x10_2 ∧ Aside0 (wharfageref10_BacksOf.l0 kq l2 x8_2 ((rd_T70 l0_1 a1).f3) x10_2 = some (r1, r2)) ∧ Aside0 (kq ≤ kj3) ∧ Aside0 (Kd.R k72 72 w' w.heap.size (fun _ => True) v8 x8_2) ∧ Aside0 (w'.heap[gb159]? = some (.cells #[.int .i64 a0_0, (.slice (some ad163) l0_1.length c0_1)] 49 (0, 0))) ∧ Aside0 (Below w.heap.size w w'))
            case atStart => exact ⟨(([] : List (S72))), (0), (by first | rfl | (simp; done) | (simp [*]; done)), H', ⟨Nat.le_refl _⟩, ⟨by first | exact Kd.R_nil _ _ _ _ _ | exact Kd.N_nil _ _ _ _ _ | exact Kd.V_nil _ _ _ _ _ | exact Kd.Q_nil _ _ _ _ _ | exact Kd.S_nil _ _ _ _ _⟩, ⟨by (with_reducible repeat (first | refine blk_drewN ?_ _ | refine blk_drew ?_ | refine blk_alloc ?_ _)); exact BK159.out⟩, ⟨by repeat (first | (with_reducible first | exact HB.out | apply below_alloc | apply pw_below_drewN | apply below_drew1 | refine below_set ?_ GE159.out) | exact HB.out)⟩⟩
            case round =>
              clear H'
              try clear c1
              try clear p1
              try clear q1
              try clear hx1
              try clear c2
              try clear p2
              try clear c3
              try clear c6
              try clear c7
              try clear c9
              try clear c16
              try clear p16
              try clear q16
              try clear hx16
              try clear c21
              try clear c22
              try clear c22b0
              try clear c23
              try clear c23b0
              try clear hcz11_0
              try clear hcz11_1
              try clear hcz14_0
              try clear hcz14_1
              try clear hcz16_0
              try clear hcz16_1
              try clear hcz19_0
              try clear hcz19_1
              try clear hcz24_0
              try clear hcz24_1
              try clear hfz11_0
              try clear hfz11_1
              try clear hfz14_0
              try clear hfz14_1
              try clear hfz16_0
              try clear hfz16_1
              try clear hfz19_0
              try clear hfz19_1
              try clear hfz24_0
              try clear hfz24_1
              try clear hx163_0
              try clear hx163_1
              try clear hx163_2
              try clear hx163_3
              try clear p163
              try clear p2
              try clear q163
              obtain ⟨x8_2, x10_2, rfl, HA, HK2, HO_8, BK159, HB⟩ := hrel
              cases gk with
              | zero => exact absurd HA.out (by simp [wharfageref10_BacksOf.l0])
              | succ k2 =>
                have H := HA.out
                clear HA
                simp only [wharfageref10_BacksOf.l0] at H
                by_cases c25 : x10_2 < (((rd_T70 l0_1 a1).f3).length : Int)
                · rw [if_pos c25] at H
                  have c25b0 : decide (x10_2 < (((rd_T70 l0_1 a1).f3).length : Int)) = true := decide_eq_true c25
                  clear c25
                  by_cases c26 : 0 ≤ x10_2
                  · rw [if_pos c26] at H
                    have c26b0 : decide (0 ≤ x10_2) = true := decide_eq_true c26
                    clear c26
                    by_cases c27 : x10_2 < (l2.length : Int)
                    · rw [if_pos c27] at H
                      have c27b0 : decide (x10_2 < (l2.length : Int)) = true := decide_eq_true c27
                      clear c27
                      obtain ⟨bq28, hbq28⟩ : ∃ b_ : Bool, b_ = ((rd_T67 l2 x10_2).f0) := ⟨_, rfl⟩
                      replace H : (if bq28 = true then (if (rd_T74 ((rd_T70 l0_1 a1).f3) x10_2).f1 = true then (wharfageref10_BacksOf.l0 k2 l2 x8_2 ((rd_T70 l0_1 a1).f3) (wrap64 (x10_2 + 1))) else (if ((rd_T74 ((rd_T70 l0_1 a1).f3) x10_2).f0) > 0 then (if x8_2.length < 8796093022208 then (wharfageref10_BacksOf.l0 k2 l2 (x8_2 ++ [(⟨x10_2, (rd_T74 ((rd_T70 l0_1 a1).f3) x10_2).f0⟩ : S72)]) ((rd_T70 l0_1 a1).f3) (wrap64 (x10_2 + 1))) else (none)) else (wharfageref10_BacksOf.l0 k2 l2 x8_2 ((rd_T70 l0_1 a1).f3) (wrap64 (x10_2 + 1))))) else (wharfageref10_BacksOf.l0 k2 l2 x8_2 ((rd_T70 l0_1 a1).f3) (wrap64 (x10_2 + 1)))) = some (r1, r2) := by rw [← hbq28] at H; exact H
                      have Nbq28 := Aside0.mk hbq28
                      clear hbq28
                      by_cases c29 : bq28 = true
                      · subst c29
                        have H1 : (if (rd_T74 ((rd_T70 l0_1 a1).f3) x10_2).f1 = true then (wharfageref10_BacksOf.l0 k2 l2 x8_2 ((rd_T70 l0_1 a1).f3) (wrap64 (x10_2 + 1))) else (if ((rd_T74 ((rd_T70 l0_1 a1).f3) x10_2).f0) > 0 then (if x8_2.length < 8796093022208 then (wharfageref10_BacksOf.l0 k2 l2 (x8_2 ++ [(⟨x10_2, (rd_T74 ((rd_T70 l0_1 a1).f3) x10_2).f0⟩ : S72)]) ((rd_T70 l0_1 a1).f3) (wrap64 (x10_2 + 1))) else (none)) else (wharfageref10_BacksOf.l0 k2 l2 x8_2 ((rd_T70 l0_1 a1).f3) (wrap64 (x10_2 + 1))))) = some (r1, r2) := by rw [if_pos rfl] at H; exact H
                        clear H
                        have H := H1
                        clear H1
                        obtain ⟨bq30, hbq30⟩ : ∃ b_ : Bool, b_ = ((rd_T74 ((rd_T70 l0_1 a1).f3) x10_2).f1) := ⟨_, rfl⟩
                        replace H : (if bq30 = true then (wharfageref10_BacksOf.l0 k2 l2 x8_2 ((rd_T70 l0_1 a1).f3) (wrap64 (x10_2 + 1))) else (if ((rd_T74 ((rd_T70 l0_1 a1).f3) x10_2).f0) > 0 then (if x8_2.length < 8796093022208 then (wharfageref10_BacksOf.l0 k2 l2 (x8_2 ++ [(⟨x10_2, (rd_T74 ((rd_T70 l0_1 a1).f3) x10_2).f0⟩ : S72)]) ((rd_T70 l0_1 a1).f3) (wrap64 (x10_2 + 1))) else (none)) else (wharfageref10_BacksOf.l0 k2 l2 x8_2 ((rd_T70 l0_1 a1).f3) (wrap64 (x10_2 + 1))))) = some (r1, r2) := by rw [← hbq30] at H; exact H
                        have Nbq30 := Aside0.mk hbq30
                        clear hbq30
                        by_cases c31 : bq30 = true
                        · subst c31
                          have H1 : (wharfageref10_BacksOf.l0 k2 l2 x8_2 ((rd_T70 l0_1 a1).f3) (wrap64 (x10_2 + 1))) = some (r1, r2) := by rw [if_pos rfl] at H; exact H
                          clear H
                          have H := H1
                          clear H1
                          have H' := Aside0.mk H
                          clear H
                          have p164 : 0 ≤ (x10_2 : Int) := of_decide_eq_true (by first | (with_reducible assumption) | assumption)
                          have q164 : x10_2 < (l2.length : Int) := of_decide_eq_true (by first | (with_reducible assumption) | assumption)
                          obtain ⟨ad164, e164, hx164_0, hx164_1⟩ := at_T67 HR2.out x10_2 p164 q164
                          (try rw [← Nbq28.out] at hx164_0)
                          (try rw [← Nbq30.out] at hx164_0)
                          cases e164
                          replace hx164_0 := (HB.out.cell (World.block_lt_of_cell? w _ hx164_0)).trans hx164_0
                          replace hx164_1 := (HB.out.cell (World.block_lt_of_cell? w _ hx164_1)).trans hx164_1
                          replace p164 := eq_true p164
                          replace q164 := eq_true q164
                          have p165 : 0 ≤ (x10_2 : Int) := of_decide_eq_true (by first | (with_reducible assumption) | assumption)
                          have q165 : x10_2 < (((rd_T70 l0_1 a1).f3).length : Int) := of_decide_eq_true (by first | (with_reducible assumption) | assumption)
                          obtain ⟨ad165, e165, hx165_0, hx165_1⟩ := at_T74 HR163_3.out x10_2 p165 q165
                          (try rw [← Nbq28.out] at hx165_1)
                          (try rw [← Nbq30.out] at hx165_1)
                          cases e165
                          replace hx165_0 := (HB.out.cell (World.block_lt_of_cell? w _ hx165_0)).trans hx165_0
                          replace hx165_1 := (HB.out.cell (World.block_lt_of_cell? w _ hx165_1)).trans hx165_1
                          replace p165 := eq_true p165
                          replace q165 := eq_true q165
                          go_wp2
                          go_roundg k2
                          case measure => have := HJ3.out; have := HK2.out; omega
                          case rel => exact ⟨(x8_2), (wrap64 (x10_2 + 1)), (by first | rfl | (simp; done) | (simp [*]; done)), H', ⟨by have := HJ3.out; have := HK2.out; omega⟩, ⟨by (with_reducible repeat (first | apply Kd.R_alloc | apply Kd.R_drewN | apply Kd.R_drew)); exact HO_8.out⟩, ⟨by (with_reducible repeat (first | refine blk_drewN ?_ _ | refine blk_drew ?_ | refine blk_alloc ?_ _)); exact BK159.out⟩, ⟨by repeat (first | (with_reducible first | exact HB.out | apply below_alloc | apply pw_below_drewN | apply below_drew1 | refine below_set ?_ GE159.out) | exact HB.out)⟩⟩
                        · replace c31 := Bool.eq_false_iff.mpr c31
                          subst c31
                          have H1 : (if ((rd_T74 ((rd_T70 l0_1 a1).f3) x10_2).f0) > 0 then (if x8_2.length < 8796093022208 then (wharfageref10_BacksOf.l0 k2 l2 (x8_2 ++ [(⟨x10_2, (rd_T74 ((rd_T70 l0_1 a1).f3) x10_2).f0⟩ : S72)]) ((rd_T70 l0_1 a1).f3) (wrap64 (x10_2 + 1))) else (none)) else (wharfageref10_BacksOf.l0 k2 l2 x8_2 ((rd_T70 l0_1 a1).f3) (wrap64 (x10_2 + 1)))) = some (r1, r2) := by rw [if_neg (show ¬ (false = true) by decide)] at H; exact H
                          clear H
                          have H := H1
                          clear H1
                          by_cases c32 : ((rd_T74 ((rd_T70 l0_1 a1).f3) x10_2).f0) > 0
                          · rw [if_pos c32] at H
                            have c32b0 : decide (0 < ((rd_T74 ((rd_T70 l0_1 a1).f3) x10_2).f0)) = true := decide_eq_true c32
                            clear c32
                            by_cases c33 : x8_2.length < 8796093022208
                            · rw [if_pos c33] at H
                              have LMc33 := Aside0.mk c33
                              clear c33
                              obtain ⟨y168, hy168⟩ : ∃ y_ : List (S72), y_ = (x8_2 ++ [(⟨x10_2, (rd_T74 ((rd_T70 l0_1 a1).f3) x10_2).f0⟩ : S72)]) := ⟨_, rfl⟩
                              replace H : (wharfageref10_BacksOf.l0 k2 l2 y168 ((rd_T70 l0_1 a1).f3) (wrap64 (x10_2 + 1))) = some (r1, r2) := by first | (rw [hy168]; with_reducible exact H) | (have H2_ := (Option.bind_some _ _).symm.trans H; rw [hy168]; with_reducible exact H2_) | (have H2_ := (Option.bind_some _ _).symm.trans H; with_reducible exact H2_) | with_reducible exact H | (rw [hy168]; exact H) | exact H
                              have Ny168 := Aside0.mk hy168
                              clear hy168
                              have H' := Aside0.mk H
                              clear H
                              have p164 : 0 ≤ (x10_2 : Int) := of_decide_eq_true (by first | (with_reducible assumption) | assumption)
                              have q164 : x10_2 < (l2.length : Int) := of_decide_eq_true (by first | (with_reducible assumption) | assumption)
                              obtain ⟨ad164, e164, hx164_0, hx164_1⟩ := at_T67 HR2.out x10_2 p164 q164
                              (try rw [← Nbq28.out] at hx164_0)
                              (try rw [← Nbq30.out] at hx164_0)
                              cases e164
                              replace hx164_0 := (HB.out.cell (World.block_lt_of_cell? w _ hx164_0)).trans hx164_0
                              replace hx164_1 := (HB.out.cell (World.block_lt_of_cell? w _ hx164_1)).trans hx164_1
                              replace p164 := eq_true p164
                              replace q164 := eq_true q164
                              have p165 : 0 ≤ (x10_2 : Int) := of_decide_eq_true (by first | (with_reducible assumption) | assumption)
                              have q165 : x10_2 < (((rd_T70 l0_1 a1).f3).length : Int) := of_decide_eq_true (by first | (with_reducible assumption) | assumption)
                              obtain ⟨ad165, e165, hx165_0, hx165_1⟩ := at_T74 HR163_3.out x10_2 p165 q165
                              (try rw [← Nbq28.out] at hx165_1)
                              (try rw [← Nbq30.out] at hx165_1)
                              cases e165
                              replace hx165_0 := (HB.out.cell (World.block_lt_of_cell? w _ hx165_0)).trans hx165_0
                              replace hx165_1 := (HB.out.cell (World.block_lt_of_cell? w _ hx165_1)).trans hx165_1
                              replace p165 := eq_true p165
                              replace q165 := eq_true q165
                              have p166 : 0 ≤ (x10_2 : Int) := of_decide_eq_true (by first | (with_reducible assumption) | assumption)
                              have q166 : x10_2 < (((rd_T70 l0_1 a1).f3).length : Int) := of_decide_eq_true (by first | (with_reducible assumption) | assumption)
                              obtain ⟨ad166, e166, hx166_0, hx166_1⟩ := at_T74 HR163_3.out x10_2 p166 q166
                              (try rw [← Nbq28.out] at hx166_1)
                              (try rw [← Nbq30.out] at hx166_1)
                              obtain rfl : ad165 = ad166 := (by injection e166)
                              replace hx166_0 := (HB.out.cell (World.block_lt_of_cell? w _ hx166_0)).trans hx166_0
                              replace hx166_1 := (HB.out.cell (World.block_lt_of_cell? w _ hx166_1)).trans hx166_1
                              replace p166 := eq_true p166
                              replace q166 := eq_true q166
                              have p167 : 0 ≤ (x10_2 : Int) := of_decide_eq_true (by first | (with_reducible assumption) | assumption)
                              have q167 : x10_2 < (((rd_T70 l0_1 a1).f3).length : Int) := of_decide_eq_true (by first | (with_reducible assumption) | assumption)
                              obtain ⟨ad167, e167, hx167_0, hx167_1⟩ := at_T74 HR163_3.out x10_2 p167 q167
                              (try rw [← Nbq28.out] at hx167_1)
                              (try rw [← Nbq30.out] at hx167_1)
                              obtain rfl : ad165 = ad167 := (by injection e167)
                              replace hx167_0 := (HB.out.cell (World.block_lt_of_cell? w _ hx167_0)).trans hx167_0
                              replace hx167_1 := (HB.out.cell (World.block_lt_of_cell? w _ hx167_1)).trans hx167_1
                              replace p167 := eq_true p167
                              replace q167 := eq_true q167
                              go_wp2_with (first | ((with_reducible refine gate_builtin (b := .append) (xs := #[.tmp 58, .tmp 66]) rfl ?_); at_builtin; refine Kd.R_append k72 (w0 := w) w.heap.size rfl (.tmp 58) (.tmp 66) 53 72 (.agg #[(.int .i64 0), (.int .i64 0)]) 16 rfl Try.underlying53 info72 rfl (by decide) (by omega) u8 x8_2 (⟨x10_2, (rd_T74 ((rd_T70 l0_1 a1).f3) x10_2).f0⟩ : S72) [.int .i64 x10_2, .int .i64 ((rd_T74 ((rd_T70 l0_1 a1).f3) x10_2).f0)] (fun _ => True) (fun _ => False) rfl rfl ?aP (fun _ hk => hk.elim) ?aF ?aO ?aB ?aS ?aL ?_; (case aP => exact k72_mkM _ _ _ (⟨x10_2, (rd_T74 ((rd_T70 l0_1 a1).f3) x10_2).f0⟩ : S72)); (case aB => exact (by repeat (first | (with_reducible first | exact HB.out | apply below_alloc | apply pw_below_drewN | apply below_drew1 | refine below_set ?_ GE159.out) | exact HB.out))); (case aF => exact (fun _ _ => trivial)); (case aO => exact (by (with_reducible repeat (first | apply Kd.R_alloc | apply Kd.R_drewN | apply Kd.R_drew)); exact HO_8.out)); (case aS => exact (below_size (by repeat (first | (with_reducible first | exact HB.out | apply below_alloc | apply pw_below_drewN | apply below_drew1 | refine below_set ?_ GE159.out) | exact HB.out)))); (case aL => have := LMc33.out; omega); intro v169 w34 ho hb hg hat; rw [← Ny168.out] at ho; have n0_ := Aside0.mk (blk_grown (g := gb159) (o := .cells #[.int .i64 a0_0, .slice (some ad163) l0_1.length c0_1] 49 (0, 0)) (by (with_reducible repeat (first | refine blk_drewN ?_ _ | refine blk_drew ?_ | refine blk_alloc ?_ _)); exact BK159.out) hg (Kd.R_ne HO_8.out BK159.out (by decide))); have n1_ := Aside0.mk (hb); have n2_ := Aside0.mk (ho); clear BK159; clear HB; clear HO_8; have BK159 := n0_; have HB := n1_; have HO170 := n2_; clear n0_ n1_ n2_; clear ho hb hg hat))
                              go_roundg k2
                              case measure => have := HJ3.out; have := HK2.out; omega
                              case rel => exact ⟨(y168), (wrap64 (x10_2 + 1)), (by first | rfl | (simp; done) | (simp [*]; done)), H', ⟨by have := HJ3.out; have := HK2.out; omega⟩, ⟨by (with_reducible repeat (first | apply Kd.R_alloc | apply Kd.R_drewN | apply Kd.R_drew)); exact HO170.out⟩, ⟨by (with_reducible repeat (first | refine blk_drewN ?_ _ | refine blk_drew ?_ | refine blk_alloc ?_ _)); exact BK159.out⟩, ⟨by repeat (first | (with_reducible first | exact HB.out | apply below_alloc | apply pw_below_drewN | apply below_drew1 | refine below_set ?_ GE159.out) | exact HB.out)⟩⟩
                            · rw [if_neg c33] at H
                              exact absurd H (by simp)
                          · rw [if_neg c32] at H
                            have c32b0 : decide (0 < ((rd_T74 ((rd_T70 l0_1 a1).f3) x10_2).f0)) = false := decide_eq_false c32
                            clear c32
                            have H' := Aside0.mk H
                            clear H
                            have p164 : 0 ≤ (x10_2 : Int) := of_decide_eq_true (by first | (with_reducible assumption) | assumption)
                            have q164 : x10_2 < (l2.length : Int) := of_decide_eq_true (by first | (with_reducible assumption) | assumption)
                            obtain ⟨ad164, e164, hx164_0, hx164_1⟩ := at_T67 HR2.out x10_2 p164 q164
                            (try rw [← Nbq28.out] at hx164_0)
                            (try rw [← Nbq30.out] at hx164_0)
                            cases e164
                            replace hx164_0 := (HB.out.cell (World.block_lt_of_cell? w _ hx164_0)).trans hx164_0
                            replace hx164_1 := (HB.out.cell (World.block_lt_of_cell? w _ hx164_1)).trans hx164_1
                            replace p164 := eq_true p164
                            replace q164 := eq_true q164
                            have p165 : 0 ≤ (x10_2 : Int) := of_decide_eq_true (by first | (with_reducible assumption) | assumption)
                            have q165 : x10_2 < (((rd_T70 l0_1 a1).f3).length : Int) := of_decide_eq_true (by first | (with_reducible assumption) | assumption)
                            obtain ⟨ad165, e165, hx165_0, hx165_1⟩ := at_T74 HR163_3.out x10_2 p165 q165
                            (try rw [← Nbq28.out] at hx165_1)
                            (try rw [← Nbq30.out] at hx165_1)
                            cases e165
                            replace hx165_0 := (HB.out.cell (World.block_lt_of_cell? w _ hx165_0)).trans hx165_0
                            replace hx165_1 := (HB.out.cell (World.block_lt_of_cell? w _ hx165_1)).trans hx165_1
                            replace p165 := eq_true p165
                            replace q165 := eq_true q165
                            have p166 : 0 ≤ (x10_2 : Int) := of_decide_eq_true (by first | (with_reducible assumption) | assumption)
                            have q166 : x10_2 < (((rd_T70 l0_1 a1).f3).length : Int) := of_decide_eq_true (by first | (with_reducible assumption) | assumption)
                            obtain ⟨ad166, e166, hx166_0, hx166_1⟩ := at_T74 HR163_3.out x10_2 p166 q166
                            (try rw [← Nbq28.out] at hx166_1)
                            (try rw [← Nbq30.out] at hx166_1)
                            obtain rfl : ad165 = ad166 := (by injection e166)
                            replace hx166_0 := (HB.out.cell (World.block_lt_of_cell? w _ hx166_0)).trans hx166_0
                            replace hx166_1 := (HB.out.cell (World.block_lt_of_cell? w _ hx166_1)).trans hx166_1
                            replace p166 := eq_true p166
                            replace q166 := eq_true q166
                            go_wp2
                            go_roundg k2
                            case measure => have := HJ3.out; have := HK2.out; omega
                            case rel => exact ⟨(x8_2), (wrap64 (x10_2 + 1)), (by first | rfl | (simp; done) | (simp [*]; done)), H', ⟨by have := HJ3.out; have := HK2.out; omega⟩, ⟨by (with_reducible repeat (first | apply Kd.R_alloc | apply Kd.R_drewN | apply Kd.R_drew)); exact HO_8.out⟩, ⟨by (with_reducible repeat (first | refine blk_drewN ?_ _ | refine blk_drew ?_ | refine blk_alloc ?_ _)); exact BK159.out⟩, ⟨by repeat (first | (with_reducible first | exact HB.out | apply below_alloc | apply pw_below_drewN | apply below_drew1 | refine below_set ?_ GE159.out) | exact HB.out)⟩⟩
                      · replace c29 := Bool.eq_false_iff.mpr c29
                        subst c29
                        have H1 : (wharfageref10_BacksOf.l0 k2 l2 x8_2 ((rd_T70 l0_1 a1).f3) (wrap64 (x10_2 + 1))) = some (r1, r2) := by rw [if_neg (show ¬ (false = true) by decide)] at H; exact H
                        clear H
                        have H := H1
                        clear H1
                        have H' := Aside0.mk H
                        clear H
                        have p164 : 0 ≤ (x10_2 : Int) := of_decide_eq_true (by first | (with_reducible assumption) | assumption)
                        have q164 : x10_2 < (l2.length : Int) := of_decide_eq_true (by first | (with_reducible assumption) | assumption)
                        obtain ⟨ad164, e164, hx164_0, hx164_1⟩ := at_T67 HR2.out x10_2 p164 q164
                        (try rw [← Nbq28.out] at hx164_0)
                        cases e164
                        replace hx164_0 := (HB.out.cell (World.block_lt_of_cell? w _ hx164_0)).trans hx164_0
                        replace hx164_1 := (HB.out.cell (World.block_lt_of_cell? w _ hx164_1)).trans hx164_1
                        replace p164 := eq_true p164
                        replace q164 := eq_true q164
                        go_wp2
                        go_roundg k2
                        case measure => have := HJ3.out; have := HK2.out; omega
                        case rel => exact ⟨(x8_2), (wrap64 (x10_2 + 1)), (by first | rfl | (simp; done) | (simp [*]; done)), H', ⟨by have := HJ3.out; have := HK2.out; omega⟩, ⟨by (with_reducible repeat (first | apply Kd.R_alloc | apply Kd.R_drewN | apply Kd.R_drew)); exact HO_8.out⟩, ⟨by (with_reducible repeat (first | refine blk_drewN ?_ _ | refine blk_drew ?_ | refine blk_alloc ?_ _)); exact BK159.out⟩, ⟨by repeat (first | (with_reducible first | exact HB.out | apply below_alloc | apply pw_below_drewN | apply below_drew1 | refine below_set ?_ GE159.out) | exact HB.out)⟩⟩
                    · rw [if_neg c27] at H
                      exact absurd H (by simp)
                  · rw [if_neg c26] at H
                    exact absurd H (by simp)
                · rw [if_neg c25] at H
                  have c25b0 : decide (x10_2 < (((rd_T70 l0_1 a1).f3).length : Int)) = false := decide_eq_false c25
                  clear c25
                  simp only [Option.some.injEq, Prod.mk.injEq] at H
                  obtain ⟨rfl, rfl⟩ := H
                  go_wp2
                  go_ret2
                  exact ⟨_, by first | rfl | (simp [errW_none, errW_some] <;> rfl) | (simp [*, errW_none, errW_some] <;> rfl), by (with_reducible repeat (first | apply Kd.R_alloc | apply Kd.R_drewN | apply Kd.R_drew)); exact HO_8.out, by repeat (first | (with_reducible first | exact HB.out | apply below_alloc | apply pw_below_drewN | apply below_drew1 | refine below_set ?_ GE159.out) | exact HB.out)⟩
          · rw [if_neg c23] at H
            exact absurd H (by simp)
        · rw [if_neg c22] at H
          exact absurd H (by simp)

end Go.Proofs.Ytnocfhnandedoaa.PCands
