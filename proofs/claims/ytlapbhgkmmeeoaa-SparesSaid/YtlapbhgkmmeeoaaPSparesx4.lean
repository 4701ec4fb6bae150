/- Several texts of this proof in one file (put together by a program of this session). -/
import Derived.Test.YtlapbhgkmmeeoaaPSparesx17
import Derived.Test.YtlapbhgkmmeeoaaPSparesx28
import Derived.Test.YtlapbhgkmmeeoaaPSparesx35
section
/- Contracts: what calls of these functions of the program do, each as a plain function; written by a program of this session. -/
namespace Go.Proofs.Ytlapbhgkmmeeoaa.PSpares
open Go.RowKit Go.Proofs.YtlapbhgkmmeeoaaW.PrintWords Go.Proofs.YtlapbhgkmmeeoaaW.PrintLast Go.Proofs.YtlapbhgkmmeeoaaW.PrintMore
attribute [local go_sem] max2_int min2_int max_two min_two max_three min_three max_four min_four   -- for this text's walks alone
set_option linter.unusedVariables false
set_option linter.unusedSimpArgs false

/-! ### wharfageref10_Has: function 21 -/
def wharfageref10_Has.f (k : Nat) (a0_0 : Int) (l0_1 : List (S53)) (a1 : Int) (a2 : Int) : Option (Bool) := (wharfageref10_ConfMay.f k a0_0 l0_1).bind fun t183 => (if t183 = true then (if a1 ≥ 0 then (if a1 < (l0_1.length : Int) then (if a2 = (-1) then (some true) else (if a2 ≥ 0 then (if 0 ≤ a1 then (some (decide (a2 < (((rd_T53 l0_1 a1).f3).length : Int)))) else (none)) else (some false))) else (some false)) else (some false)) else (some false))
theorem wharfageref10_Has.mono : ∀ a0 a1 a2 a3 k, LeO (wharfageref10_Has.f k a0 a1 a2 a3) (wharfageref10_Has.f (k + 1) a0 a1 a2 a3) := by
 intro a0 a1 a2 a3 k
 unfold wharfageref10_Has.f
 repeat' first
   | (with_reducible exact wharfageref10_ConfMay.mono _ _ _)
   | (with_reducible exact LeO.refl _)
   | (with_reducible exact LeO.none _)
   | (with_reducible refine LeO.ite ?_ ?_)
   | (with_reducible refine LeO.bind ?_ (fun _ => ?_))
   | exact wharfageref10_ConfMay.mono _ _ _
   | exact LeO.none _
   | refine LeO.ite ?_ ?_
   | refine LeO.bind ?_ (fun _ => ?_)
set_option maxHeartbeats 8000000 in
set_option maxRecDepth 100000 in
theorem wharfageref10_Has.calls (k : Nat) (a0_0 : Int) (A0_1 : Option Addr) (c0_1 : Nat) (l0_1 : List (S53)) (a1 : Int) (a2 : Int) (r : Bool) (w : World) (hr0_1 : Kd.C k53 w A0_1 l0_1.length l0_1) (hc0_1 : l0_1.length ≤ c0_1) (h : wharfageref10_Has.f k a0_0 l0_1 a1 a2 = some r) :
  Calls Try.prog 21 #[.agg #[.int .i64 a0_0, .slice A0_1 l0_1.length c0_1], .int .i64 a1, .int .i64 a2] w fun e w' => e = .returned (.bool r) ∧ Below w.heap.size w w' := by
 have hu24 := Try.underlying24
 have HR0_1 := Aside0.mk hr0_1
 have HC0_1 := Aside0.mk hc0_1
 clear hr0_1 hc0_1
 have HB := Aside0.mk (Below.refl w.heap.size w)
 have H : ((wharfageref10_ConfMay.f k a0_0 l0_1).bind fun t183 => (if t183 = true then (if a1 ≥ 0 then (if a1 < (l0_1.length : Int) then (if a2 = (-1) then (some true) else (if a2 ≥ 0 then (if 0 ≤ a1 then (some (decide (a2 < (((rd_T53 l0_1 a1).f3).length : Int)))) else (none)) else (some false))) else (some false)) else (some false)) else (some false))) = some r := h
 clear h
 replace H := Option.bind_eq_some_iff.mp H
 obtain ⟨t183, A40, H⟩ := H
 replace H : (if t183 = true then (if a1 ≥ 0 then (if a1 < (l0_1.length : Int) then (if a2 = (-1) then (some true) else (if a2 ≥ 0 then (if 0 ≤ a1 then (some (decide (a2 < (((rd_T53 l0_1 a1).f3).length : Int)))) else (none)) else (some false))) else (some false)) else (some false)) else (some false)) = some r := H
 have A4 := Aside0.mk A40
 clear A40
 by_cases c5 : t183 = true
 ·subst c5
  have H1 : (if a1 ≥ 0 then (if a1 < (l0_1.length : Int) then (if a2 = (-1) then (some true) else (if a2 ≥ 0 then (if 0 ≤ a1 then (some (decide (a2 < (((rd_T53 l0_1 a1).f3).length : Int)))) else (none)) else (some false))) else (some false)) else (some false)) = some r := by rw [if_pos rfl] at H; exact H
  clear H
  have H := H1
  clear H1
  by_cases c6 : a1 ≥ 0
  ·rw [if_pos c6] at H
   have c6b0 : decide (0 ≤ a1) = true := decide_eq_true c6
   clear c6
   by_cases c7 : a1 < (l0_1.length : Int)
   ·rw [if_pos c7] at H
    have c7b0 : decide (a1 < (l0_1.length : Int)) = true := decide_eq_true c7
    clear c7
    by_cases c8 : a2 = (-1)
    ·rw [if_pos c8] at H
     have c8b0 : (a2 == (-1)) = true := beq_iff_eq.mpr c8
     have c8b1 : (a2 != (-1)) = false := bne_eq_false_iff_eq.mpr c8
     clear c8
     obtain rfl := Option.some.inj H
     go_enter Try.func21, Try.ntmps21
     go_wp2_with (first | ((with_reducible refine gate_dst (N := 3) rfl ?_); (try (refine gate_guard (by rfl) ?_; dsimp only)); refine box_event ?hg (N := 3) ?hd (cs := #[.int .i64 a0_0, .slice A0_1 l0_1.length c0_1]) (t := 24) ?hr ?_; (case hd => rfl); (case hg => rfl); (case hr => first | (go_simp; done) | (go_simp; rfl)); intro g0 hg w9 hbox hb; have n0_ := Aside0.mk (below_step (by repeat (first | (with_reducible first | exact HB.out | apply below_alloc | apply pw_below_drewN | apply below_drew1) | exact HB.out)) hb); have n1_ := Aside0.mk (hbox); have n2_ := Aside0.mk ((by rw [hg]; exact (below_size (by repeat (first | (with_reducible first | exact HB.out | apply below_alloc | apply pw_below_drewN | apply below_drew1) | exact HB.out))) : w.heap.size ≤ g0)); have n3_ := Aside0.mk ((by rw [hg]; exact (below_size (by repeat (first | (with_reducible first | exact HB.out | apply below_alloc | apply pw_below_drewN | apply below_drew1) | exact HB.out))) : w.heap.size ≤ g0)); clear HB; have HB := n0_; have K0 := n1_; have G0 := n2_; have E0 := n3_; clear n0_ n1_ n2_ n3_; clear hb hbox hg; have hcz10_0 : w9.cell? ⟨g0, 0, none⟩ = some (.int .i64 a0_0) := (blk_cell K0.out 0).trans rfl; have hcz10_1 : w9.cell? ⟨g0, 1, none⟩ = some (.slice A0_1 l0_1.length c0_1) := (blk_cell K0.out 1).trans rfl; have hfz10_0 := blk_frozen K0.out 0; have hfz10_1 := blk_frozen K0.out 1) | ((with_reducible refine gate_callee (f := 39) rfl ?_); refine goesL_ (some 8) rfl rfl Try.func39 (by kernel_rfl) rfl #[.agg #[.int .i64 a0_0, .slice A0_1 l0_1.length c0_1]] rfl (by (try simp only [List.map_toArray, List.map_cons, List.map_nil]); first | done | rfl | (simp only [List.length_drop, List.length_take]; rfl)) ?_; (with_reducible refine (wharfageref10_ConfMay.calls k a0_0 _ _ l0_1 true _ ?side1 ?side2 A4.out).mono ?_); (case side1 => repeat (first | exact (Kd.C_below HR0_1.out HB.out) | (with_reducible refine Kd.C_alloc ?_ _) | (with_reducible refine Kd.C_drewN ?_ _) | (with_reducible refine Kd.C_drew ?_))); (case side2 => exact HC0_1.out); rintro e w11 ⟨rfl, hb⟩; refine ⟨_, rfl, ?_⟩; have n0_ := Aside0.mk (blk_below (g := g0) (o := .cells #[.int .i64 a0_0, .slice A0_1 l0_1.length c0_1] 24 (0, 0)) (by (with_reducible repeat (first | refine blk_drewN ?_ _ | refine blk_drew ?_ | refine blk_alloc ?_ _)); exact K0.out) hb); have n1_ := Aside0.mk (below_step (by repeat (first | (with_reducible first | exact HB.out | apply below_alloc | apply pw_below_drewN | apply below_drew1 | refine below_set ?_ E0.out) | exact HB.out)) hb); clear K0; clear HB; have K0 := n0_; have HB := n1_; clear n0_ n1_; (try clear hb); (try clear hb2); (try clear hk); (try clear hi); have hcz12_0 : w11.cell? ⟨g0, 0, none⟩ = some (.int .i64 a0_0) := (blk_cell K0.out 0).trans rfl; have hcz12_1 : w11.cell? ⟨g0, 1, none⟩ = some (.slice A0_1 l0_1.length c0_1) := (blk_cell K0.out 1).trans rfl; have hfz12_0 := blk_frozen K0.out 0; have hfz12_1 := blk_frozen K0.out 1))
     go_ret
     exact ⟨by first | rfl | (simp [errW_none, errW_some] <;> rfl) | (simp [*, errW_none, errW_some] <;> rfl), by repeat (first | (with_reducible first | exact HB.out | apply below_alloc | apply pw_below_drewN | apply below_drew1 | refine below_set ?_ E0.out) | exact HB.out)⟩
    ·rw [if_neg c8] at H
     have c8b0 : (a2 == (-1)) = false := beq_eq_false_iff_ne.mpr c8
     have c8b1 : (a2 != (-1)) = true := bne_iff_ne.mpr c8
     by_cases c13 : a2 ≥ 0
     ·rw [if_pos c13] at H
      have c13b0 : decide (0 ≤ a2) = true := decide_eq_true c13
      clear c13
      by_cases c14 : 0 ≤ a1
      ·rw [if_pos c14] at H
       have c14b0 : decide (0 ≤ a1) = true := decide_eq_true c14
       clear c14
       obtain rfl := Option.some.inj H
       go_enter Try.func21, Try.ntmps21
       go_wp2_with (first | ((with_reducible refine gate_dst (N := 3) rfl ?_); (try (refine gate_guard (by rfl) ?_; dsimp only)); refine box_event ?hg (N := 3) ?hd (cs := #[.int .i64 a0_0, .slice A0_1 l0_1.length c0_1]) (t := 24) ?hr ?_; (case hd => rfl); (case hg => rfl); (case hr => first | (go_simp; done) | (go_simp; rfl)); intro g0 hg w15 hbox hb; have n0_ := Aside0.mk (below_step (by repeat (first | (with_reducible first | exact HB.out | apply below_alloc | apply pw_below_drewN | apply below_drew1) | exact HB.out)) hb); have n1_ := Aside0.mk (hbox); have n2_ := Aside0.mk ((by rw [hg]; exact (below_size (by repeat (first | (with_reducible first | exact HB.out | apply below_alloc | apply pw_below_drewN | apply below_drew1) | exact HB.out))) : w.heap.size ≤ g0)); have n3_ := Aside0.mk ((by rw [hg]; exact (below_size (by repeat (first | (with_reducible first | exact HB.out | apply below_alloc | apply pw_below_drewN | apply below_drew1) | exact HB.out))) : w.heap.size ≤ g0)); clear HB; have HB := n0_; have K0 := n1_; have G0 := n2_; have E0 := n3_; clear n0_ n1_ n2_ n3_; clear hb hbox hg; have hcz16_0 : w15.cell? ⟨g0, 0, none⟩ = some (.int .i64 a0_0) := (blk_cell K0.out 0).trans rfl; have hcz16_1 : w15.cell? ⟨g0, 1, none⟩ = some (.slice A0_1 l0_1.length c0_1) := (blk_cell K0.out 1).trans rfl; have hfz16_0 := blk_frozen K0.out 0; have hfz16_1 := blk_frozen K0.out 1) | ((with_reducible refine gate_callee (f := 39) rfl ?_); refine goesL_ (some 8) rfl rfl Try.func39 (by kernel_rfl) rfl #[.agg #[.int .i64 a0_0, .slice A0_1 l0_1.length c0_1]] rfl (by (try simp only [List.map_toArray, List.map_cons, List.map_nil]); first | done | rfl | (simp only [List.length_drop, List.length_take]; rfl)) ?_; (with_reducible refine (wharfageref10_ConfMay.calls k a0_0 _ _ l0_1 true _ ?side1 ?side2 A4.out).mono ?_); (case side1 => repeat (first | exact (Kd.C_below HR0_1.out HB.out) | (with_reducible refine Kd.C_alloc ?_ _) | (with_reducible refine Kd.C_drewN ?_ _) | (with_reducible refine Kd.C_drew ?_))); (case side2 => exact HC0_1.out); rintro e w17 ⟨rfl, hb⟩; refine ⟨_, rfl, ?_⟩; have n0_ := Aside0.mk (blk_below (g := g0) (o := .cells #[.int .i64 a0_0, .slice A0_1 l0_1.length c0_1] 24 (0, 0)) (by (with_reducible repeat (first | refine blk_drewN ?_ _ | refine blk_drew ?_ | refine blk_alloc ?_ _)); exact K0.out) hb); have n1_ := Aside0.mk (below_step (by repeat (first | (with_reducible first | exact HB.out | apply below_alloc | apply pw_below_drewN | apply below_drew1 | refine below_set ?_ E0.out) | exact HB.out)) hb); clear K0; clear HB; have K0 := n0_; have HB := n1_; clear n0_ n1_; (try clear hb); (try clear hb2); (try clear hk); (try clear hi); have hcz18_0 : w17.cell? ⟨g0, 0, none⟩ = some (.int .i64 a0_0) := (blk_cell K0.out 0).trans rfl; have hcz18_1 : w17.cell? ⟨g0, 1, none⟩ = some (.slice A0_1 l0_1.length c0_1) := (blk_cell K0.out 1).trans rfl; have hfz18_0 := blk_frozen K0.out 0; have hfz18_1 := blk_frozen K0.out 1; have p184 : 0 ≤ (a1 : Int) := of_decide_eq_true (by first | (with_reducible assumption) | assumption); have q184 : a1 < (l0_1.length : Int) := of_decide_eq_true (by first | (with_reducible assumption) | assumption); obtain ⟨ad184, A184_3, c184_3, e184, hx184_0, hx184_1, hx184_2, hx184_3, hl184_3, hi184_3⟩ := at_T53 HR0_1.out a1 p184 q184; cases e184; replace hx184_0 := (HB.out.cell (World.block_lt_of_cell? w _ hx184_0)).trans hx184_0; replace hx184_1 := (HB.out.cell (World.block_lt_of_cell? w _ hx184_1)).trans hx184_1; replace hx184_2 := (HB.out.cell (World.block_lt_of_cell? w _ hx184_2)).trans hx184_2; replace hx184_3 := (HB.out.cell (World.block_lt_of_cell? w _ hx184_3)).trans hx184_3; have HR184_3 := Aside0.mk hi184_3; have HC184_3 := Aside0.mk hl184_3; clear hi184_3 hl184_3; replace p184 := eq_true p184; replace q184 := eq_true q184))
       go_ret
       exact ⟨by first | rfl | (simp [errW_none, errW_some] <;> rfl) | (simp [*, errW_none, errW_some] <;> rfl), by repeat (first | (with_reducible first | exact HB.out | apply below_alloc | apply pw_below_drewN | apply below_drew1 | refine below_set ?_ E0.out) | exact HB.out)⟩
      ·rw [if_neg c14] at H
       exact absurd H (by simp)
     ·rw [if_neg c13] at H
      have c13b0 : decide (0 ≤ a2) = false := decide_eq_false c13
      clear c13
      obtain rfl := Option.some.inj H
      go_enter Try.func21, Try.ntmps21
      go_wp2_with (first | ((with_reducible refine gate_dst (N := 3) rfl ?_); (try (refine gate_guard (by rfl) ?_; dsimp only)); refine box_event ?hg (N := 3) ?hd (cs := #[.int .i64 a0_0, .slice A0_1 l0_1.length c0_1]) (t := 24) ?hr ?_; (case hd => rfl); (case hg => rfl); (case hr => first | (go_simp; done) | (go_simp; rfl)); intro g0 hg w19 hbox hb; have n0_ := Aside0.mk (below_step (by repeat (first | (with_reducible first | exact HB.out | apply below_alloc | apply pw_below_drewN | apply below_drew1) | exact HB.out)) hb); have n1_ := Aside0.mk (hbox); have n2_ := Aside0.mk ((by rw [hg]; exact (below_size (by repeat (first | (with_reducible first | exact HB.out | apply below_alloc | apply pw_below_drewN | apply below_drew1) | exact HB.out))) : w.heap.size ≤ g0)); have n3_ := Aside0.mk ((by rw [hg]; exact (below_size (by repeat (first | (with_reducible first | exact HB.out | apply below_alloc | apply pw_below_drewN | apply below_drew1) | exact HB.out))) : w.heap.size ≤ g0)); clear HB; have HB := n0_; have K0 := n1_; have G0 := n2_; have E0 := n3_; clear n0_ n1_ n2_ n3_; clear hb hbox hg; have hcz20_0 : w19.cell? ⟨g0, 0, none⟩ = some (.int .i64 a0_0) := (blk_cell K0.out 0).trans rfl; have hcz20_1 : w19.cell? ⟨g0, 1, none⟩ = some (.slice A0_1 l0_1.length c0_1) := (blk_cell K0.out 1).trans rfl; have hfz20_0 := blk_frozen K0.out 0; have hfz20_1 := blk_frozen K0.out 1) | ((with_reducible refine gate_callee (f := 39) rfl ?_); refine goesL_ (some 8) rfl rfl Try.func39 (by kernel_rfl) rfl #[.agg #[.int .i64 a0_0, .slice A0_1 l0_1.length c0_1]] rfl (by (try simp only [List.map_toArray, List.map_cons, List.map_nil]); first | done | rfl | (simp only [List.length_drop, List.length_take]; rfl)) ?_; (with_reducible refine (wharfageref10_ConfMay.calls k a0_0 _ _ l0_1 true _ ?side1 ?side2 A4.out).mono ?_); (case side1 => repeat (first | exact (Kd.C_below HR0_1.out HB.out) | (with_reducible refine Kd.C_alloc ?_ _) | (with_reducible refine Kd.C_drewN ?_ _) | (with_reducible refine Kd.C_drew ?_))); (case side2 => exact HC0_1.out); rintro e w21 ⟨rfl, hb⟩; refine ⟨_, rfl, ?_⟩; have n0_ := Aside0.mk (blk_below (g := g0) (o := .cells #[.int .i64 a0_0, .slice A0_1 l0_1.length c0_1] 24 (0, 0)) (by (with_reducible repeat (first | refine blk_drewN ?_ _ | refine blk_drew ?_ | refine blk_alloc ?_ _)); exact K0.out) hb); have n1_ := Aside0.mk (below_step (by repeat (first | (with_reducible first | exact HB.out | apply below_alloc | apply pw_below_drewN | apply below_drew1 | refine below_set ?_ E0.out) | exact HB.out)) hb); clear K0; clear HB; have K0 := n0_; have HB := n1_; clear n0_ n1_; (try clear hb); (try clear hb2); (try clear hk); (try clear hi); have hcz22_0 : w21.cell? ⟨g0, 0, none⟩ = some (.int .i64 a0_0) := (blk_cell K0.out 0).trans rfl; have hcz22_1 : w21.cell? ⟨g0, 1, none⟩ = some (.slice A0_1 l0_1.length c0_1) := (blk_cell K0.out 1).trans rfl; have hfz22_0 := blk_frozen K0.out 0; have hfz22_1 := blk_frozen K0.out 1))
      go_ret
      exact ⟨by first | rfl | (simp [errW_none, errW_some] <;> rfl) | (simp [*, errW_none, errW_some] <;> rfl), by repeat (first | (with_reducible first | exact HB.out | apply below_alloc | apply pw_below_drewN | apply below_drew1 | refine below_set ?_ E0.out) | exact HB.out)⟩
   ·rw [if_neg c7] at H
    have c7b0 : decide (a1 < (l0_1.length : Int)) = false := decide_eq_false c7
    clear c7
    obtain rfl := Option.some.inj H
    go_enter Try.func21, Try.ntmps21
    go_wp2_with (first | ((with_reducible refine gate_dst (N := 3) rfl ?_); (try (refine gate_guard (by rfl) ?_; dsimp only)); refine box_event ?hg (N := 3) ?hd (cs := #[.int .i64 a0_0, .slice A0_1 l0_1.length c0_1]) (t := 24) ?hr ?_; (case hd => rfl); (case hg => rfl); (case hr => first | (go_simp; done) | (go_simp; rfl)); intro g0 hg w23 hbox hb; have n0_ := Aside0.mk (below_step (by repeat (first | (with_reducible first | exact HB.out | apply below_alloc | apply pw_below_drewN | apply below_drew1) | exact HB.out)) hb); have n1_ := Aside0.mk (hbox); have n2_ := Aside0.mk ((by rw [hg]; exact (below_size (by repeat (first | (with_reducible first | exact HB.out | apply below_alloc | apply pw_below_drewN | apply below_drew1) | exact HB.out))) : w.heap.size ≤ g0)); have n3_ := Aside0.mk ((by rw [hg]; exact (below_size (by repeat (first | (with_reducible first | exact HB.out | apply below_alloc | apply pw_below_drewN | apply below_drew1) | exact HB.out))) : w.heap.size ≤ g0)); clear HB; have HB := n0_; have K0 := n1_; have G0 := n2_; have E0 := n3_; clear n0_ n1_ n2_ n3_; clear hb hbox hg; have hcz24_0 : w23.cell? ⟨g0, 0, none⟩ = some (.int .i64 a0_0) := (blk_cell K0.out 0).trans rfl; have hcz24_1 : w23.cell? ⟨g0, 1, none⟩ = some (.slice A0_1 l0_1.length c0_1) := (blk_cell K0.out 1).trans rfl; have hfz24_0 := blk_frozen K0.out 0; have hfz24_1 := blk_frozen K0.out 1) | ((with_reducible refine gate_callee (f := 39) rfl ?_); refine goesL_ (some 8) rfl rfl Try.func39 (by kernel_rfl) rfl #[.agg #[.int .i64 a0_0, .slice A0_1 l0_1.length c0_1]] rfl (by (try simp only [List.map_toArray, List.map_cons, List.map_nil]); first | done | rfl | (simp only [List.length_drop, List.length_take]; rfl)) ?_; (with_reducible refine (wharfageref10_ConfMay.calls k a0_0 _ _ l0_1 true _ ?side1 ?side2 A4.out).mono ?_); (case side1 => repeat (first | exact (Kd.C_below HR0_1.out HB.out) | (with_reducible refine Kd.C_alloc ?_ _) | (with_reducible refine Kd.C_drewN ?_ _) | (with_reducible refine Kd.C_drew ?_))); (case side2 => exact HC0_1.out); rintro e w25 ⟨rfl, hb⟩; refine ⟨_, rfl, ?_⟩; have n0_ := Aside0.mk (blk_below (g := g0) (o := .cells #[.int .i64 a0_0, .slice A0_1 l0_1.length c0_1] 24 (0, 0)) (by (with_reducible repeat (first | refine blk_drewN ?_ _ | refine blk_drew ?_ | refine blk_alloc ?_ _)); exact K0.out) hb); have n1_ := Aside0.mk (below_step (by repeat (first | (with_reducible first | exact HB.out | apply below_alloc | apply pw_below_drewN | apply below_drew1 | refine below_set ?_ E0.out) | exact HB.out)) hb); clear K0; clear HB; have K0 := n0_; have HB := n1_; clear n0_ n1_; (try clear hb); (try clear hb2); (try clear hk); (try clear hi); have hcz26_0 : w25.cell? ⟨g0, 0, none⟩ = some (.int .i64 a0_0) := (blk_cell K0.out 0).trans rfl; have hcz26_1 : w25.cell? ⟨g0, 1, none⟩ = some (.slice A0_1 l0_1.length c0_1) := (blk_cell K0.out 1).trans rfl; have hfz26_0 := blk_frozen K0.out 0; have hfz26_1 := blk_frozen K0.out 1))
    go_ret
    exact ⟨by first | rfl | (simp [errW_none, errW_some] <;> rfl) | (simp [*, errW_none, errW_some] <;> rfl), by repeat (first | (with_reducible first | exact HB.out | apply below_alloc | apply pw_below_drewN | apply below_drew1 | refine below_set ?_ E0.out) | exact HB.out)⟩
  ·rw [if_neg c6] at H
   have c6b0 : decide (0 ≤ a1) = false := decide_eq_false c6
   clear c6
   obtain rfl := Option.some.inj H
   go_enter Try.func21, Try.ntmps21
   go_wp2_with (first | ((with_reducible refine gate_dst (N := 3) rfl ?_); (try (refine gate_guard (by rfl) ?_; dsimp only)); refine box_event ?hg (N := 3) ?hd (cs := #[.int .i64 a0_0, .slice A0_1 l0_1.length c0_1]) (t := 24) ?hr ?_; (case hd => rfl); (case hg => rfl); (case hr => first | (go_simp; done) | (go_simp; rfl)); intro g0 hg w27 hbox hb; have n0_ := Aside0.mk (below_step (by repeat (first | (with_reducible first | exact HB.out | apply below_alloc | apply pw_below_drewN | apply below_drew1) | exact HB.out)) hb); have n1_ := Aside0.mk (hbox); have n2_ := Aside0.mk ((by rw [hg]; exact (below_size (by repeat (first | (with_reducible first | exact HB.out | apply below_alloc | apply pw_below_drewN | apply below_drew1) | exact HB.out))) : w.heap.size ≤ g0)); have n3_ := Aside0.mk ((by rw [hg]; exact (below_size (by repeat (first | (with_reducible first | exact HB.out | apply below_alloc | apply pw_below_drewN | apply below_drew1) | exact HB.out))) : w.heap.size ≤ g0)); clear HB; have HB := n0_; have K0 := n1_; have G0 := n2_; have E0 := n3_; clear n0_ n1_ n2_ n3_; clear hb hbox hg; have hcz28_0 : w27.cell? ⟨g0, 0, none⟩ = some (.int .i64 a0_0) := (blk_cell K0.out 0).trans rfl; have hcz28_1 : w27.cell? ⟨g0, 1, none⟩ = some (.slice A0_1 l0_1.length c0_1) := (blk_cell K0.out 1).trans rfl; have hfz28_0 := blk_frozen K0.out 0; have hfz28_1 := blk_frozen K0.out 1) | ((with_reducible refine gate_callee (f := 39) rfl ?_); refine goesL_ (some 8) rfl rfl Try.func39 (by kernel_rfl) rfl #[.agg #[.int .i64 a0_0, .slice A0_1 l0_1.length c0_1]] rfl (by (try simp only [List.map_toArray, List.map_cons, List.map_nil]); first | done | rfl | (simp only [List.length_drop, List.length_take]; rfl)) ?_; (with_reducible refine (wharfageref10_ConfMay.calls k a0_0 _ _ l0_1 true _ ?side1 ?side2 A4.out).mono ?_); (case side1 => repeat (first | exact (Kd.C_below HR0_1.out HB.out) | (with_reducible refine Kd.C_alloc ?_ _) | (with_reducible refine Kd.C_drewN ?_ _) | (with_reducible refine Kd.C_drew ?_))); (case side2 => exact HC0_1.out); rintro e w29 ⟨rfl, hb⟩; refine ⟨_, rfl, ?_⟩; have n0_ := Aside0.mk (blk_below (g := g0) (o := .cells #[.int .i64 a0_0, .slice A0_1 l0_1.length c0_1] 24 (0, 0)) (by (with_reducible repeat (first | refine blk_drewN ?_ _ | refine blk_drew ?_ | refine blk_alloc ?_ _)); exact K0.out) hb); have n1_ := Aside0.mk (below_step (by repeat (first | (with_reducible first | exact HB.out | apply below_alloc | apply pw_below_drewN | apply below_drew1 | refine below_set ?_ E0.out) | exact HB.out)) hb); clear K0; clear HB; have K0 := n0_; have HB := n1_; clear n0_ n1_; (try clear hb); (try clear hb2); (try clear hk); (try clear hi)))
   go_ret
   exact ⟨by first | rfl | (simp [errW_none, errW_some] <;> rfl) | (simp [*, errW_none, errW_some] <;> rfl), by repeat (first | (with_reducible first | exact HB.out | apply below_alloc | apply pw_below_drewN | apply below_drew1 | refine below_set ?_ E0.out) | exact HB.out)⟩
 ·replace c5 := Bool.eq_false_iff.mpr c5
  subst c5
  have H1 : (some false) = some r := by rw [if_neg (show ¬ (false = true) by decide)] at H; exact H
  clear H
  have H := H1
  clear H1
  obtain rfl := Option.some.inj H
  go_enter Try.func21, Try.ntmps21
  go_wp2_with (first | ((with_reducible refine gate_dst (N := 3) rfl ?_); (try (refine gate_guard (by rfl) ?_; dsimp only)); refine box_event ?hg (N := 3) ?hd (cs := #[.int .i64 a0_0, .slice A0_1 l0_1.length c0_1]) (t := 24) ?hr ?_; (case hd => rfl); (case hg => rfl); (case hr => first | (go_simp; done) | (go_simp; rfl)); intro g0 hg w30 hbox hb; have n0_ := Aside0.mk (below_step (by repeat (first | (with_reducible first | exact HB.out | apply below_alloc | apply pw_below_drewN | apply below_drew1) | exact HB.out)) hb); have n1_ := Aside0.mk (hbox); have n2_ := Aside0.mk ((by rw [hg]; exact (below_size (by repeat (first | (with_reducible first | exact HB.out | apply below_alloc | apply pw_below_drewN | apply below_drew1) | exact HB.out))) : w.heap.size ≤ g0)); have n3_ := Aside0.mk ((by rw [hg]; exact (below_size (by repeat (first | (with_reducible first | exact HB.out | apply below_alloc | apply pw_below_drewN | apply below_drew1) | exact HB.out))) : w.heap.size ≤ g0)); clear HB; have HB := n0_; have K0 := n1_; have G0 := n2_; have E0 := n3_; clear n0_ n1_ n2_ n3_; clear hb hbox hg; have hcz31_0 : w30.cell? ⟨g0, 0, none⟩ = some (.int .i64 a0_0) := (blk_cell K0.out 0).trans rfl; have hcz31_1 : w30.cell? ⟨g0, 1, none⟩ = some (.slice A0_1 l0_1.length c0_1) := (blk_cell K0.out 1).trans rfl; have hfz31_0 := blk_frozen K0.out 0; have hfz31_1 := blk_frozen K0.out 1) | ((with_reducible refine gate_callee (f := 39) rfl ?_); refine goesL_ (some 8) rfl rfl Try.func39 (by kernel_rfl) rfl #[.agg #[.int .i64 a0_0, .slice A0_1 l0_1.length c0_1]] rfl (by (try simp only [List.map_toArray, List.map_cons, List.map_nil]); first | done | rfl | (simp only [List.length_drop, List.length_take]; rfl)) ?_; (with_reducible refine (wharfageref10_ConfMay.calls k a0_0 _ _ l0_1 false _ ?side1 ?side2 A4.out).mono ?_); (case side1 => repeat (first | exact (Kd.C_below HR0_1.out HB.out) | (with_reducible refine Kd.C_alloc ?_ _) | (with_reducible refine Kd.C_drewN ?_ _) | (with_reducible refine Kd.C_drew ?_))); (case side2 => exact HC0_1.out); rintro e w32 ⟨rfl, hb⟩; refine ⟨_, rfl, ?_⟩; have n0_ := Aside0.mk (blk_below (g := g0) (o := .cells #[.int .i64 a0_0, .slice A0_1 l0_1.length c0_1] 24 (0, 0)) (by (with_reducible repeat (first | refine blk_drewN ?_ _ | refine blk_drew ?_ | refine blk_alloc ?_ _)); exact K0.out) hb); have n1_ := Aside0.mk (below_step (by repeat (first | (with_reducible first | exact HB.out | apply below_alloc | apply pw_below_drewN | apply below_drew1 | refine below_set ?_ E0.out) | exact HB.out)) hb); clear K0; clear HB; have K0 := n0_; have HB := n1_; clear n0_ n1_; (try clear hb); (try clear hb2); (try clear hk); (try clear hi)))
  go_ret
  exact ⟨by first | rfl | (simp [errW_none, errW_some] <;> rfl) | (simp [*, errW_none, errW_some] <;> rfl), by repeat (first | (with_reducible first | exact HB.out | apply below_alloc | apply pw_below_drewN | apply below_drew1 | refine below_set ?_ E0.out) | exact HB.out)⟩

end Go.Proofs.Ytlapbhgkmmeeoaa.PSpares
end
section
/- Contracts: what calls of these functions of the program do, each as a plain function; written by a program of this session. -/
namespace Go.Proofs.Ytlapbhgkmmeeoaa.PSpares
open Go.RowKit Go.Proofs.YtlapbhgkmmeeoaaW.PrintWords Go.Proofs.YtlapbhgkmmeeoaaW.PrintLast Go.Proofs.YtlapbhgkmmeeoaaW.PrintMore
attribute [local go_sem] max2_int min2_int max_two min_two max_three min_three max_four min_four   -- for this text's walks alone
set_option linter.unusedVariables false
set_option linter.unusedSimpArgs false

/-! ### wharfageref10_BacksOf: function 22 -/
mutual
def wharfageref10_BacksOf.j0 : Nat → Int → List (S86) → Bool → Int → List (S53) → Option ((List (S70)) × Int)
 | 0, _, _, _, _, _ => none
 | k + 1, x1, x2, x24, x186000, x186001 => if x24 = true then (some (([] : List (S70)), 1300)) else (if 0 ≤ x1 then (if x1 < (x186001.length : Int) then (wharfageref10_BacksOf.l0 k x2 ([] : List (S70)) ((rd_T53 x186001 x1).f3) 0) else (none)) else (none))
def wharfageref10_BacksOf.l0 : Nat → List (S86) → List (S70) → List (S83) → Int → Option ((List (S70)) × Int)
 | 0, _, _, _, _ => none
 | k + 1, x2, x8, x9, x10 => if x10 < (x9.length : Int) then (if 0 ≤ x10 then (if x10 < (x2.length : Int) then (if (rd_T86 x2 x10).f0 = true then (if (rd_T83 x9 x10).f1 = true then (wharfageref10_BacksOf.l0 k x2 x8 x9 (wrap64 (x10 + 1))) else (if ((rd_T83 x9 x10).f0) > 0 then (if x8.length < 8796093022208 then (wharfageref10_BacksOf.l0 k x2 (x8 ++ [(⟨x10, (rd_T83 x9 x10).f0⟩ : S70)]) x9 (wrap64 (x10 + 1))) else (none)) else (wharfageref10_BacksOf.l0 k x2 x8 x9 (wrap64 (x10 + 1))))) else (wharfageref10_BacksOf.l0 k x2 x8 x9 (wrap64 (x10 + 1)))) else (none)) else (none)) else (some (x8, 0))
end
def wharfageref10_BacksOf.f (k : Nat) (a0_0 : Int) (l0_1 : List (S53)) (a1 : Int) (l2 : List (S86)) : Option ((List (S70)) × Int) := (wharfageref10_ConfMay.f k a0_0 l0_1).bind fun t186 => (if t186 = true then ((wharfageref10_healthsMay.f k l2 4).bind fun t187 => (if t187 = true then ((wharfageref10_Has.f k a0_0 l0_1 a1 (-1)).bind fun t188 => (wharfageref10_BacksOf.j0 k a1 l2 (!t188) a0_0 l0_1)) else (wharfageref10_BacksOf.j0 k a1 l2 true a0_0 l0_1))) else (wharfageref10_BacksOf.j0 k a1 l2 true a0_0 l0_1))
theorem wharfageref10_BacksOf.mono_l : ∀ k, (∀ y0 y1 y2 y3 y4, LeO (wharfageref10_BacksOf.j0 k y0 y1 y2 y3 y4) (wharfageref10_BacksOf.j0 (k + 1) y0 y1 y2 y3 y4)) ∧ (∀ y0 y1 y2 y3, LeO (wharfageref10_BacksOf.l0 k y0 y1 y2 y3) (wharfageref10_BacksOf.l0 (k + 1) y0 y1 y2 y3))
 | 0 => ⟨fun _ _ _ _ _ r h => by simp [wharfageref10_BacksOf.j0] at h, fun _ _ _ _ r h => by simp [wharfageref10_BacksOf.l0] at h⟩
 | k + 1 => by
  obtain ⟨ih0, ih1⟩ := wharfageref10_BacksOf.mono_l k
  refine ⟨?_, ?_⟩
  ·intro y0 y1 y2 y3 y4
   unfold wharfageref10_BacksOf.j0
   repeat' first
   | (with_reducible exact ih0 _ _ _ _ _)
   | (with_reducible exact ih1 _ _ _ _)
   | (with_reducible exact wharfageref10_ConfMay.mono _ _ _)
   | (with_reducible exact wharfageref10_Has.mono _ _ _ _ _)
   | (with_reducible exact wharfageref10_healthsMay.mono _ _ _)
   | (with_reducible exact LeO.refl _)
   | (with_reducible exact LeO.none _)
   | (with_reducible refine LeO.ite ?_ ?_)
   | (with_reducible refine LeO.bind ?_ (fun _ => ?_))
   | exact ih0 _ _ _ _ _
   | exact ih1 _ _ _ _
   | exact wharfageref10_ConfMay.mono _ _ _
   | exact wharfageref10_Has.mono _ _ _ _ _
   | exact wharfageref10_healthsMay.mono _ _ _
   | exact LeO.none _
   | refine LeO.ite ?_ ?_
   | refine LeO.bind ?_ (fun _ => ?_)
  ·intro y0 y1 y2 y3
   unfold wharfageref10_BacksOf.l0
   repeat' first
   | (with_reducible exact ih0 _ _ _ _ _)
   | (with_reducible exact ih1 _ _ _ _)
   | (with_reducible exact wharfageref10_ConfMay.mono _ _ _)
   | (with_reducible exact wharfageref10_Has.mono _ _ _ _ _)
   | (with_reducible exact wharfageref10_healthsMay.mono _ _ _)
   | (with_reducible exact LeO.refl _)
   | (with_reducible exact LeO.none _)
   | (with_reducible refine LeO.ite ?_ ?_)
   | (with_reducible refine LeO.bind ?_ (fun _ => ?_))
   | exact ih0 _ _ _ _ _
   | exact ih1 _ _ _ _
   | exact wharfageref10_ConfMay.mono _ _ _
   | exact wharfageref10_Has.mono _ _ _ _ _
   | exact wharfageref10_healthsMay.mono _ _ _
   | exact LeO.none _
   | refine LeO.ite ?_ ?_
   | refine LeO.bind ?_ (fun _ => ?_)
theorem wharfageref10_BacksOf.mono : ∀ a0 a1 a2 a3 k, LeO (wharfageref10_BacksOf.f k a0 a1 a2 a3) (wharfageref10_BacksOf.f (k + 1) a0 a1 a2 a3) := by
 intro a0 a1 a2 a3 k
 obtain ⟨ih0, ih1⟩ := wharfageref10_BacksOf.mono_l k
 unfold wharfageref10_BacksOf.f
 repeat' first
   | (with_reducible exact ih0 _ _ _ _ _)
   | (with_reducible exact ih1 _ _ _ _)
   | (with_reducible exact wharfageref10_ConfMay.mono _ _ _)
   | (with_reducible exact wharfageref10_Has.mono _ _ _ _ _)
   | (with_reducible exact wharfageref10_healthsMay.mono _ _ _)
   | (with_reducible exact LeO.refl _)
   | (with_reducible exact LeO.none _)
   | (with_reducible refine LeO.ite ?_ ?_)
   | (with_reducible refine LeO.bind ?_ (fun _ => ?_))
   | exact ih0 _ _ _ _ _
   | exact ih1 _ _ _ _
   | exact wharfageref10_ConfMay.mono _ _ _
   | exact wharfageref10_Has.mono _ _ _ _ _
   | exact wharfageref10_healthsMay.mono _ _ _
   | exact LeO.none _
   | refine LeO.ite ?_ ?_
   | refine LeO.bind ?_ (fun _ => ?_)
set_option maxHeartbeats 8000000 in
set_option maxRecDepth 100000 in
theorem wharfageref10_BacksOf.calls (k : Nat) (a0_0 : Int) (A0_1 : Option Addr) (c0_1 : Nat) (l0_1 : List (S53)) (a1 : Int) (A2 : Option Addr) (c2 : Nat) (l2 : List (S86)) (r1 : List (S70)) (r2 : Int) (w : World) (hr0_1 : Kd.C k53 w A0_1 l0_1.length l0_1) (hc0_1 : l0_1.length ≤ c0_1) (hr2 : Kd.C k86 w A2 l2.length l2) (hc2 : l2.length ≤ c2) (h : wharfageref10_BacksOf.f k a0_0 l0_1 a1 l2 = some (r1, r2)) :
  Calls Try.prog 22 #[.agg #[.int .i64 a0_0, .slice A0_1 l0_1.length c0_1], .int .i64 a1, .slice A2 l2.length c2] w fun e w' => ∃ v0_ : Value, e = .returned (.tuple #[v0_, .int .i64 r2]) ∧ Kd.R k70 70 w' w.heap.size (fun _ => True) v0_ r1 ∧ Below w.heap.size w w' := by
 have hu24 := Try.underlying24
 have hu70 := Try.underlying70
 have HR0_1 := Aside0.mk hr0_1
 have HC0_1 := Aside0.mk hc0_1
 clear hr0_1 hc0_1
 have HR2 := Aside0.mk hr2
 have HC2 := Aside0.mk hc2
 clear hr2 hc2
 have HB := Aside0.mk (Below.refl w.heap.size w)
 have H : ((wharfageref10_ConfMay.f k a0_0 l0_1).bind fun t186 => (if t186 = true then ((wharfageref10_healthsMay.f k l2 4).bind fun t187 => (if t187 = true then ((wharfageref10_Has.f k a0_0 l0_1 a1 (-1)).bind fun t188 => (wharfageref10_BacksOf.j0 k a1 l2 (!t188) a0_0 l0_1)) else (wharfageref10_BacksOf.j0 k a1 l2 true a0_0 l0_1))) else (wharfageref10_BacksOf.j0 k a1 l2 true a0_0 l0_1))) = some (r1, r2) := h
 clear h
 have HC4 := Aside0.mk H
 clear H
 go_enter Try.func22, Try.ntmps22
 go_upto_region 1 with (first | ((with_reducible refine gate_dst (N := 3) rfl ?_); refine box_event ?hg (N := 3) ?hd (cs := #[.int .i64 a0_0, .slice A0_1 l0_1.length c0_1]) (t := 24) ?hr ?_; (case hd => rfl); (case hg => rfl); (case hr => first | (go_simp; done) | (go_simp; rfl)); intro g0 hg w5 hbox hb; have n0_ := Aside0.mk (below_step (by repeat (first | (with_reducible first | exact HB.out | apply below_alloc | apply pw_below_drewN | apply below_drew1) | exact HB.out)) hb); have n1_ := Aside0.mk (hbox); have n2_ := Aside0.mk ((by rw [hg]; exact (below_size (by repeat (first | (with_reducible first | exact HB.out | apply below_alloc | apply pw_below_drewN | apply below_drew1) | exact HB.out))) : w.heap.size ≤ g0)); have n3_ := Aside0.mk ((by rw [hg]; exact (below_size (by repeat (first | (with_reducible first | exact HB.out | apply below_alloc | apply pw_below_drewN | apply below_drew1) | exact HB.out))) : w.heap.size ≤ g0)); clear HB; have HB := n0_; have K0 := n1_; have G0 := n2_; have E0 := n3_; clear n0_ n1_ n2_ n3_; clear hb hbox hg))
 (try simp only [Act.put, List.setIfInBounds_toArray, List.set_cons_zero, List.set_cons_succ])
 go_cut [24] (fun v24 wc => ∃ (kq : Nat) (x24_3 : Bool), v24 = .bool x24_3 ∧ Aside0 (wharfageref10_BacksOf.j0 kq a1 l2 x24_3 a0_0 l0_1 = some (r1, r2)) ∧ Aside0 (kq ≤ k) ∧ Aside0 (wc.heap[g0]? = some (.cells #[.int .i64 a0_0, (.slice A0_1 l0_1.length c0_1)] 24 (0, 0))) ∧ Aside0 (Below w.heap.size w wc))
 case first =>
  have H := HC4.out
  clear HC4
  replace H := Option.bind_eq_some_iff.mp H
  obtain ⟨t186, A60, H⟩ := H
  replace H : (if t186 = true then ((wharfageref10_healthsMay.f k l2 4).bind fun t187 => (if t187 = true then ((wharfageref10_Has.f k a0_0 l0_1 a1 (-1)).bind fun t188 => (wharfageref10_BacksOf.j0 k a1 l2 (!t188) a0_0 l0_1)) else (wharfageref10_BacksOf.j0 k a1 l2 true a0_0 l0_1))) else (wharfageref10_BacksOf.j0 k a1 l2 true a0_0 l0_1)) = some (r1, r2) := H
  have A6 := Aside0.mk A60
  clear A60
  by_cases c7 : t186 = true
  ·subst c7
   have H1 : ((wharfageref10_healthsMay.f k l2 4).bind fun t187 => (if t187 = true then ((wharfageref10_Has.f k a0_0 l0_1 a1 (-1)).bind fun t188 => (wharfageref10_BacksOf.j0 k a1 l2 (!t188) a0_0 l0_1)) else (wharfageref10_BacksOf.j0 k a1 l2 true a0_0 l0_1))) = some (r1, r2) := by rw [if_pos rfl] at H; exact H
   clear H
   have H := H1
   clear H1
   replace H := Option.bind_eq_some_iff.mp H
   obtain ⟨t187, A80, H⟩ := H
   replace H : (if t187 = true then ((wharfageref10_Has.f k a0_0 l0_1 a1 (-1)).bind fun t188 => (wharfageref10_BacksOf.j0 k a1 l2 (!t188) a0_0 l0_1)) else (wharfageref10_BacksOf.j0 k a1 l2 true a0_0 l0_1)) = some (r1, r2) := H
   have A8 := Aside0.mk A80
   clear A80
   by_cases c9 : t187 = true
   ·subst c9
    have H1 : ((wharfageref10_Has.f k a0_0 l0_1 a1 (-1)).bind fun t188 => (wharfageref10_BacksOf.j0 k a1 l2 (!t188) a0_0 l0_1)) = some (r1, r2) := by rw [if_pos rfl] at H; exact H
    clear H
    have H := H1
    clear H1
    replace H := Option.bind_eq_some_iff.mp H
    obtain ⟨t188, A100, H⟩ := H
    replace H : (wharfageref10_BacksOf.j0 k a1 l2 (!t188) a0_0 l0_1) = some (r1, r2) := H
    have A10 := Aside0.mk A100
    clear A100
    have H' := Aside0.mk H
    clear H
    have hcz11_0 : w5.cell? ⟨g0, 0, none⟩ = some (.int .i64 a0_0) := (blk_cell K0.out 0).trans rfl
    have hcz11_1 : w5.cell? ⟨g0, 1, none⟩ = some (.slice A0_1 l0_1.length c0_1) := (blk_cell K0.out 1).trans rfl
    have hfz11_0 := blk_frozen K0.out 0
    have hfz11_1 := blk_frozen K0.out 1
    go_wp2_with (first | ((with_reducible refine gate_callee (f := 39) rfl ?_); refine goesL_ (some 12) rfl rfl Try.func39 (by kernel_rfl) rfl #[.agg #[.int .i64 a0_0, .slice A0_1 l0_1.length c0_1]] rfl (by (try simp only [List.map_toArray, List.map_cons, List.map_nil]); first | done | rfl | (simp only [List.length_drop, List.length_take]; rfl)) ?_; (with_reducible refine (wharfageref10_ConfMay.calls k a0_0 _ _ l0_1 true _ ?side1 ?side2 A6.out).mono ?_); (case side1 => repeat (first | exact (Kd.C_below HR0_1.out HB.out) | (with_reducible refine Kd.C_alloc ?_ _) | (with_reducible refine Kd.C_drewN ?_ _) | (with_reducible refine Kd.C_drew ?_))); (case side2 => exact HC0_1.out); rintro e w12 ⟨rfl, hb⟩; refine ⟨_, rfl, ?_⟩; have n0_ := Aside0.mk (blk_below (g := g0) (o := .cells #[.int .i64 a0_0, .slice A0_1 l0_1.length c0_1] 24 (0, 0)) (by (with_reducible repeat (first | refine blk_drewN ?_ _ | refine blk_drew ?_ | refine blk_alloc ?_ _)); exact K0.out) hb); have n1_ := Aside0.mk (below_step (by repeat (first | (with_reducible first | exact HB.out | apply below_alloc | apply pw_below_drewN | apply below_drew1 | refine below_set ?_ E0.out) | exact HB.out)) hb); clear K0; clear HB; have K0 := n0_; have HB := n1_; clear n0_ n1_; (try clear hb); (try clear hb2); (try clear hk); (try clear hi)) | (go_at_call 40; (with_reducible refine (wharfageref10_healthsMay.calls k _ _ l2 4 true _ ?side1 ?side2 A8.out).mono ?_); (case side1 => repeat (first | exact (Kd.C_below HR2.out HB.out) | (with_reducible refine Kd.C_alloc ?_ _) | (with_reducible refine Kd.C_drewN ?_ _) | (with_reducible refine Kd.C_drew ?_))); (case side2 => exact HC2.out); rintro e w13 ⟨rfl, hb⟩; have n0_ := Aside0.mk (blk_below (g := g0) (o := .cells #[.int .i64 a0_0, .slice A0_1 l0_1.length c0_1] 24 (0, 0)) (by (with_reducible repeat (first | refine blk_drewN ?_ _ | refine blk_drew ?_ | refine blk_alloc ?_ _)); exact K0.out) hb); have n1_ := Aside0.mk (below_step (by repeat (first | (with_reducible first | exact HB.out | apply below_alloc | apply pw_below_drewN | apply below_drew1 | refine below_set ?_ E0.out) | exact HB.out)) hb); clear K0; clear HB; have K0 := n0_; have HB := n1_; clear n0_ n1_; (try clear hb); (try clear hb2); (try clear hk); (try clear hi); have hcz14_0 : w13.cell? ⟨g0, 0, none⟩ = some (.int .i64 a0_0) := (blk_cell K0.out 0).trans rfl; have hcz14_1 : w13.cell? ⟨g0, 1, none⟩ = some (.slice A0_1 l0_1.length c0_1) := (blk_cell K0.out 1).trans rfl; have hfz14_0 := blk_frozen K0.out 0; have hfz14_1 := blk_frozen K0.out 1) | (go_at_call 21; (with_reducible refine (wharfageref10_Has.calls k a0_0 _ _ l0_1 a1 (-1) t188 _ ?side1 ?side2 A10.out).mono ?_); (case side1 => repeat (first | exact (Kd.C_below HR0_1.out HB.out) | (with_reducible refine Kd.C_alloc ?_ _) | (with_reducible refine Kd.C_drewN ?_ _) | (with_reducible refine Kd.C_drew ?_))); (case side2 => exact HC0_1.out); rintro e w15 ⟨rfl, hb⟩; have n0_ := Aside0.mk (blk_below (g := g0) (o := .cells #[.int .i64 a0_0, .slice A0_1 l0_1.length c0_1] 24 (0, 0)) (by (with_reducible repeat (first | refine blk_drewN ?_ _ | refine blk_drew ?_ | refine blk_alloc ?_ _)); exact K0.out) hb); have n1_ := Aside0.mk (below_step (by repeat (first | (with_reducible first | exact HB.out | apply below_alloc | apply pw_below_drewN | apply below_drew1 | refine below_set ?_ E0.out) | exact HB.out)) hb); clear K0; clear HB; have K0 := n0_; have HB := n1_; clear n0_ n1_; (try clear hb); (try clear hb2); (try clear hk); (try clear hi)))
    go_meet
    case rel => exact ⟨_, (!t188), (by first | rfl | (simp; done) | (simp [*]; done)), H', ⟨by first | omega | exact Nat.le_refl _⟩, ⟨by (with_reducible repeat (first | refine blk_drewN ?_ _ | refine blk_drew ?_ | refine blk_alloc ?_ _)); exact K0.out⟩, ⟨by repeat (first | (with_reducible first | exact HB.out | apply below_alloc | apply pw_below_drewN | apply below_drew1 | refine below_set ?_ E0.out) | exact HB.out)⟩⟩
   ·replace c9 := Bool.eq_false_iff.mpr c9
    subst c9
    have H1 : (wharfageref10_BacksOf.j0 k a1 l2 true a0_0 l0_1) = some (r1, r2) := by rw [if_neg (show ¬ (false = true) by decide)] at H; exact H
    clear H
    have H := H1
    clear H1
    have H' := Aside0.mk H
    clear H
    have hcz16_0 : w5.cell? ⟨g0, 0, none⟩ = some (.int .i64 a0_0) := (blk_cell K0.out 0).trans rfl
    have hcz16_1 : w5.cell? ⟨g0, 1, none⟩ = some (.slice A0_1 l0_1.length c0_1) := (blk_cell K0.out 1).trans rfl
    have hfz16_0 := blk_frozen K0.out 0
    have hfz16_1 := blk_frozen K0.out 1
    go_wp2_with (first | ((with_reducible refine gate_callee (f := 39) rfl ?_); refine goesL_ (some 12) rfl rfl Try.func39 (by kernel_rfl) rfl #[.agg #[.int .i64 a0_0, .slice A0_1 l0_1.length c0_1]] rfl (by (try simp only [List.map_toArray, List.map_cons, List.map_nil]); first | done | rfl | (simp only [List.length_drop, List.length_take]; rfl)) ?_; (with_reducible refine (wharfageref10_ConfMay.calls k a0_0 _ _ l0_1 true _ ?side1 ?side2 A6.out).mono ?_); (case side1 => repeat (first | exact (Kd.C_below HR0_1.out HB.out) | (with_reducible refine Kd.C_alloc ?_ _) | (with_reducible refine Kd.C_drewN ?_ _) | (with_reducible refine Kd.C_drew ?_))); (case side2 => exact HC0_1.out); rintro e w17 ⟨rfl, hb⟩; refine ⟨_, rfl, ?_⟩; have n0_ := Aside0.mk (blk_below (g := g0) (o := .cells #[.int .i64 a0_0, .slice A0_1 l0_1.length c0_1] 24 (0, 0)) (by (with_reducible repeat (first | refine blk_drewN ?_ _ | refine blk_drew ?_ | refine blk_alloc ?_ _)); exact K0.out) hb); have n1_ := Aside0.mk (below_step (by repeat (first | (with_reducible first | exact HB.out | apply below_alloc | apply pw_below_drewN | apply below_drew1 | refine below_set ?_ E0.out) | exact HB.out)) hb); clear K0; clear HB; have K0 := n0_; have HB := n1_; clear n0_ n1_; (try clear hb); (try clear hb2); (try clear hk); (try clear hi)) | (go_at_call 40; (with_reducible refine (wharfageref10_healthsMay.calls k _ _ l2 4 false _ ?side1 ?side2 A8.out).mono ?_); (case side1 => repeat (first | exact (Kd.C_below HR2.out HB.out) | (with_reducible refine Kd.C_alloc ?_ _) | (with_reducible refine Kd.C_drewN ?_ _) | (with_reducible refine Kd.C_drew ?_))); (case side2 => exact HC2.out); rintro e w18 ⟨rfl, hb⟩; have n0_ := Aside0.mk (blk_below (g := g0) (o := .cells #[.int .i64 a0_0, .slice A0_1 l0_1.length c0_1] 24 (0, 0)) (by (with_reducible repeat (first | refine blk_drewN ?_ _ | refine blk_drew ?_ | refine blk_alloc ?_ _)); exact K0.out) hb); have n1_ := Aside0.mk (below_step (by repeat (first | (with_reducible first | exact HB.out | apply below_alloc | apply pw_below_drewN | apply below_drew1 | refine below_set ?_ E0.out) | exact HB.out)) hb); clear K0; clear HB; have K0 := n0_; have HB := n1_; clear n0_ n1_; (try clear hb); (try clear hb2); (try clear hk); (try clear hi)))
    go_meet
    case rel => exact ⟨_, (true), (by first | rfl | (simp; done) | (simp [*]; done)), H', ⟨by first | omega | exact Nat.le_refl _⟩, ⟨by (with_reducible repeat (first | refine blk_drewN ?_ _ | refine blk_drew ?_ | refine blk_alloc ?_ _)); exact K0.out⟩, ⟨by repeat (first | (with_reducible first | exact HB.out | apply below_alloc | apply pw_below_drewN | apply below_drew1 | refine below_set ?_ E0.out) | exact HB.out)⟩⟩
  ·replace c7 := Bool.eq_false_iff.mpr c7
   subst c7
   have H1 : (wharfageref10_BacksOf.j0 k a1 l2 true a0_0 l0_1) = some (r1, r2) := by rw [if_neg (show ¬ (false = true) by decide)] at H; exact H
   clear H
   have H := H1
   clear H1
   have H' := Aside0.mk H
   clear H
   have hcz19_0 : w5.cell? ⟨g0, 0, none⟩ = some (.int .i64 a0_0) := (blk_cell K0.out 0).trans rfl
   have hcz19_1 : w5.cell? ⟨g0, 1, none⟩ = some (.slice A0_1 l0_1.length c0_1) := (blk_cell K0.out 1).trans rfl
   have hfz19_0 := blk_frozen K0.out 0
   have hfz19_1 := blk_frozen K0.out 1
   go_wp2_with (first | ((with_reducible refine gate_callee (f := 39) rfl ?_); refine goesL_ (some 12) rfl rfl Try.func39 (by kernel_rfl) rfl #[.agg #[.int .i64 a0_0, .slice A0_1 l0_1.length c0_1]] rfl (by (try simp only [List.map_toArray, List.map_cons, List.map_nil]); first | done | rfl | (simp only [List.length_drop, List.length_take]; rfl)) ?_; (with_reducible refine (wharfageref10_ConfMay.calls k a0_0 _ _ l0_1 false _ ?side1 ?side2 A6.out).mono ?_); (case side1 => repeat (first | exact (Kd.C_below HR0_1.out HB.out) | (with_reducible refine Kd.C_alloc ?_ _) | (with_reducible refine Kd.C_drewN ?_ _) | (with_reducible refine Kd.C_drew ?_))); (case side2 => exact HC0_1.out); rintro e w20 ⟨rfl, hb⟩; refine ⟨_, rfl, ?_⟩; have n0_ := Aside0.mk (blk_below (g := g0) (o := .cells #[.int .i64 a0_0, .slice A0_1 l0_1.length c0_1] 24 (0, 0)) (by (with_reducible repeat (first | refine blk_drewN ?_ _ | refine blk_drew ?_ | refine blk_alloc ?_ _)); exact K0.out) hb); have n1_ := Aside0.mk (below_step (by repeat (first | (with_reducible first | exact HB.out | apply below_alloc | apply pw_below_drewN | apply below_drew1 | refine below_set ?_ E0.out) | exact HB.out)) hb); clear K0; clear HB; have K0 := n0_; have HB := n1_; clear n0_ n1_; (try clear hb); (try clear hb2); (try clear hk); (try clear hi)))
   go_meet
   case rel => exact ⟨_, (true), (by first | rfl | (simp; done) | (simp [*]; done)), H', ⟨by first | omega | exact Nat.le_refl _⟩, ⟨by (with_reducible repeat (first | refine blk_drewN ?_ _ | refine blk_drew ?_ | refine blk_alloc ?_ _)); exact K0.out⟩, ⟨by repeat (first | (with_reducible first | exact HB.out | apply below_alloc | apply pw_below_drewN | apply below_drew1 | refine below_set ?_ E0.out) | exact HB.out)⟩⟩
 case rest =>
  clear HC4
  try clear c2
  try clear p2
  try clear c3
  try clear c7
  try clear c9
  try clear hcz11_0
  try clear hcz11_1
  try clear hcz14_0
  try clear hcz14_1
  try clear hcz16_0
  try clear hcz16_1
  try clear hcz19_0
  try clear hcz19_1
  try clear hfz11_0
  try clear hfz11_1
  try clear hfz14_0
  try clear hfz14_1
  try clear hfz16_0
  try clear hfz16_1
  try clear hfz19_0
  try clear hfz19_1
  obtain ⟨kq, x24_3, rfl, HA, HJ3, K0, HB⟩ := hcut
  cases kq with
  | zero => exact absurd HA.out (by simp [wharfageref10_BacksOf.j0])
  | succ kj3 =>
   have H := HA.out
   clear HA
   simp only [wharfageref10_BacksOf.j0] at H
   by_cases c21 : x24_3 = true
   ·subst c21
    have H1 : (some (([] : List (S70)), 1300)) = some (r1, r2) := by rw [if_pos rfl] at H; exact H
    clear H
    have H := H1
    clear H1
    simp only [Option.some.injEq, Prod.mk.injEq] at H
    obtain ⟨rfl, rfl⟩ := H
    go_wp2
    go_ret2
    exact ⟨_, by first | rfl | (simp [errW_none, errW_some] <;> rfl) | (simp [*, errW_none, errW_some] <;> rfl), by first | exact Kd.R_nil _ _ _ _ _ | exact Kd.N_nil _ _ _ _ _ | exact Kd.V_nil _ _ _ _ _ | exact Kd.Q_nil _ _ _ _ _ | exact Kd.S_nil _ _ _ _ _, by repeat (first | (with_reducible first | exact HB.out | apply below_alloc | apply pw_below_drewN | apply below_drew1 | refine below_set ?_ E0.out) | exact HB.out)⟩
   ·replace c21 := Bool.eq_false_iff.mpr c21
    subst c21
    have H1 : (if 0 ≤ a1 then (if a1 < (l0_1.length : Int) then (wharfageref10_BacksOf.l0 kj3 l2 ([] : List (S70)) ((rd_T53 l0_1 a1).f3) 0) else (none)) else (none)) = some (r1, r2) := by rw [if_neg (show ¬ (false = true) by decide)] at H; exact H
    clear H
    have H := H1
    clear H1
    by_cases c22 : 0 ≤ a1
    ·rw [if_pos c22] at H
     have c22b0 : decide (0 ≤ a1) = true := decide_eq_true c22
     clear c22
     by_cases c23 : a1 < (l0_1.length : Int)
     ·rw [if_pos c23] at H
      have c23b0 : decide (a1 < (l0_1.length : Int)) = true := decide_eq_true c23
      clear c23
      have H' := Aside0.mk H
      clear H
      have hcz24_0 : wc.cell? ⟨g0, 0, none⟩ = some (.int .i64 a0_0) := (blk_cell K0.out 0).trans rfl
      have hcz24_1 : wc.cell? ⟨g0, 1, none⟩ = some (.slice A0_1 l0_1.length c0_1) := (blk_cell K0.out 1).trans rfl
      have hfz24_0 := blk_frozen K0.out 0
      have hfz24_1 := blk_frozen K0.out 1
      have p189 : 0 ≤ (a1 : Int) := of_decide_eq_true (by first | (with_reducible assumption) | assumption)
      have q189 : a1 < (l0_1.length : Int) := of_decide_eq_true (by first | (with_reducible assumption) | assumption)
      obtain ⟨ad189, A189_3, c189_3, e189, hx189_0, hx189_1, hx189_2, hx189_3, hl189_3, hi189_3⟩ := at_T53 HR0_1.out a1 p189 q189
      cases e189
      replace hx189_0 := (HB.out.cell (World.block_lt_of_cell? w _ hx189_0)).trans hx189_0
      replace hx189_1 := (HB.out.cell (World.block_lt_of_cell? w _ hx189_1)).trans hx189_1
      replace hx189_2 := (HB.out.cell (World.block_lt_of_cell? w _ hx189_2)).trans hx189_2
      replace hx189_3 := (HB.out.cell (World.block_lt_of_cell? w _ hx189_3)).trans hx189_3
      have HR189_3 := Aside0.mk hi189_3
      have HC189_3 := Aside0.mk hl189_3
      clear hi189_3 hl189_3
      replace p189 := eq_true p189
      replace q189 := eq_true q189
      go_wp2
      go_loopg [8, 10] kj3 (fun kq v8 v10 w' => ∃ (x8_2 : List (S70)) (x10_2 : Int), v10 = .int .i64 x10_2 ∧ Aside0 (wharfageref10_BacksOf.l0 kq l2 x8_2 ((rd_T53 l0_1 a1).f3) x10_2 = some (r1, r2)) ∧ Aside0 (kq ≤ kj3) ∧ Aside0 (Kd.R k70 70 w' w.heap.size (fun _ => True) v8 x8_2) ∧ Aside0 (w'.heap[g0]? = some (.cells #[.int .i64 a0_0, (.slice (some ad189) l0_1.length c0_1)] 24 (0, 0))) ∧ Aside0 (Below w.heap.size w w'))
      case atStart => exact ⟨(([] : List (S70))), (0), (by first | rfl | (simp; done) | (simp [*]; done)), H', ⟨Nat.le_refl _⟩, ⟨by first | exact Kd.R_nil _ _ _ _ _ | exact Kd.N_nil _ _ _ _ _ | exact Kd.V_nil _ _ _ _ _ | exact Kd.Q_nil _ _ _ _ _ | exact Kd.S_nil _ _ _ _ _⟩, ⟨by (with_reducible repeat (first | refine blk_drewN ?_ _ | refine blk_drew ?_ | refine blk_alloc ?_ _)); exact K0.out⟩, ⟨by repeat (first | (with_reducible first | exact HB.out | apply below_alloc | apply pw_below_drewN | apply below_drew1 | refine below_set ?_ E0.out) | exact HB.out)⟩⟩
      case round =>
       clear H'
       try clear c1
       try clear p1
       try clear q1
       try clear hx1
       try clear c2
       try clear p2
       try clear c3
       try clear c7
       try clear c9
       try clear c18
       try clear p18
       try clear q18
       try clear hx18
       try clear c21
       try clear c22
       try clear c22b0
       try clear c23
       try clear c23b0
       try clear hcz11_0
       try clear hcz11_1
       try clear hcz14_0
       try clear hcz14_1
       try clear hcz16_0
       try clear hcz16_1
       try clear hcz19_0
       try clear hcz19_1
       try clear hcz24_0
       try clear hcz24_1
       try clear hfz11_0
       try clear hfz11_1
       try clear hfz14_0
       try clear hfz14_1
       try clear hfz16_0
       try clear hfz16_1
       try clear hfz19_0
       try clear hfz19_1
       try clear hfz24_0
       try clear hfz24_1
       try clear hx189_0
       try clear hx189_1
       try clear hx189_2
       try clear hx189_3
       try clear p189
       try clear p2
       try clear q189
       obtain ⟨x8_2, x10_2, rfl, HA, HK2, HO_8, K0, HB⟩ := hrel
       cases gk with
       | zero => exact absurd HA.out (by simp [wharfageref10_BacksOf.l0])
       | succ k2 =>
        have H := HA.out
        clear HA
        simp only [wharfageref10_BacksOf.l0] at H
        by_cases c25 : x10_2 < (((rd_T53 l0_1 a1).f3).length : Int)
        ·rw [if_pos c25] at H
         have c25b0 : decide (x10_2 < (((rd_T53 l0_1 a1).f3).length : Int)) = true := decide_eq_true c25
         clear c25
         by_cases c26 : 0 ≤ x10_2
         ·rw [if_pos c26] at H
          have c26b0 : decide (0 ≤ x10_2) = true := decide_eq_true c26
          clear c26
          by_cases c27 : x10_2 < (l2.length : Int)
          ·rw [if_pos c27] at H
           have c27b0 : decide (x10_2 < (l2.length : Int)) = true := decide_eq_true c27
           clear c27
           obtain ⟨bq28, hbq28⟩ : ∃ b_ : Bool, b_ = ((rd_T86 l2 x10_2).f0) := ⟨_, rfl⟩
           replace H : (if bq28 = true then (if (rd_T83 ((rd_T53 l0_1 a1).f3) x10_2).f1 = true then (wharfageref10_BacksOf.l0 k2 l2 x8_2 ((rd_T53 l0_1 a1).f3) (wrap64 (x10_2 + 1))) else (if ((rd_T83 ((rd_T53 l0_1 a1).f3) x10_2).f0) > 0 then (if x8_2.length < 8796093022208 then (wharfageref10_BacksOf.l0 k2 l2 (x8_2 ++ [(⟨x10_2, (rd_T83 ((rd_T53 l0_1 a1).f3) x10_2).f0⟩ : S70)]) ((rd_T53 l0_1 a1).f3) (wrap64 (x10_2 + 1))) else (none)) else (wharfageref10_BacksOf.l0 k2 l2 x8_2 ((rd_T53 l0_1 a1).f3) (wrap64 (x10_2 + 1))))) else (wharfageref10_BacksOf.l0 k2 l2 x8_2 ((rd_T53 l0_1 a1).f3) (wrap64 (x10_2 + 1)))) = some (r1, r2) := by rw [← hbq28] at H; exact H
           have Nbq28 := Aside0.mk hbq28
           clear hbq28
           by_cases c29 : bq28 = true
           ·subst c29
            have H1 : (if (rd_T83 ((rd_T53 l0_1 a1).f3) x10_2).f1 = true then (wharfageref10_BacksOf.l0 k2 l2 x8_2 ((rd_T53 l0_1 a1).f3) (wrap64 (x10_2 + 1))) else (if ((rd_T83 ((rd_T53 l0_1 a1).f3) x10_2).f0) > 0 then (if x8_2.length < 8796093022208 then (wharfageref10_BacksOf.l0 k2 l2 (x8_2 ++ [(⟨x10_2, (rd_T83 ((rd_T53 l0_1 a1).f3) x10_2).f0⟩ : S70)]) ((rd_T53 l0_1 a1).f3) (wrap64 (x10_2 + 1))) else (none)) else (wharfageref10_BacksOf.l0 k2 l2 x8_2 ((rd_T53 l0_1 a1).f3) (wrap64 (x10_2 + 1))))) = some (r1, r2) := by rw [if_pos rfl] at H; exact H
            clear H
            have H := H1
            clear H1
            obtain ⟨bq30, hbq30⟩ : ∃ b_ : Bool, b_ = ((rd_T83 ((rd_T53 l0_1 a1).f3) x10_2).f1) := ⟨_, rfl⟩
            replace H : (if bq30 = true then (wharfageref10_BacksOf.l0 k2 l2 x8_2 ((rd_T53 l0_1 a1).f3) (wrap64 (x10_2 + 1))) else (if ((rd_T83 ((rd_T53 l0_1 a1).f3) x10_2).f0) > 0 then (if x8_2.length < 8796093022208 then (wharfageref10_BacksOf.l0 k2 l2 (x8_2 ++ [(⟨x10_2, (rd_T83 ((rd_T53 l0_1 a1).f3) x10_2).f0⟩ : S70)]) ((rd_T53 l0_1 a1).f3) (wrap64 (x10_2 + 1))) else (none)) else (wharfageref10_BacksOf.l0 k2 l2 x8_2 ((rd_T53 l0_1 a1).f3) (wrap64 (x10_2 + 1))))) = some (r1, r2) := by rw [← hbq30] at H; exact H
            have Nbq30 := Aside0.mk hbq30
            clear hbq30
            by_cases c31 : bq30 = true
            ·subst c31
             have H1 : (wharfageref10_BacksOf.l0 k2 l2 x8_2 ((rd_T53 l0_1 a1).f3) (wrap64 (x10_2 + 1))) = some (r1, r2) := by rw [if_pos rfl] at H; exact H
             clear H
             have H := H1
             clear H1
             have H' := Aside0.mk H
             clear H
             have p190 : 0 ≤ (x10_2 : Int) := of_decide_eq_true (by first | (with_reducible assumption) | assumption)
             have q190 : x10_2 < (l2.length : Int) := of_decide_eq_true (by first | (with_reducible assumption) | assumption)
             obtain ⟨ad190, e190, hx190_0, hx190_1⟩ := at_T86 HR2.out x10_2 p190 q190
             (try rw [← Nbq28.out] at hx190_0)
             (try rw [← Nbq28.out] at hw190_0)
             (try rw [← Nbq30.out] at hx190_0)
             (try rw [← Nbq30.out] at hw190_0)
             cases e190
             replace hx190_0 := (HB.out.cell (World.block_lt_of_cell? w _ hx190_0)).trans hx190_0
             replace hx190_1 := (HB.out.cell (World.block_lt_of_cell? w _ hx190_1)).trans hx190_1
             replace p190 := eq_true p190
             replace q190 := eq_true q190
             have p191 : 0 ≤ (x10_2 : Int) := of_decide_eq_true (by first | (with_reducible assumption) | assumption)
             have q191 : x10_2 < (((rd_T53 l0_1 a1).f3).length : Int) := of_decide_eq_true (by first | (with_reducible assumption) | assumption)
             obtain ⟨ad191, e191, hx191_0, hx191_1⟩ := at_T83 HR189_3.out x10_2 p191 q191
             (try rw [← Nbq28.out] at hx191_1)
             (try rw [← Nbq28.out] at hw191_1)
             (try rw [← Nbq30.out] at hx191_1)
             (try rw [← Nbq30.out] at hw191_1)
             cases e191
             replace hx191_0 := (HB.out.cell (World.block_lt_of_cell? w _ hx191_0)).trans hx191_0
             replace hx191_1 := (HB.out.cell (World.block_lt_of_cell? w _ hx191_1)).trans hx191_1
             replace p191 := eq_true p191
             replace q191 := eq_true q191
             go_wp2
             go_roundg k2
             case measure => have := HJ3.out; have := HK2.out; omega
             case rel => exact ⟨(x8_2), (wrap64 (x10_2 + 1)), (by first | rfl | (simp; done) | (simp [*]; done)), H', ⟨by have := HJ3.out; have := HK2.out; omega⟩, ⟨by (with_reducible repeat (first | apply Kd.R_alloc | apply Kd.R_drewN | apply Kd.R_drew)); exact HO_8.out⟩, ⟨by (with_reducible repeat (first | refine blk_drewN ?_ _ | refine blk_drew ?_ | refine blk_alloc ?_ _)); exact K0.out⟩, ⟨by repeat (first | (with_reducible first | exact HB.out | apply below_alloc | apply pw_below_drewN | apply below_drew1 | refine below_set ?_ E0.out) | exact HB.out)⟩⟩
            ·replace c31 := Bool.eq_false_iff.mpr c31
             subst c31
             have H1 : (if ((rd_T83 ((rd_T53 l0_1 a1).f3) x10_2).f0) > 0 then (if x8_2.length < 8796093022208 then (wharfageref10_BacksOf.l0 k2 l2 (x8_2 ++ [(⟨x10_2, (rd_T83 ((rd_T53 l0_1 a1).f3) x10_2).f0⟩ : S70)]) ((rd_T53 l0_1 a1).f3) (wrap64 (x10_2 + 1))) else (none)) else (wharfageref10_BacksOf.l0 k2 l2 x8_2 ((rd_T53 l0_1 a1).f3) (wrap64 (x10_2 + 1)))) = some (r1, r2) := by rw [if_neg (show ¬ (false = true) by decide)] at H; exact H
             clear H
             have H := H1
             clear H1
             by_cases c32 : ((rd_T83 ((rd_T53 l0_1 a1).f3) x10_2).f0) > 0
             ·rw [if_pos c32] at H
              have c32b0 : decide (0 < ((rd_T83 ((rd_T53 l0_1 a1).f3) x10_2).f0)) = true := decide_eq_true c32
              clear c32
              by_cases c33 : x8_2.length < 8796093022208
              ·rw [if_pos c33] at H
               have LMc33 := Aside0.mk c33
               clear c33
               obtain ⟨y194, hy194⟩ : ∃ y_ : List (S70), y_ = (x8_2 ++ [(⟨x10_2, (rd_T83 ((rd_T53 l0_1 a1).f3) x10_2).f0⟩ : S70)]) := ⟨_, rfl⟩
               replace H : (wharfageref10_BacksOf.l0 k2 l2 y194 ((rd_T53 l0_1 a1).f3) (wrap64 (x10_2 + 1))) = some (r1, r2) := by first | (rw [hy194]; with_reducible exact H) | (have H2_ := (Option.bind_some _ _).symm.trans H; rw [hy194]; with_reducible exact H2_) | (have H2_ := (Option.bind_some _ _).symm.trans H; with_reducible exact H2_) | with_reducible exact H | (rw [hy194]; exact H) | exact H
               have Ny194 := Aside0.mk hy194
               clear hy194
               have H' := Aside0.mk H
               clear H
               have p190 : 0 ≤ (x10_2 : Int) := of_decide_eq_true (by first | (with_reducible assumption) | assumption)
               have q190 : x10_2 < (l2.length : Int) := of_decide_eq_true (by first | (with_reducible assumption) | assumption)
               obtain ⟨ad190, e190, hx190_0, hx190_1⟩ := at_T86 HR2.out x10_2 p190 q190
               (try rw [← Nbq28.out] at hx190_0)
               (try rw [← Nbq28.out] at hw190_0)
               (try rw [← Nbq30.out] at hx190_0)
               (try rw [← Nbq30.out] at hw190_0)
               cases e190
               replace hx190_0 := (HB.out.cell (World.block_lt_of_cell? w _ hx190_0)).trans hx190_0
               replace hx190_1 := (HB.out.cell (World.block_lt_of_cell? w _ hx190_1)).trans hx190_1
               replace p190 := eq_true p190
               replace q190 := eq_true q190
               have p191 : 0 ≤ (x10_2 : Int) := of_decide_eq_true (by first | (with_reducible assumption) | assumption)
               have q191 : x10_2 < (((rd_T53 l0_1 a1).f3).length : Int) := of_decide_eq_true (by first | (with_reducible assumption) | assumption)
               obtain ⟨ad191, e191, hx191_0, hx191_1⟩ := at_T83 HR189_3.out x10_2 p191 q191
               (try rw [← Nbq28.out] at hx191_1)
               (try rw [← Nbq28.out] at hw191_1)
               (try rw [← Nbq30.out] at hx191_1)
               (try rw [← Nbq30.out] at hw191_1)
               cases e191
               replace hx191_0 := (HB.out.cell (World.block_lt_of_cell? w _ hx191_0)).trans hx191_0
               replace hx191_1 := (HB.out.cell (World.block_lt_of_cell? w _ hx191_1)).trans hx191_1
               replace p191 := eq_true p191
               replace q191 := eq_true q191
               have p192 : 0 ≤ (x10_2 : Int) := of_decide_eq_true (by first | (with_reducible assumption) | assumption)
               have q192 : x10_2 < (((rd_T53 l0_1 a1).f3).length : Int) := of_decide_eq_true (by first | (with_reducible assumption) | assumption)
               obtain ⟨ad192, e192, hx192_0, hx192_1⟩ := at_T83 HR189_3.out x10_2 p192 q192
               (try rw [← Nbq28.out] at hx192_1)
               (try rw [← Nbq28.out] at hw192_1)
               (try rw [← Nbq30.out] at hx192_1)
               (try rw [← Nbq30.out] at hw192_1)
               obtain rfl : ad191 = ad192 := (by injection e192)
               replace hx192_0 := (HB.out.cell (World.block_lt_of_cell? w _ hx192_0)).trans hx192_0
               replace hx192_1 := (HB.out.cell (World.block_lt_of_cell? w _ hx192_1)).trans hx192_1
               replace p192 := eq_true p192
               replace q192 := eq_true q192
               have p193 : 0 ≤ (x10_2 : Int) := of_decide_eq_true (by first | (with_reducible assumption) | assumption)
               have q193 : x10_2 < (((rd_T53 l0_1 a1).f3).length : Int) := of_decide_eq_true (by first | (with_reducible assumption) | assumption)
               obtain ⟨ad193, e193, hx193_0, hx193_1⟩ := at_T83 HR189_3.out x10_2 p193 q193
               (try rw [← Nbq28.out] at hx193_1)
               (try rw [← Nbq28.out] at hw193_1)
               (try rw [← Nbq30.out] at hx193_1)
               (try rw [← Nbq30.out] at hw193_1)
               obtain rfl : ad191 = ad193 := (by injection e193)
               replace hx193_0 := (HB.out.cell (World.block_lt_of_cell? w _ hx193_0)).trans hx193_0
               replace hx193_1 := (HB.out.cell (World.block_lt_of_cell? w _ hx193_1)).trans hx193_1
               replace p193 := eq_true p193
               replace q193 := eq_true q193
               go_wp2_with (first | ((with_reducible refine gate_builtin (b := .append) (xs := #[.tmp 58, .tmp 66]) rfl ?_); at_builtin; refine Kd.R_append k70 (w0 := w) w.heap.size rfl (.tmp 58) (.tmp 66) 36 70 (.agg #[(.int .i64 0), (.int .i64 0)]) 16 rfl Try.underlying36 info70 rfl (by decide) (by omega) u8 x8_2 (⟨x10_2, (rd_T83 ((rd_T53 l0_1 a1).f3) x10_2).f0⟩ : S70) [.int .i64 x10_2, .int .i64 ((rd_T83 ((rd_T53 l0_1 a1).f3) x10_2).f0)] (fun _ => True) (fun _ => False) rfl rfl ?aP (fun _ hk => hk.elim) ?aF ?aO ?aB ?aS ?aL ?_; (case aP => exact k70_mkM _ _ _ (⟨x10_2, (rd_T83 ((rd_T53 l0_1 a1).f3) x10_2).f0⟩ : S70)); (case aB => exact (by repeat (first | (with_reducible first | exact HB.out | apply below_alloc | apply pw_below_drewN | apply below_drew1 | refine below_set ?_ E0.out) | exact HB.out))); (case aF => exact (fun _ _ => trivial)); (case aO => exact (by (with_reducible repeat (first | apply Kd.R_alloc | apply Kd.R_drewN | apply Kd.R_drew)); exact HO_8.out)); (case aS => exact (below_size (by repeat (first | (with_reducible first | exact HB.out | apply below_alloc | apply pw_below_drewN | apply below_drew1 | refine below_set ?_ E0.out) | exact HB.out)))); (case aL => have := LMc33.out; omega); intro v195 w34 ho hb hg hat; rw [← Ny194.out] at ho; have n0_ := Aside0.mk (blk_grown (g := g0) (o := .cells #[.int .i64 a0_0, .slice (some ad189) l0_1.length c0_1] 24 (0, 0)) (by (with_reducible repeat (first | refine blk_drewN ?_ _ | refine blk_drew ?_ | refine blk_alloc ?_ _)); exact K0.out) hg (Kd.R_ne HO_8.out K0.out (by decide))); have n1_ := Aside0.mk (hb); have n2_ := Aside0.mk (ho); clear K0; clear HB; clear HO_8; have K0 := n0_; have HB := n1_; have O0 := n2_; clear n0_ n1_ n2_; clear ho hb hg hat))
               go_roundg k2
               case measure => have := HJ3.out; have := HK2.out; omega
               case rel => exact ⟨(y194), (wrap64 (x10_2 + 1)), (by first | rfl | (simp; done) | (simp [*]; done)), H', ⟨by have := HJ3.out; have := HK2.out; omega⟩, ⟨by (with_reducible repeat (first | apply Kd.R_alloc | apply Kd.R_drewN | apply Kd.R_drew)); exact O0.out⟩, ⟨by (with_reducible repeat (first | refine blk_drewN ?_ _ | refine blk_drew ?_ | refine blk_alloc ?_ _)); exact K0.out⟩, ⟨by repeat (first | (with_reducible first | exact HB.out | apply below_alloc | apply pw_below_drewN | apply below_drew1 | refine below_set ?_ E0.out) | exact HB.out)⟩⟩
              ·rw [if_neg c33] at H
               exact absurd H (by simp)
             ·rw [if_neg c32] at H
              have c32b0 : decide (0 < ((rd_T83 ((rd_T53 l0_1 a1).f3) x10_2).f0)) = false := decide_eq_false c32
              clear c32
              have H' := Aside0.mk H
              clear H
              have p190 : 0 ≤ (x10_2 : Int) := of_decide_eq_true (by first | (with_reducible assumption) | assumption)
              have q190 : x10_2 < (l2.length : Int) := of_decide_eq_true (by first | (with_reducible assumption) | assumption)
              obtain ⟨ad190, e190, hx190_0, hx190_1⟩ := at_T86 HR2.out x10_2 p190 q190
              (try rw [← Nbq28.out] at hx190_0)
              (try rw [← Nbq28.out] at hw190_0)
              (try rw [← Nbq30.out] at hx190_0)
              (try rw [← Nbq30.out] at hw190_0)
              cases e190
              replace hx190_0 := (HB.out.cell (World.block_lt_of_cell? w _ hx190_0)).trans hx190_0
              replace hx190_1 := (HB.out.cell (World.block_lt_of_cell? w _ hx190_1)).trans hx190_1
              replace p190 := eq_true p190
              replace q190 := eq_true q190
              have p191 : 0 ≤ (x10_2 : Int) := of_decide_eq_true (by first | (with_reducible assumption) | assumption)
              have q191 : x10_2 < (((rd_T53 l0_1 a1).f3).length : Int) := of_decide_eq_true (by first | (with_reducible assumption) | assumption)
              obtain ⟨ad191, e191, hx191_0, hx191_1⟩ := at_T83 HR189_3.out x10_2 p191 q191
              (try rw [← Nbq28.out] at hx191_1)
              (try rw [← Nbq28.out] at hw191_1)
              (try rw [← Nbq30.out] at hx191_1)
              (try rw [← Nbq30.out] at hw191_1)
              cases e191
              replace hx191_0 := (HB.out.cell (World.block_lt_of_cell? w _ hx191_0)).trans hx191_0
              replace hx191_1 := (HB.out.cell (World.block_lt_of_cell? w _ hx191_1)).trans hx191_1
              replace p191 := eq_true p191
              replace q191 := eq_true q191
              have p192 : 0 ≤ (x10_2 : Int) := of_decide_eq_true (by first | (with_reducible assumption) | assumption)
              have q192 : x10_2 < (((rd_T53 l0_1 a1).f3).length : Int) := of_decide_eq_true (by first | (with_reducible assumption) | assumption)
              obtain ⟨ad192, e192, hx192_0, hx192_1⟩ := at_T83 HR189_3.out x10_2 p192 q192
              (try rw [← Nbq28.out] at hx192_1)
              (try rw [← Nbq28.out] at hw192_1)
              (try rw [← Nbq30.out] at hx192_1)
              (try rw [← Nbq30.out] at hw192_1)
              obtain rfl : ad191 = ad192 := (by injection e192)
              replace hx192_0 := (HB.out.cell (World.block_lt_of_cell? w _ hx192_0)).trans hx192_0
              replace hx192_1 := (HB.out.cell (World.block_lt_of_cell? w _ hx192_1)).trans hx192_1
              replace p192 := eq_true p192
              replace q192 := eq_true q192
              go_wp2
              go_roundg k2
              case measure => have := HJ3.out; have := HK2.out; omega
              case rel => exact ⟨(x8_2), (wrap64 (x10_2 + 1)), (by first | rfl | (simp; done) | (simp [*]; done)), H', ⟨by have := HJ3.out; have := HK2.out; omega⟩, ⟨by (with_reducible repeat (first | apply Kd.R_alloc | apply Kd.R_drewN | apply Kd.R_drew)); exact HO_8.out⟩, ⟨by (with_reducible repeat (first | refine blk_drewN ?_ _ | refine blk_drew ?_ | refine blk_alloc ?_ _)); exact K0.out⟩, ⟨by repeat (first | (with_reducible first | exact HB.out | apply below_alloc | apply pw_below_drewN | apply below_drew1 | refine below_set ?_ E0.out) | exact HB.out)⟩⟩
           ·replace c29 := Bool.eq_false_iff.mpr c29
            subst c29
            have H1 : (wharfageref10_BacksOf.l0 k2 l2 x8_2 ((rd_T53 l0_1 a1).f3) (wrap64 (x10_2 + 1))) = some (r1, r2) := by rw [if_neg (show ¬ (false = true) by decide)] at H; exact H
            clear H
            have H := H1
            clear H1
            have H' := Aside0.mk H
            clear H
            have p190 : 0 ≤ (x10_2 : Int) := of_decide_eq_true (by first | (with_reducible assumption) | assumption)
            have q190 : x10_2 < (l2.length : Int) := of_decide_eq_true (by first | (with_reducible assumption) | assumption)
            obtain ⟨ad190, e190, hx190_0, hx190_1⟩ := at_T86 HR2.out x10_2 p190 q190
            (try rw [← Nbq28.out] at hx190_0)
            (try rw [← Nbq28.out] at hw190_0)
            cases e190
            replace hx190_0 := (HB.out.cell (World.block_lt_of_cell? w _ hx190_0)).trans hx190_0
            replace hx190_1 := (HB.out.cell (World.block_lt_of_cell? w _ hx190_1)).trans hx190_1
            replace p190 := eq_true p190
            replace q190 := eq_true q190
            go_wp2
            go_roundg k2
            case measure => have := HJ3.out; have := HK2.out; omega
            case rel => exact ⟨(x8_2), (wrap64 (x10_2 + 1)), (by first | rfl | (simp; done) | (simp [*]; done)), H', ⟨by have := HJ3.out; have := HK2.out; omega⟩, ⟨by (with_reducible repeat (first | apply Kd.R_alloc | apply Kd.R_drewN | apply Kd.R_drew)); exact HO_8.out⟩, ⟨by (with_reducible repeat (first | refine blk_drewN ?_ _ | refine blk_drew ?_ | refine blk_alloc ?_ _)); exact K0.out⟩, ⟨by repeat (first | (with_reducible first | exact HB.out | apply below_alloc | apply pw_below_drewN | apply below_drew1 | refine below_set ?_ E0.out) | exact HB.out)⟩⟩
          ·rw [if_neg c27] at H
           exact absurd H (by simp)
         ·rw [if_neg c26] at H
          exact absurd H (by simp)
        ·rw [if_neg c25] at H
         have c25b0 : decide (x10_2 < (((rd_T53 l0_1 a1).f3).length : Int)) = false := decide_eq_false c25
         clear c25
         simp only [Option.some.injEq, Prod.mk.injEq] at H
         obtain ⟨rfl, rfl⟩ := H
         go_wp2
         go_ret2
         exact ⟨_, by first | rfl | (simp [errW_none, errW_some] <;> rfl) | (simp [*, errW_none, errW_some] <;> rfl), by (with_reducible repeat (first | apply Kd.R_alloc | apply Kd.R_drewN | apply Kd.R_drew)); exact HO_8.out, by repeat (first | (with_reducible first | exact HB.out | apply below_alloc | apply pw_below_drewN | apply below_drew1 | refine below_set ?_ E0.out) | exact HB.out)⟩
     ·rw [if_neg c23] at H
      exact absurd H (by simp)
    ·rw [if_neg c22] at H
     exact absurd H (by simp)

end Go.Proofs.Ytlapbhgkmmeeoaa.PSpares
end
section
/- Contracts: what calls of these functions of the program do, each as a plain function; written by a program of this session. -/
namespace Go.Proofs.Ytlapbhgkmmeeoaa.PSpares
open Go.RowKit Go.Proofs.YtlapbhgkmmeeoaaW.PrintWords Go.Proofs.YtlapbhgkmmeeoaaW.PrintLast Go.Proofs.YtlapbhgkmmeeoaaW.PrintMore
attribute [local go_sem] max2_int min2_int max_two min_two max_three min_three max_four min_four   -- for this text's walks alone
set_option linter.unusedVariables false
set_option linter.unusedSimpArgs false

/-! ### wharfageref10_Load: function 23 -/
def wharfageref10_Load.l0 : Nat → Int → Int → Int → Int → List (S53) → List (S86) → List (S91) → List (S50) → Int → Option (Int)
 | 0, _, _, _, _, _, _, _, _, _ => none
 | k + 1, x3, x4, x198000, x198001, x198002, x198003, x198004, x198005, x198006 => if x4 < (x198005.length : Int) then (if 0 ≤ x4 then (if (rd_T50 x198005 x4).f2 = true then (wharfageref10_Load.l0 k x3 (wrap64 (x4 + 1)) x198000 x198001 x198002 x198003 x198004 x198005 x198006) else (wharfageref10_Load.l0 k (wrap64 (x3 + 1)) (wrap64 (x4 + 1)) x198000 x198001 x198002 x198003 x198004 x198005 x198006)) else (none)) else (some x3)
def wharfageref10_Load.f (k : Nat) (a0_0 : Int) (a0_1 : Int) (l0_2 : List (S53)) (l0_3 : List (S86)) (l0_4 : List (S91)) (l0_5 : List (S50)) (a0_6 : Int) : Option (Int) := wharfageref10_Load.l0 k 0 0 a0_0 a0_1 l0_2 l0_3 l0_4 l0_5 a0_6
theorem wharfageref10_Load.mono_l : ∀ k, (∀ y0 y1 y2 y3 y4 y5 y6 y7 y8, LeO (wharfageref10_Load.l0 k y0 y1 y2 y3 y4 y5 y6 y7 y8) (wharfageref10_Load.l0 (k + 1) y0 y1 y2 y3 y4 y5 y6 y7 y8))
 | 0 => fun _ _ _ _ _ _ _ _ _ r h => by simp [wharfageref10_Load.l0] at h
 | k + 1 => by
  have ih0 := wharfageref10_Load.mono_l k
  ·intro y0 y1 y2 y3 y4 y5 y6 y7 y8
   unfold wharfageref10_Load.l0
   repeat' first
   | (with_reducible exact ih0 _ _ _ _ _ _ _ _ _)
   | (with_reducible exact LeO.refl _)
   | (with_reducible exact LeO.none _)
   | (with_reducible refine LeO.ite ?_ ?_)
   | (with_reducible refine LeO.bind ?_ (fun _ => ?_))
   | exact ih0 _ _ _ _ _ _ _ _ _
   | exact LeO.none _
   | refine LeO.ite ?_ ?_
   | refine LeO.bind ?_ (fun _ => ?_)
theorem wharfageref10_Load.mono : ∀ a0 a1 a2 a3 a4 a5 a6 k, LeO (wharfageref10_Load.f k a0 a1 a2 a3 a4 a5 a6) (wharfageref10_Load.f (k + 1) a0 a1 a2 a3 a4 a5 a6) := by
 intro a0 a1 a2 a3 a4 a5 a6 k
 have ih0 := wharfageref10_Load.mono_l k
 unfold wharfageref10_Load.f
 repeat' first
   | (with_reducible exact ih0 _ _ _ _ _ _ _ _ _)
   | (with_reducible exact LeO.refl _)
   | (with_reducible exact LeO.none _)
   | (with_reducible refine LeO.ite ?_ ?_)
   | (with_reducible refine LeO.bind ?_ (fun _ => ?_))
   | exact ih0 _ _ _ _ _ _ _ _ _
   | exact LeO.none _
   | refine LeO.ite ?_ ?_
   | refine LeO.bind ?_ (fun _ => ?_)
set_option maxHeartbeats 8000000 in
set_option maxRecDepth 100000 in
theorem wharfageref10_Load.calls (k : Nat) (a0_0 : Int) (a0_1 : Int) (A0_2 : Option Addr) (c0_2 : Nat) (l0_2 : List (S53)) (A0_3 : Option Addr) (c0_3 : Nat) (l0_3 : List (S86)) (A0_4 : Option Addr) (c0_4 : Nat) (l0_4 : List (S91)) (A0_5 : Option Addr) (c0_5 : Nat) (l0_5 : List (S50)) (a0_6 : Int) (r : Int) (w : World) (hr0_2 : Kd.C k53 w A0_2 l0_2.length l0_2) (hc0_2 : l0_2.length ≤ c0_2) (hr0_3 : Kd.C k86 w A0_3 l0_3.length l0_3) (hc0_3 : l0_3.length ≤ c0_3) (hr0_4 : Kd.C k91 w A0_4 l0_4.length l0_4) (hc0_4 : l0_4.length ≤ c0_4) (hr0_5 : Kd.C k50 w A0_5 l0_5.length l0_5) (hc0_5 : l0_5.length ≤ c0_5) (h : wharfageref10_Load.f k a0_0 a0_1 l0_2 l0_3 l0_4 l0_5 a0_6 = some r) :
  Calls Try.prog 23 #[.agg #[.int .i64 a0_0, .int .i64 a0_1, .slice A0_2 l0_2.length c0_2, .slice A0_3 l0_3.length c0_3, .slice A0_4 l0_4.length c0_4, .slice A0_5 l0_5.length c0_5, .int .i64 a0_6]] w fun e w' => e = .returned (.int .i64 r) ∧ Below w.heap.size w w' := by
 have hu29 := Try.underlying29
 have HR0_2 := Aside0.mk hr0_2
 have HC0_2 := Aside0.mk hc0_2
 clear hr0_2 hc0_2
 have HR0_3 := Aside0.mk hr0_3
 have HC0_3 := Aside0.mk hc0_3
 clear hr0_3 hc0_3
 have HR0_4 := Aside0.mk hr0_4
 have HC0_4 := Aside0.mk hc0_4
 clear hr0_4 hc0_4
 have HR0_5 := Aside0.mk hr0_5
 have HC0_5 := Aside0.mk hc0_5
 clear hr0_5 hc0_5
 have HB := Aside0.mk (Below.refl w.heap.size w)
 have H : (wharfageref10_Load.l0 k 0 0 a0_0 a0_1 l0_2 l0_3 l0_4 l0_5 a0_6) = some r := h
 clear h
 have H' := Aside0.mk H
 clear H
 go_enter Try.func23, Try.ntmps23
 go_wp2_with (first | ((with_reducible refine gate_dst (N := 1) rfl ?_); refine box_event ?hg (N := 1) ?hd (cs := #[.int .i64 a0_0, .int .i64 a0_1, .slice A0_2 l0_2.length c0_2, .slice A0_3 l0_3.length c0_3, .slice A0_4 l0_4.length c0_4, .slice A0_5 l0_5.length c0_5, .int .i64 a0_6]) (t := 29) ?hr ?_; (case hd => rfl); (case hg => rfl); (case hr => first | (go_simp; done) | (go_simp; rfl)); intro g0 hg w2 hbox hb; have n0_ := Aside0.mk (below_step (by repeat (first | (with_reducible first | exact HB.out | apply below_alloc | apply pw_below_drewN | apply below_drew1) | exact HB.out)) hb); have n1_ := Aside0.mk (hbox); have n2_ := Aside0.mk ((by rw [hg]; exact (below_size (by repeat (first | (with_reducible first | exact HB.out | apply below_alloc | apply pw_below_drewN | apply below_drew1) | exact HB.out))) : w.heap.size ≤ g0)); have n3_ := Aside0.mk ((by rw [hg]; exact (below_size (by repeat (first | (with_reducible first | exact HB.out | apply below_alloc | apply pw_below_drewN | apply below_drew1) | exact HB.out))) : w.heap.size ≤ g0)); clear HB; have HB := n0_; have K0 := n1_; have G0 := n2_; have E0 := n3_; clear n0_ n1_ n2_ n3_; clear hb hbox hg))
 go_loopg [3, 4] k (fun kq v3 v4 w' => ∃ (x3_1 : Int) (x4_1 : Int), v3 = .int .i64 x3_1 ∧ v4 = .int .i64 x4_1 ∧ Aside0 (wharfageref10_Load.l0 kq x3_1 x4_1 a0_0 a0_1 l0_2 l0_3 l0_4 l0_5 a0_6 = some r) ∧ Aside0 (kq ≤ k) ∧ Aside0 (w'.heap[g0]? = some (.cells #[.int .i64 a0_0, .int .i64 a0_1, (.slice A0_2 l0_2.length c0_2), (.slice A0_3 l0_3.length c0_3), (.slice A0_4 l0_4.length c0_4), (.slice A0_5 l0_5.length c0_5), .int .i64 a0_6] 29 (0, 0))) ∧ Aside0 (Below w.heap.size w w'))
 case atStart => exact ⟨(0), (0), (by first | rfl | (simp; done) | (simp [*]; done)), (by first | rfl | (simp; done) | (simp [*]; done)), H', ⟨Nat.le_refl _⟩, ⟨by (with_reducible repeat (first | refine blk_drewN ?_ _ | refine blk_drew ?_ | refine blk_alloc ?_ _)); exact K0.out⟩, ⟨by repeat (first | (with_reducible first | exact HB.out | apply below_alloc | apply pw_below_drewN | apply below_drew1 | refine below_set ?_ E0.out) | exact HB.out)⟩⟩
 case round =>
  clear H'
  try clear c2
  try clear p2
  obtain ⟨x3_1, x4_1, rfl, rfl, HA, HK1, K0, HB⟩ := hrel
  cases gk with
  | zero => exact absurd HA.out (by simp [wharfageref10_Load.l0])
  | succ k1 =>
   have H := HA.out
   clear HA
   simp only [wharfageref10_Load.l0] at H
   by_cases c3 : x4_1 < (l0_5.length : Int)
   ·rw [if_pos c3] at H
    have c3b0 : decide (x4_1 < (l0_5.length : Int)) = true := decide_eq_true c3
    clear c3
    by_cases c4 : 0 ≤ x4_1
    ·rw [if_pos c4] at H
     have c4b0 : decide (0 ≤ x4_1) = true := decide_eq_true c4
     clear c4
     obtain ⟨bq5, hbq5⟩ : ∃ b_ : Bool, b_ = ((rd_T50 l0_5 x4_1).f2) := ⟨_, rfl⟩
     replace H : (if bq5 = true then (wharfageref10_Load.l0 k1 x3_1 (wrap64 (x4_1 + 1)) a0_0 a0_1 l0_2 l0_3 l0_4 l0_5 a0_6) else (wharfageref10_Load.l0 k1 (wrap64 (x3_1 + 1)) (wrap64 (x4_1 + 1)) a0_0 a0_1 l0_2 l0_3 l0_4 l0_5 a0_6)) = some r := by rw [← hbq5] at H; exact H
     have Nbq5 := Aside0.mk hbq5
     clear hbq5
     by_cases c6 : bq5 = true
     ·subst c6
      have H1 : (wharfageref10_Load.l0 k1 x3_1 (wrap64 (x4_1 + 1)) a0_0 a0_1 l0_2 l0_3 l0_4 l0_5 a0_6) = some r := by rw [if_pos rfl] at H; exact H
      clear H
      have H := H1
      clear H1
      have H' := Aside0.mk H
      clear H
      have hcz7_0 : wr.cell? ⟨g0, 0, none⟩ = some (.int .i64 a0_0) := (blk_cell K0.out 0).trans rfl
      have hcz7_1 : wr.cell? ⟨g0, 1, none⟩ = some (.int .i64 a0_1) := (blk_cell K0.out 1).trans rfl
      have hcz7_2 : wr.cell? ⟨g0, 2, none⟩ = some (.slice A0_2 l0_2.length c0_2) := (blk_cell K0.out 2).trans rfl
      have hcz7_3 : wr.cell? ⟨g0, 3, none⟩ = some (.slice A0_3 l0_3.length c0_3) := (blk_cell K0.out 3).trans rfl
      have hcz7_4 : wr.cell? ⟨g0, 4, none⟩ = some (.slice A0_4 l0_4.length c0_4) := (blk_cell K0.out 4).trans rfl
      have hcz7_5 : wr.cell? ⟨g0, 5, none⟩ = some (.slice A0_5 l0_5.length c0_5) := (blk_cell K0.out 5).trans rfl
      have hcz7_6 : wr.cell? ⟨g0, 6, none⟩ = some (.int .i64 a0_6) := (blk_cell K0.out 6).trans rfl
      have hfz7_0 := blk_frozen K0.out 0
      have hfz7_1 := blk_frozen K0.out 1
      have hfz7_2 := blk_frozen K0.out 2
      have hfz7_3 := blk_frozen K0.out 3
      have hfz7_4 := blk_frozen K0.out 4
      have hfz7_5 := blk_frozen K0.out 5
      have hfz7_6 := blk_frozen K0.out 6
      have p198 : 0 ≤ (x4_1 : Int) := of_decide_eq_true (by first | (with_reducible assumption) | assumption)
      have q198 : x4_1 < (l0_5.length : Int) := of_decide_eq_true (by first | (with_reducible assumption) | assumption)
      obtain ⟨ad198, e198, hx198_0, hx198_1, hx198_2, hx198_3, hx198_4, hx198_5, hx198_6, hx198_7, hx198_8⟩ := at_T50 HR0_5.out x4_1 p198 q198
      (try rw [← Nbq5.out] at hx198_6)
      (try rw [← Nbq5.out] at hw198_6)
      cases e198
      replace hx198_0 := (HB.out.cell (World.block_lt_of_cell? w _ hx198_0)).trans hx198_0
      replace hx198_1 := (HB.out.cell (World.block_lt_of_cell? w _ hx198_1)).trans hx198_1
      replace hx198_2 := (HB.out.cell (World.block_lt_of_cell? w _ hx198_2)).trans hx198_2
      replace hx198_3 := (HB.out.cell (World.block_lt_of_cell? w _ hx198_3)).trans hx198_3
      replace hx198_4 := (HB.out.cell (World.block_lt_of_cell? w _ hx198_4)).trans hx198_4
      replace hx198_5 := (HB.out.cell (World.block_lt_of_cell? w _ hx198_5)).trans hx198_5
      replace hx198_6 := (HB.out.cell (World.block_lt_of_cell? w _ hx198_6)).trans hx198_6
      replace hx198_7 := (HB.out.cell (World.block_lt_of_cell? w _ hx198_7)).trans hx198_7
      replace hx198_8 := (HB.out.cell (World.block_lt_of_cell? w _ hx198_8)).trans hx198_8
      replace p198 := eq_true p198
      replace q198 := eq_true q198
      go_wp2
      go_roundg k1
      case measure => have := HK1.out; omega
      case rel => exact ⟨(x3_1), (wrap64 (x4_1 + 1)), (by first | rfl | (simp; done) | (simp [*]; done)), (by first | rfl | (simp; done) | (simp [*]; done)), H', ⟨by have := HK1.out; omega⟩, ⟨by (with_reducible repeat (first | refine blk_drewN ?_ _ | refine blk_drew ?_ | refine blk_alloc ?_ _)); exact K0.out⟩, ⟨by repeat (first | (with_reducible first | exact HB.out | apply below_alloc | apply pw_below_drewN | apply below_drew1 | refine below_set ?_ E0.out) | exact HB.out)⟩⟩
     ·replace c6 := Bool.eq_false_iff.mpr c6
      subst c6
      have H1 : (wharfageref10_Load.l0 k1 (wrap64 (x3_1 + 1)) (wrap64 (x4_1 + 1)) a0_0 a0_1 l0_2 l0_3 l0_4 l0_5 a0_6) = some r := by rw [if_neg (show ¬ (false = true) by decide)] at H; exact H
      clear H
      have H := H1
      clear H1
      have H' := Aside0.mk H
      clear H
      have hcz8_0 : wr.cell? ⟨g0, 0, none⟩ = some (.int .i64 a0_0) := (blk_cell K0.out 0).trans rfl
      have hcz8_1 : wr.cell? ⟨g0, 1, none⟩ = some (.int .i64 a0_1) := (blk_cell K0.out 1).trans rfl
      have hcz8_2 : wr.cell? ⟨g0, 2, none⟩ = some (.slice A0_2 l0_2.length c0_2) := (blk_cell K0.out 2).trans rfl
      have hcz8_3 : wr.cell? ⟨g0, 3, none⟩ = some (.slice A0_3 l0_3.length c0_3) := (blk_cell K0.out 3).trans rfl
      have hcz8_4 : wr.cell? ⟨g0, 4, none⟩ = some (.slice A0_4 l0_4.length c0_4) := (blk_cell K0.out 4).trans rfl
      have hcz8_5 : wr.cell? ⟨g0, 5, none⟩ = some (.slice A0_5 l0_5.length c0_5) := (blk_cell K0.out 5).trans rfl
      have hcz8_6 : wr.cell? ⟨g0, 6, none⟩ = some (.int .i64 a0_6) := (blk_cell K0.out 6).trans rfl
      have hfz8_0 := blk_frozen K0.out 0
      have hfz8_1 := blk_frozen K0.out 1
      have hfz8_2 := blk_frozen K0.out 2
      have hfz8_3 := blk_frozen K0.out 3
      have hfz8_4 := blk_frozen K0.out 4
      have hfz8_5 := blk_frozen K0.out 5
      have hfz8_6 := blk_frozen K0.out 6
      have p198 : 0 ≤ (x4_1 : Int) := of_decide_eq_true (by first | (with_reducible assumption) | assumption)
      have q198 : x4_1 < (l0_5.length : Int) := of_decide_eq_true (by first | (with_reducible assumption) | assumption)
      obtain ⟨ad198, e198, hx198_0, hx198_1, hx198_2, hx198_3, hx198_4, hx198_5, hx198_6, hx198_7, hx198_8⟩ := at_T50 HR0_5.out x4_1 p198 q198
      (try rw [← Nbq5.out] at hx198_6)
      (try rw [← Nbq5.out] at hw198_6)
      cases e198
      replace hx198_0 := (HB.out.cell (World.block_lt_of_cell? w _ hx198_0)).trans hx198_0
      replace hx198_1 := (HB.out.cell (World.block_lt_of_cell? w _ hx198_1)).trans hx198_1
      replace hx198_2 := (HB.out.cell (World.block_lt_of_cell? w _ hx198_2)).trans hx198_2
      replace hx198_3 := (HB.out.cell (World.block_lt_of_cell? w _ hx198_3)).trans hx198_3
      replace hx198_4 := (HB.out.cell (World.block_lt_of_cell? w _ hx198_4)).trans hx198_4
      replace hx198_5 := (HB.out.cell (World.block_lt_of_cell? w _ hx198_5)).trans hx198_5
      replace hx198_6 := (HB.out.cell (World.block_lt_of_cell? w _ hx198_6)).trans hx198_6
      replace hx198_7 := (HB.out.cell (World.block_lt_of_cell? w _ hx198_7)).trans hx198_7
      replace hx198_8 := (HB.out.cell (World.block_lt_of_cell? w _ hx198_8)).trans hx198_8
      replace p198 := eq_true p198
      replace q198 := eq_true q198
      go_wp2
      go_roundg k1
      case measure => have := HK1.out; omega
      case rel => exact ⟨(wrap64 (x3_1 + 1)), (wrap64 (x4_1 + 1)), (by first | rfl | (simp; done) | (simp [*]; done)), (by first | rfl | (simp; done) | (simp [*]; done)), H', ⟨by have := HK1.out; omega⟩, ⟨by (with_reducible repeat (first | refine blk_drewN ?_ _ | refine blk_drew ?_ | refine blk_alloc ?_ _)); exact K0.out⟩, ⟨by repeat (first | (with_reducible first | exact HB.out | apply below_alloc | apply pw_below_drewN | apply below_drew1 | refine below_set ?_ E0.out) | exact HB.out)⟩⟩
    ·rw [if_neg c4] at H
     exact absurd H (by simp)
   ·rw [if_neg c3] at H
    have c3b0 : decide (x4_1 < (l0_5.length : Int)) = false := decide_eq_false c3
    clear c3
    obtain rfl := Option.some.inj H
    have hcz9_0 : wr.cell? ⟨g0, 0, none⟩ = some (.int .i64 a0_0) := (blk_cell K0.out 0).trans rfl
    have hcz9_1 : wr.cell? ⟨g0, 1, none⟩ = some (.int .i64 a0_1) := (blk_cell K0.out 1).trans rfl
    have hcz9_2 : wr.cell? ⟨g0, 2, none⟩ = some (.slice A0_2 l0_2.length c0_2) := (blk_cell K0.out 2).trans rfl
    have hcz9_3 : wr.cell? ⟨g0, 3, none⟩ = some (.slice A0_3 l0_3.length c0_3) := (blk_cell K0.out 3).trans rfl
    have hcz9_4 : wr.cell? ⟨g0, 4, none⟩ = some (.slice A0_4 l0_4.length c0_4) := (blk_cell K0.out 4).trans rfl
    have hcz9_5 : wr.cell? ⟨g0, 5, none⟩ = some (.slice A0_5 l0_5.length c0_5) := (blk_cell K0.out 5).trans rfl
    have hcz9_6 : wr.cell? ⟨g0, 6, none⟩ = some (.int .i64 a0_6) := (blk_cell K0.out 6).trans rfl
    have hfz9_0 := blk_frozen K0.out 0
    have hfz9_1 := blk_frozen K0.out 1
    have hfz9_2 := blk_frozen K0.out 2
    have hfz9_3 := blk_frozen K0.out 3
    have hfz9_4 := blk_frozen K0.out 4
    have hfz9_5 := blk_frozen K0.out 5
    have hfz9_6 := blk_frozen K0.out 6
    go_wp2
    go_ret
    exact ⟨by first | rfl | (simp [errW_none, errW_some] <;> rfl) | (simp [*, errW_none, errW_some] <;> rfl), by repeat (first | (with_reducible first | exact HB.out | apply below_alloc | apply pw_below_drewN | apply below_drew1 | refine below_set ?_ E0.out) | exact HB.out)⟩

end Go.Proofs.Ytlapbhgkmmeeoaa.PSpares
end
section
/- Contracts: what calls of these functions of the program do, each as a plain function; written by a program of this session. -/
namespace Go.Proofs.Ytlapbhgkmmeeoaa.PSpares
open Go.RowKit Go.Proofs.YtlapbhgkmmeeoaaW.PrintWords Go.Proofs.YtlapbhgkmmeeoaaW.PrintLast Go.Proofs.YtlapbhgkmmeeoaaW.PrintMore
attribute [local go_sem] max2_int min2_int max_two min_two max_three min_three max_four min_four   -- for this text's walks alone
set_option linter.unusedVariables false
set_option linter.unusedSimpArgs false

/-! ### wharfageref10_Full: function 7, by hand -/
def wharfageref10_Full.f (k : Nat) (a0 a1 : Int) (l2 : List S53) (l3 : List S86) (l4 : List S91) (l5 : List S50) (a6 : Int) : Option (Bool × Int) := (wharfageref10_spareMay.f k a0 a1 l2 l3 l4 l5 a6).bind fun m => if m = true then (wharfageref10_Has.f k a1 l2 a0 (-1)).bind fun q => (if q = true then (if 0 ≤ a0 then (if a0 < (l2.length : Int) then (wharfageref10_BacksOf.f k a1 l2 a0 l3).bind fun bt => (if (rd_T53 l2 a0).f1 = true then some (true, 0) else (if bt.1.length = 0 then some (true, 0) else (wharfageref10_Load.f k a0 a1 l2 l3 l4 l5 a6).bind fun t => some (decide (t ≥ (rd_T53 l2 a0).f2), 0))) else none) else none) else some (true, 0)) else some (false, 1700)
theorem wharfageref10_Full.mono : ∀ a0 a1 l2 l3 l4 l5 a6 k, LeO (wharfageref10_Full.f k a0 a1 l2 l3 l4 l5 a6) (wharfageref10_Full.f (k + 1) a0 a1 l2 l3 l4 l5 a6) := by
 intro a0 a1 l2 l3 l4 l5 a6 k
 unfold wharfageref10_Full.f
 refine LeO.bind (wharfageref10_spareMay.mono _ _ _ _ _ _ _ _) (fun t => ?_)
 split
 ·refine LeO.bind (wharfageref10_Has.mono _ _ _ _ _) (fun t => ?_)
  split
  ·split
   ·split
    ·refine LeO.bind (wharfageref10_BacksOf.mono _ _ _ _ _) (fun t => ?_)
     split
     ·exact LeO.refl _
     ·split
      ·exact LeO.refl _
      ·exact LeO.bind (wharfageref10_Load.mono _ _ _ _ _ _ _ _) (fun _ => LeO.refl _)
    ·exact LeO.refl _
   ·exact LeO.refl _
  ·exact LeO.refl _
 ·exact LeO.refl _
theorem wharfageref10_Full.hide {P : Program} {c : Code} {Q : Exit → Act → World → Prop} {a : Act} {w : World} (R : World → Prop) (h : R w) (k : ∀ w', R w' → c.wp P Q a w') : c.wp P Q a w := k w h
set_option maxHeartbeats 8000000 in
set_option maxRecDepth 100000 in
theorem wharfageref10_Full.calls (k : Nat) (a0 a1 : Int) (A2 : Option Addr) (c2 : Nat) (l2 : List S53) (A3 : Option Addr) (c3 : Nat) (l3 : List S86) (A4 : Option Addr) (c4 : Nat) (l4 : List S91) (A5 : Option Addr) (c5 : Nat) (l5 : List S50) (a6 : Int) (r1 : Bool) (r2 : Int) (w : World) (hr2 : Kd.C k53 w A2 l2.length l2) (hc2 : l2.length ≤ c2) (hr3 : Kd.C k86 w A3 l3.length l3) (hc3 : l3.length ≤ c3) (hr4 : Kd.C k91 w A4 l4.length l4) (hc4 : l4.length ≤ c4) (hr5 : Kd.C k50 w A5 l5.length l5) (hc5 : l5.length ≤ c5) (h : wharfageref10_Full.f k a0 a1 l2 l3 l4 l5 a6 = some (r1, r2)) :
  Calls Try.prog 7 #[.agg #[.int .i64 a0, .int .i64 a1, .slice A2 l2.length c2, .slice A3 l3.length c3, .slice A4 l4.length c4, .slice A5 l5.length c5, .int .i64 a6]] w fun e w' => e = .returned (.tuple #[.bool r1, .int .i64 r2]) ∧ Below w.heap.size w w' := by
 have hb : Below w.heap.size w (w.alloc (Obj.cells #[.int .i64 a0, .int .i64 a1, .slice A2 l2.length c2, .slice A3 l3.length c3, .slice A4 l4.length c4, .slice A5 l5.length c5, .int .i64 a6] 29)) := below_alloc (Below.refl _ _) _
 have HN := Aside0.mk (show NodeAt (w.alloc (Obj.cells #[.int .i64 a0, .int .i64 a1, .slice A2 l2.length c2, .slice A3 l3.length c3, .slice A4 l4.length c4, .slice A5 l5.length c5, .int .i64 a6] 29)) w.heap.size a0 a1 A2 c2 l2 A3 c3 l3 A4 c4 l4 A5 c5 l5 a6 from ⟨blk_new _ _, Kd.C_below hr2 hb, hc2, Kd.C_below hr3 hb, hc3, Kd.C_below hr4 hb, hc4, Kd.C_below hr5 hb, hc5⟩)
 have x0 : (w.alloc (Obj.cells #[.int .i64 a0, .int .i64 a1, .slice A2 l2.length c2, .slice A3 l3.length c3, .slice A4 l4.length c4, .slice A5 l5.length c5, .int .i64 a6] 29)).cell? ⟨w.heap.size, 0, none⟩ = some (.int .i64 a0) := by simp
 have x1 : (w.alloc (Obj.cells #[.int .i64 a0, .int .i64 a1, .slice A2 l2.length c2, .slice A3 l3.length c3, .slice A4 l4.length c4, .slice A5 l5.length c5, .int .i64 a6] 29)).cell? ⟨w.heap.size, 1, none⟩ = some (.int .i64 a1) := by simp
 have x2 : (w.alloc (Obj.cells #[.int .i64 a0, .int .i64 a1, .slice A2 l2.length c2, .slice A3 l3.length c3, .slice A4 l4.length c4, .slice A5 l5.length c5, .int .i64 a6] 29)).cell? ⟨w.heap.size, 2, none⟩ = some (.slice A2 l2.length c2) := by simp
 have x3 : (w.alloc (Obj.cells #[.int .i64 a0, .int .i64 a1, .slice A2 l2.length c2, .slice A3 l3.length c3, .slice A4 l4.length c4, .slice A5 l5.length c5, .int .i64 a6] 29)).cell? ⟨w.heap.size, 3, none⟩ = some (.slice A3 l3.length c3) := by simp
 have x4 : (w.alloc (Obj.cells #[.int .i64 a0, .int .i64 a1, .slice A2 l2.length c2, .slice A3 l3.length c3, .slice A4 l4.length c4, .slice A5 l5.length c5, .int .i64 a6] 29)).cell? ⟨w.heap.size, 4, none⟩ = some (.slice A4 l4.length c4) := by simp
 have x5 : (w.alloc (Obj.cells #[.int .i64 a0, .int .i64 a1, .slice A2 l2.length c2, .slice A3 l3.length c3, .slice A4 l4.length c4, .slice A5 l5.length c5, .int .i64 a6] 29)).cell? ⟨w.heap.size, 5, none⟩ = some (.slice A5 l5.length c5) := by simp
 have x6 : (w.alloc (Obj.cells #[.int .i64 a0, .int .i64 a1, .slice A2 l2.length c2, .slice A3 l3.length c3, .slice A4 l4.length c4, .slice A5 l5.length c5, .int .i64 a6] 29)).cell? ⟨w.heap.size, 6, none⟩ = some (.int .i64 a6) := by simp
 have HB := Aside0.mk hb
 have hu := Try.underlying53
 have hu2 := Try.underlying29
 clear hb hr2 hc2 hr3 hc3 hr4 hc4 hr5 hc5
 obtain ⟨m, hm, h⟩ := Option.bind_eq_some_iff.mp h
 replace hm := Aside0.mk hm
 cases m
 ·obtain ⟨rfl, rfl⟩ : false = r1 ∧ 1700 = r2 := by simpa using h
  clear h
  go_enter Try.func7, Try.ntmps7
  go_wp2_with (go_at_call 20; refine (wharfageref10_spareMay.calls k a0 a1 _ _ _ _ _ _ _ _ _ _ _ _ a6 false _ HN.out.r2 HN.out.q2 HN.out.r3 HN.out.q3 HN.out.r4 HN.out.q4 HN.out.r5 HN.out.q5 hm.out).mono ?_; rintro e w1 ⟨rfl, hb⟩; replace x0 := pw_cell_below hb x0; replace x1 := pw_cell_below hb x1; replace x2 := pw_cell_below hb x2; replace x3 := pw_cell_below hb x3; replace x4 := pw_cell_below hb x4; replace x5 := pw_cell_below hb x5; replace x6 := pw_cell_below hb x6; replace HN := Aside0.mk (HN.out.below hb); replace HB := Aside0.mk (below_step HB.out hb); clear hb)
  go_ret2
  exact ⟨rfl, HB.out⟩
 rw [if_pos rfl] at h
 obtain ⟨q, hq, h⟩ := Option.bind_eq_some_iff.mp h
 replace hq := Aside0.mk hq
 cases q
 ·obtain ⟨rfl, rfl⟩ : true = r1 ∧ 0 = r2 := by simpa using h
  clear h
  go_enter Try.func7, Try.ntmps7
  go_wp2_with (first | (go_at_call 20; refine (wharfageref10_spareMay.calls k a0 a1 _ _ _ _ _ _ _ _ _ _ _ _ a6 true _ HN.out.r2 HN.out.q2 HN.out.r3 HN.out.q3 HN.out.r4 HN.out.q4 HN.out.r5 HN.out.q5 hm.out).mono ?_; rintro e w1 ⟨rfl, hb⟩; replace x0 := pw_cell_below hb x0; replace x1 := pw_cell_below hb x1; replace x2 := pw_cell_below hb x2; replace x3 := pw_cell_below hb x3; replace x4 := pw_cell_below hb x4; replace x5 := pw_cell_below hb x5; replace x6 := pw_cell_below hb x6; replace HN := Aside0.mk (HN.out.below hb); replace HB := Aside0.mk (below_step HB.out hb); clear hb) | (go_at_call 21; refine (wharfageref10_Has.calls k a1 _ _ _ a0 (-1) false _ HN.out.r2 HN.out.q2 hq.out).mono ?_; rintro e w2 ⟨rfl, hb⟩; replace x0 := pw_cell_below hb x0; replace x1 := pw_cell_below hb x1; replace x2 := pw_cell_below hb x2; replace x3 := pw_cell_below hb x3; replace x4 := pw_cell_below hb x4; replace x5 := pw_cell_below hb x5; replace x6 := pw_cell_below hb x6; replace HN := Aside0.mk (HN.out.below hb); replace HB := Aside0.mk (below_step HB.out hb); clear hb))
  go_ret2
  exact ⟨rfl, HB.out⟩
 rw [if_pos rfl] at h
 have hin : 0 ≤ a0 ∧ a0 < (l2.length : Int) := by
  by_cases h0 : 0 ≤ a0
  ·by_cases h1 : a0 < (l2.length : Int)
   ·exact ⟨h0, h1⟩
   ·rw [if_pos h0, if_neg h1] at h; cases h
  ·rw [if_neg h0] at h; cases h
 obtain ⟨i, rfl⟩ := Int.eq_ofNat_of_zero_le hin.1
 have hlt : i < l2.length := by omega
 rw [if_pos hin.1, if_pos hin.2] at h
 obtain ⟨⟨bl, be⟩, hbk, h⟩ := Option.bind_eq_some_iff.mp h
 have HK := Aside0.mk (Below.refl (w.alloc (Obj.cells #[.int .i64 (i : Int), .int .i64 a1, .slice A2 l2.length c2, .slice A3 l3.length c3, .slice A4 l4.length c4, .slice A5 l5.length c5, .int .i64 a6] 29)).heap.size (w.alloc (Obj.cells #[.int .i64 (i : Int), .int .i64 a1, .slice A2 l2.length c2, .slice A3 l3.length c3, .slice A4 l4.length c4, .slice A5 l5.length c5, .int .i64 a6] 29)))
 obtain ⟨ad, A9, c9, ea, hx0, hx1, hx2, hx3, _, _⟩ := at_T53 HN.out.r2 (i : Int) hin.1 hin.2
 cases ea
 obtain ⟨x, hx⟩ : ∃ x, rd_T53 l2 (i : Int) = x := ⟨_, rfl⟩
 rw [hx] at h hx0 hx1 hx2 hx3
 rw [Int.toNat_natCast] at hx0 hx1 hx2 hx3
 have HX0 := Aside0.mk hx0
 have HX1 := Aside0.mk hx1
 have HX2 := Aside0.mk hx2
 have HX3 := Aside0.mk hx3
 have h' := Aside0.mk h
 replace hbk := Aside0.mk hbk
 have p1 : (0 : Int) ≤ (i : Int) := hin.1
 have p1b := decide_eq_true p1
 have cc3 : (i : Int) < (l2.length : Int) := hin.2
 have cc3b := decide_eq_true cc3
 have p1' := eq_true p1
 have cc3' := eq_true cc3
 clear hin h hx hx0 hx1 hx2 hx3
 go_enter Try.func7, Try.ntmps7
 go_upto_region 5 with (first | (go_at_call 20; refine (wharfageref10_spareMay.calls k (i : Int) a1 _ _ _ _ _ _ _ _ _ _ _ _ a6 true _ HN.out.r2 HN.out.q2 HN.out.r3 HN.out.q3 HN.out.r4 HN.out.q4 HN.out.r5 HN.out.q5 hm.out).mono ?_; rintro e w1 ⟨rfl, hb⟩; replace x0 := pw_cell_below hb x0; replace x1 := pw_cell_below hb x1; replace x2 := pw_cell_below hb x2; replace x3 := pw_cell_below hb x3; replace x4 := pw_cell_below hb x4; replace x5 := pw_cell_below hb x5; replace x6 := pw_cell_below hb x6; replace HN := Aside0.mk (HN.out.below hb); replace HB := Aside0.mk (below_step HB.out hb); replace HK := Aside0.mk (below_step HK.out hb); clear hb) | (go_at_call 21; refine (wharfageref10_Has.calls k a1 _ _ _ (i : Int) (-1) true _ HN.out.r2 HN.out.q2 hq.out).mono ?_; rintro e w2 ⟨rfl, hb⟩; replace x0 := pw_cell_below hb x0; replace x1 := pw_cell_below hb x1; replace x2 := pw_cell_below hb x2; replace x3 := pw_cell_below hb x3; replace x4 := pw_cell_below hb x4; replace x5 := pw_cell_below hb x5; replace x6 := pw_cell_below hb x6; replace HN := Aside0.mk (HN.out.below hb); replace HB := Aside0.mk (below_step HB.out hb); replace HK := Aside0.mk (below_step HK.out hb); clear hb))
 have hx0 := pw_cell_below HK.out HX0.out
 have hx1 := pw_cell_below HK.out HX1.out
 have hx2 := pw_cell_below HK.out HX2.out
 have hx3 := pw_cell_below HK.out HX3.out
 clear HX0 HX1 HX2 HX3
 go_upto_region 6 with ((with_reducible refine gate_dst (N := 4) rfl ?_); refine box_event ?hg (N := 4) ?hd (cs := #[.int .i64 0, .bool false, .int .i64 0, .slice none 0 0]) (t := 53) ?hr ?_; (case hd => rfl); (case hg => rfl); (case hr => first | (go_simp; done) | (go_simp; rfl)); intro gs hg w3 hbox hb; have HW := Aside0.mk hb; have G := Aside0.mk (Nat.le_of_eq hg.symm : w2.heap.size ≤ gs); have Zb := Aside0.mk hbox; clear hb hbox hg; have z0 : w3.cell? ⟨gs, 0, none⟩ = some (.int .i64 0) := (blk_cell Zb.out 0).trans rfl; have y0 := blk_frozen Zb.out 0; have z1 : w3.cell? ⟨gs, 1, none⟩ = some (.bool false) := (blk_cell Zb.out 1).trans rfl; have y1 := blk_frozen Zb.out 1; have z2 : w3.cell? ⟨gs, 2, none⟩ = some (.int .i64 0) := (blk_cell Zb.out 2).trans rfl; have y2 := blk_frozen Zb.out 2; have z3 : w3.cell? ⟨gs, 3, none⟩ = some (.slice none 0 0) := (blk_cell Zb.out 3).trans rfl; have y3 := blk_frozen Zb.out 3; skip)
 refine wharfageref10_Full.hide (fun W => Below w2.heap.size w2 W ∧ W.heap[gs]? = some (.cells #[.int .i64 x.f0, .bool x.f1, .int .i64 x.f2, .slice A9 x.f3.length c9] 53 (0, 0))) ⟨by with_reducible repeat (first | exact HW.out | refine below_set ?_ G.out), by refine blk_put (cs := #[.int .i64 x.f0, .bool x.f1, .int .i64 x.f2, .slice none 0 0]) ?_ 3 _ rfl; refine blk_put (cs := #[.int .i64 x.f0, .bool x.f1, .int .i64 0, .slice none 0 0]) ?_ 2 _ rfl; refine blk_put (cs := #[.int .i64 x.f0, .bool false, .int .i64 0, .slice none 0 0]) ?_ 1 _ rfl; refine blk_put (cs := #[.int .i64 0, .bool false, .int .i64 0, .slice none 0 0]) ?_ 0 _ rfl; exact Zb.out⟩ ?_
 intro w4 ⟨hb, hz⟩
 have b1 : w4.cell? ⟨gs, 1, none⟩ = some (.bool x.f1) := (blk_cell hz 1).trans rfl
 have b2 : w4.cell? ⟨gs, 2, none⟩ = some (.int .i64 x.f2) := (blk_cell hz 2).trans rfl
 replace x0 := pw_cell_below hb x0; replace x1 := pw_cell_below hb x1; replace x2 := pw_cell_below hb x2; replace x3 := pw_cell_below hb x3; replace x4 := pw_cell_below hb x4; replace x5 := pw_cell_below hb x5; replace x6 := pw_cell_below hb x6; replace HN := Aside0.mk (HN.out.below hb); replace HB := Aside0.mk (below_step HB.out hb); clear hb
 clear hz HW G Zb z0 y0 z1 y1 z2 y2 z3 y3 hx0 hx1 hx2 hx3
 have h := h'.out
 clear h'
 go_upto_region 7 with (go_at_call 22; refine (wharfageref10_BacksOf.calls k a1 _ _ l2 (i : Int) _ _ l3 bl be _ HN.out.r2 HN.out.q2 HN.out.r3 HN.out.q3 hbk.out).mono ?_; rintro e w5 ⟨v5, rfl, ho, hb⟩; obtain ⟨A5_, n5_, rfl⟩ := Kd.R_slice ho; replace b1 := pw_cell_below hb b1; replace b2 := pw_cell_below hb b2; clear ho; replace x0 := pw_cell_below hb x0; replace x1 := pw_cell_below hb x1; replace x2 := pw_cell_below hb x2; replace x3 := pw_cell_below hb x3; replace x4 := pw_cell_below hb x4; replace x5 := pw_cell_below hb x5; replace x6 := pw_cell_below hb x6; replace HN := Aside0.mk (HN.out.below hb); replace HB := Aside0.mk (below_step HB.out hb); clear hb)
 obtain ⟨d, hd⟩ : ∃ d, x.f1 = d := ⟨_, rfl⟩
 rw [hd] at b1 h
 replace hd := Aside0.mk hd
 cases d
 ·rw [if_neg (by decide)] at h
  by_cases hn : bl.length = 0
  ·rw [if_pos hn] at h
   obtain ⟨rfl, rfl⟩ : true = r1 ∧ 0 = r2 := by simpa using h
   have e1 : ((bl.length : Int) == 0) = true := by rw [hn]; rfl
   have e2 : (bl.length == 0) = true := by rw [hn]; rfl
   have e3 : decide ((bl.length : Int) = 0) = true := by rw [hn]; rfl
   replace hn := Aside0.mk hn
   clear h
   go_quiet (fail)
   go_wp2_with fail
   go_ret2
   exact ⟨rfl, by first | exact HB.out | exact pw_below_drewN HB.out _⟩
  ·rw [if_neg hn] at h
   obtain ⟨tl, htl, h⟩ := Option.bind_eq_some_iff.mp h
   replace htl := Aside0.mk htl
   obtain ⟨hr, rfl⟩ : decide (tl ≥ x.f2) = r1 ∧ 0 = r2 := by simpa using h
   have e1 : ((bl.length : Int) == 0) = false := beq_eq_false_iff_ne.2 (by omega)
   have e2 : (bl.length == 0) = false := by simpa using hn
   have e3 : decide ((bl.length : Int) = 0) = false := decide_eq_false (by omega)
   have HR := Aside0.mk hr
   have b1b := Aside0.mk b1
   have b2b := Aside0.mk b2
   replace hn := Aside0.mk hn
   clear h hr
   go_region_held3 (fun w' => w'.cell? ⟨gs, 1, none⟩ = some (.bool false) ∧ w'.cell? ⟨gs, 2, none⟩ = some (.int .i64 x.f2) ∧ w'.cell? ⟨w.heap.size, 0, none⟩ = some (.int .i64 (i : Int)) ∧ w'.cell? ⟨w.heap.size, 1, none⟩ = some (.int .i64 a1) ∧ w'.cell? ⟨w.heap.size, 2, none⟩ = some (.slice (some ad) l2.length c2) ∧ w'.cell? ⟨w.heap.size, 3, none⟩ = some (.slice A3 l3.length c3) ∧ w'.cell? ⟨w.heap.size, 4, none⟩ = some (.slice A4 l4.length c4) ∧ w'.cell? ⟨w.heap.size, 5, none⟩ = some (.slice A5 l5.length c5) ∧ w'.cell? ⟨w.heap.size, 6, none⟩ = some (.int .i64 a6)) (first | exact ⟨b1, b2, x0, x1, x2, x3, x4, x5, x6⟩ | go_keep) ((go_at_call 23; refine (wharfageref10_Load.calls k (i : Int) a1 _ _ _ _ _ _ _ _ _ _ _ _ a6 tl _ (by first | exact HN.out.r2 | exact (HN.out.below (below_drew1 (Below.refl _ _))).r2) HN.out.q2 (by first | exact HN.out.r3 | exact (HN.out.below (below_drew1 (Below.refl _ _))).r3) HN.out.q3 (by first | exact HN.out.r4 | exact (HN.out.below (below_drew1 (Below.refl _ _))).r4) HN.out.q4 (by first | exact HN.out.r5 | exact (HN.out.below (below_drew1 (Below.refl _ _))).r5) HN.out.q5 htl.out).mono ?_; rintro e w6 ⟨rfl, hb⟩; have hb2 : Below w5.heap.size w5 w6 := below_step (by first | exact Below.refl _ _ | exact below_drew1 (Below.refl _ _)) hb; have BW := Aside0.mk hb2; clear x0 x1 x2 x3 x4 x5 x6; have x0 : w6.cell? ⟨w.heap.size, 0, none⟩ = some (.int .i64 (i : Int)) := (blk_cell (HN.out.below hb2).blk 0).trans rfl; have x1 : w6.cell? ⟨w.heap.size, 1, none⟩ = some (.int .i64 a1) := (blk_cell (HN.out.below hb2).blk 1).trans rfl; have x2 : w6.cell? ⟨w.heap.size, 2, none⟩ = some (.slice (some ad) l2.length c2) := (blk_cell (HN.out.below hb2).blk 2).trans rfl; have x3 : w6.cell? ⟨w.heap.size, 3, none⟩ = some (.slice A3 l3.length c3) := (blk_cell (HN.out.below hb2).blk 3).trans rfl; have x4 : w6.cell? ⟨w.heap.size, 4, none⟩ = some (.slice A4 l4.length c4) := (blk_cell (HN.out.below hb2).blk 4).trans rfl; have x5 : w6.cell? ⟨w.heap.size, 5, none⟩ = some (.slice A5 l5.length c5) := (blk_cell (HN.out.below hb2).blk 5).trans rfl; have x6 : w6.cell? ⟨w.heap.size, 6, none⟩ = some (.int .i64 a6) := (blk_cell (HN.out.below hb2).blk 6).trans rfl; replace b1 := pw_cell_below hb2 b1b.out; replace b2 := pw_cell_below hb2 b2b.out; clear hb hb2))
   go_wp2_with fail
   go_ret2
   exact ⟨by rw [← HR.out]; first | rfl | (simp; done), by first | exact below_step HB.out BW.out | exact pw_below_drewN (below_step HB.out BW.out) _⟩
 ·rw [if_pos rfl] at h
  obtain ⟨rfl, rfl⟩ : true = r1 ∧ 0 = r2 := by simpa using h
  clear h
  go_quiet (fail)
  go_wp2_with fail
  go_ret2
  exact ⟨rfl, by first | exact HB.out | exact pw_below_drewN HB.out _⟩


end Go.Proofs.Ytlapbhgkmmeeoaa.PSpares
end
section
/- Contracts: what calls of these functions of the program do, each as a plain function; written by a program of this session. -/
namespace Go.Proofs.Ytlapbhgkmmeeoaa.PSpares
open Go.RowKit Go.Proofs.YtlapbhgkmmeeoaaW.PrintWords Go.Proofs.YtlapbhgkmmeeoaaW.PrintLast Go.Proofs.YtlapbhgkmmeeoaaW.PrintMore
attribute [local go_sem] max2_int min2_int max_two min_two max_three min_three max_four min_four   -- for this text's walks alone
set_option linter.unusedVariables false
set_option linter.unusedSimpArgs false

/-! ### view_Spare: function 25 -/
def view_Spare.j0 : Nat → List (S91) → Int → Int → Bool → Option (Int × Bool × Int)
 | 0, _, _, _, _ => none
 | k + 1, x0, x1, x2, x23 => if x23 = true then (some (0, false, 1200)) else (if 0 ≤ x1 then (if x1 < (x0.length : Int) then (if ((rd_T91 x0 x1).f1) = (-1) then (some (0, false, 0)) else (if (wrap64 (x2 - ((rd_T91 x0 x1).f1))) < 0 then (some (0, false, 0)) else (if (wrap64 (x2 - ((rd_T91 x0 x1).f1))) ≥ 10 then (some (0, false, 0)) else (some (mx (wrap64 (((rd_T91 x0 x1).f0.f3) - ((rd_T91 x0 x1).f0.f2))) 0, true, 0))))) else (none)) else (none))
def view_Spare.f (k : Nat) (l0 : List (S91)) (a1 : Int) (a2 : Int) : Option (Int × Bool × Int) := (view_May.f k l0).bind fun t199 => (if t199 = true then ((conf_Time.f a2).bind fun t200 => (if t200 = true then ((report_Site.f a1).bind fun t201 => (view_Spare.j0 k l0 a1 a2 (!t201))) else (view_Spare.j0 k l0 a1 a2 true))) else (view_Spare.j0 k l0 a1 a2 true))
theorem view_Spare.mono_l : ∀ k, (∀ y0 y1 y2 y3, LeO (view_Spare.j0 k y0 y1 y2 y3) (view_Spare.j0 (k + 1) y0 y1 y2 y3))
 | 0 => fun _ _ _ _ r h => by simp [view_Spare.j0] at h
 | k + 1 => by
  have ih0 := view_Spare.mono_l k
  ·intro y0 y1 y2 y3
   unfold view_Spare.j0
   repeat' first
   | (with_reducible exact ih0 _ _ _ _)
   | (with_reducible exact view_May.mono _ _)
   | (with_reducible exact LeO.refl _)
   | (with_reducible exact LeO.none _)
   | (with_reducible refine LeO.ite ?_ ?_)
   | (with_reducible refine LeO.bind ?_ (fun _ => ?_))
   | exact ih0 _ _ _ _
   | exact view_May.mono _ _
   | exact LeO.none _
   | refine LeO.ite ?_ ?_
   | refine LeO.bind ?_ (fun _ => ?_)
theorem view_Spare.mono : ∀ a0 a1 a2 k, LeO (view_Spare.f k a0 a1 a2) (view_Spare.f (k + 1) a0 a1 a2) := by
 intro a0 a1 a2 k
 have ih0 := view_Spare.mono_l k
 unfold view_Spare.f
 repeat' first
   | (with_reducible exact ih0 _ _ _ _)
   | (with_reducible exact view_May.mono _ _)
   | (with_reducible exact LeO.refl _)
   | (with_reducible exact LeO.none _)
   | (with_reducible refine LeO.ite ?_ ?_)
   | (with_reducible refine LeO.bind ?_ (fun _ => ?_))
   | exact ih0 _ _ _ _
   | exact view_May.mono _ _
   | exact LeO.none _
   | refine LeO.ite ?_ ?_
   | refine LeO.bind ?_ (fun _ => ?_)
set_option maxHeartbeats 8000000 in
set_option maxRecDepth 100000 in
theorem view_Spare.calls (k : Nat) (A0 : Option Addr) (c0 : Nat) (l0 : List (S91)) (a1 : Int) (a2 : Int) (r1 : Int) (r2 : Bool) (r3 : Int) (w : World) (hr0 : Kd.C k91 w A0 l0.length l0) (hc0 : l0.length ≤ c0) (h : view_Spare.f k l0 a1 a2 = some (r1, r2, r3)) :
  Calls Try.prog 25 #[.slice A0 l0.length c0, .int .i64 a1, .int .i64 a2] w fun e w' => e = .returned (.tuple #[.int .i64 r1, .bool r2, .int .i64 r3]) ∧ Below w.heap.size w w' := by
 have hu91 := Try.underlying91
 have HR0 := Aside0.mk hr0
 have HC0 := Aside0.mk hc0
 clear hr0 hc0
 have HB := Aside0.mk (Below.refl w.heap.size w)
 have H : ((view_May.f k l0).bind fun t199 => (if t199 = true then ((conf_Time.f a2).bind fun t200 => (if t200 = true then ((report_Site.f a1).bind fun t201 => (view_Spare.j0 k l0 a1 a2 (!t201))) else (view_Spare.j0 k l0 a1 a2 true))) else (view_Spare.j0 k l0 a1 a2 true))) = some (r1, r2, r3) := h
 clear h
 have HC4 := Aside0.mk H
 clear H
 go_enter Try.func25, Try.ntmps25
 go_upto_region 1 with (fail)
 go_cut [23] (fun v23 wc => ∃ (kq : Nat) (x23_3 : Bool), v23 = .bool x23_3 ∧ Aside0 (view_Spare.j0 kq l0 a1 a2 x23_3 = some (r1, r2, r3)) ∧ Aside0 (kq ≤ k) ∧ Aside0 (Below w.heap.size w wc))
 case first =>
  have H := HC4.out
  clear HC4
  replace H := Option.bind_eq_some_iff.mp H
  obtain ⟨t199, A50, H⟩ := H
  replace H : (if t199 = true then ((conf_Time.f a2).bind fun t200 => (if t200 = true then ((report_Site.f a1).bind fun t201 => (view_Spare.j0 k l0 a1 a2 (!t201))) else (view_Spare.j0 k l0 a1 a2 true))) else (view_Spare.j0 k l0 a1 a2 true)) = some (r1, r2, r3) := H
  have A5 := Aside0.mk A50
  clear A50
  by_cases c6 : t199 = true
  ·subst c6
   have H1 : ((conf_Time.f a2).bind fun t200 => (if t200 = true then ((report_Site.f a1).bind fun t201 => (view_Spare.j0 k l0 a1 a2 (!t201))) else (view_Spare.j0 k l0 a1 a2 true))) = some (r1, r2, r3) := by rw [if_pos rfl] at H; exact H
   clear H
   have H := H1
   clear H1
   replace H := Option.bind_eq_some_iff.mp H
   obtain ⟨t200, A70, H⟩ := H
   replace H : (if t200 = true then ((report_Site.f a1).bind fun t201 => (view_Spare.j0 k l0 a1 a2 (!t201))) else (view_Spare.j0 k l0 a1 a2 true)) = some (r1, r2, r3) := H
   have A7 := Aside0.mk A70
   clear A70
   by_cases c8 : t200 = true
   ·subst c8
    have H1 : ((report_Site.f a1).bind fun t201 => (view_Spare.j0 k l0 a1 a2 (!t201))) = some (r1, r2, r3) := by rw [if_pos rfl] at H; exact H
    clear H
    have H := H1
    clear H1
    replace H := Option.bind_eq_some_iff.mp H
    obtain ⟨t201, A90, H⟩ := H
    replace H : (view_Spare.j0 k l0 a1 a2 (!t201)) = some (r1, r2, r3) := H
    have A9 := Aside0.mk A90
    clear A90
    have H' := Aside0.mk H
    clear H
    go_wp2_with (first | ((with_reducible refine gate_callee (f := 36) rfl ?_); refine goesL_ (some 12) rfl rfl Try.func36 (by kernel_rfl) rfl #[.slice A0 l0.length c0] rfl (by (try simp only [List.map_toArray, List.map_cons, List.map_nil]); first | done | rfl | (simp only [List.length_drop, List.length_take]; rfl)) ?_; (with_reducible refine (view_May.calls k _ _ l0 true _ ?side1 ?side2 A5.out).mono ?_); (case side1 => repeat (first | exact (Kd.C_below HR0.out HB.out) | (with_reducible refine Kd.C_alloc ?_ _) | (with_reducible refine Kd.C_drewN ?_ _) | (with_reducible refine Kd.C_drew ?_))); (case side2 => exact HC0.out); rintro e w10 ⟨rfl, hb⟩; refine ⟨_, rfl, ?_⟩; have n0_ := Aside0.mk (below_step (by repeat (first | (with_reducible first | exact HB.out | apply below_alloc | apply pw_below_drewN | apply below_drew1) | exact HB.out)) hb); clear HB; have HB := n0_; clear n0_; (try clear hb); (try clear hb2); (try clear hk); (try clear hi)) | (go_at_call 24; (with_reducible refine (conf_Time.calls a2 true _ A7.out).mono ?_); rintro e w' ⟨rfl, ⟨nd, rfl⟩⟩) | (go_at_call 34; (with_reducible refine (report_Site.calls a1 t201 _ A9.out).mono ?_); rintro e w' ⟨rfl, ⟨nd, rfl⟩⟩))
    go_meet
    case rel => exact ⟨_, (!t201), (by first | rfl | (simp; done) | (simp [*]; done)), H', ⟨by first | omega | exact Nat.le_refl _⟩, ⟨by repeat (first | (with_reducible first | exact HB.out | apply below_alloc | apply pw_below_drewN | apply below_drew1) | exact HB.out)⟩⟩
   ·replace c8 := Bool.eq_false_iff.mpr c8
    subst c8
    have H1 : (view_Spare.j0 k l0 a1 a2 true) = some (r1, r2, r3) := by rw [if_neg (show ¬ (false = true) by decide)] at H; exact H
    clear H
    have H := H1
    clear H1
    have H' := Aside0.mk H
    clear H
    go_wp2_with (first | ((with_reducible refine gate_callee (f := 36) rfl ?_); refine goesL_ (some 12) rfl rfl Try.func36 (by kernel_rfl) rfl #[.slice A0 l0.length c0] rfl (by (try simp only [List.map_toArray, List.map_cons, List.map_nil]); first | done | rfl | (simp only [List.length_drop, List.length_take]; rfl)) ?_; (with_reducible refine (view_May.calls k _ _ l0 true _ ?side1 ?side2 A5.out).mono ?_); (case side1 => repeat (first | exact (Kd.C_below HR0.out HB.out) | (with_reducible refine Kd.C_alloc ?_ _) | (with_reducible refine Kd.C_drewN ?_ _) | (with_reducible refine Kd.C_drew ?_))); (case side2 => exact HC0.out); rintro e w11 ⟨rfl, hb⟩; refine ⟨_, rfl, ?_⟩; have n0_ := Aside0.mk (below_step (by repeat (first | (with_reducible first | exact HB.out | apply below_alloc | apply pw_below_drewN | apply below_drew1) | exact HB.out)) hb); clear HB; have HB := n0_; clear n0_; (try clear hb); (try clear hb2); (try clear hk); (try clear hi)) | (go_at_call 24; (with_reducible refine (conf_Time.calls a2 false _ A7.out).mono ?_); rintro e w' ⟨rfl, ⟨nd, rfl⟩⟩))
    go_meet
    case rel => exact ⟨_, (true), (by first | rfl | (simp; done) | (simp [*]; done)), H', ⟨by first | omega | exact Nat.le_refl _⟩, ⟨by repeat (first | (with_reducible first | exact HB.out | apply below_alloc | apply pw_below_drewN | apply below_drew1) | exact HB.out)⟩⟩
  ·replace c6 := Bool.eq_false_iff.mpr c6
   subst c6
   have H1 : (view_Spare.j0 k l0 a1 a2 true) = some (r1, r2, r3) := by rw [if_neg (show ¬ (false = true) by decide)] at H; exact H
   clear H
   have H := H1
   clear H1
   have H' := Aside0.mk H
   clear H
   go_wp2_with (first | ((with_reducible refine gate_callee (f := 36) rfl ?_); refine goesL_ (some 12) rfl rfl Try.func36 (by kernel_rfl) rfl #[.slice A0 l0.length c0] rfl (by (try simp only [List.map_toArray, List.map_cons, List.map_nil]); first | done | rfl | (simp only [List.length_drop, List.length_take]; rfl)) ?_; (with_reducible refine (view_May.calls k _ _ l0 false _ ?side1 ?side2 A5.out).mono ?_); (case side1 => repeat (first | exact (Kd.C_below HR0.out HB.out) | (with_reducible refine Kd.C_alloc ?_ _) | (with_reducible refine Kd.C_drewN ?_ _) | (with_reducible refine Kd.C_drew ?_))); (case side2 => exact HC0.out); rintro e w12 ⟨rfl, hb⟩; refine ⟨_, rfl, ?_⟩; have n0_ := Aside0.mk (below_step (by repeat (first | (with_reducible first | exact HB.out | apply below_alloc | apply pw_below_drewN | apply below_drew1) | exact HB.out)) hb); clear HB; have HB := n0_; clear n0_; (try clear hb); (try clear hb2); (try clear hk); (try clear hi)))
   go_meet
   case rel => exact ⟨_, (true), (by first | rfl | (simp; done) | (simp [*]; done)), H', ⟨by first | omega | exact Nat.le_refl _⟩, ⟨by repeat (first | (with_reducible first | exact HB.out | apply below_alloc | apply pw_below_drewN | apply below_drew1) | exact HB.out)⟩⟩
 case rest =>
  clear HC4
  try clear c2
  try clear p2
  try clear c3
  try clear c6
  try clear c8
  obtain ⟨kq, x23_3, rfl, HA, HJ3, HB⟩ := hcut
  cases kq with
  | zero => exact absurd HA.out (by simp [view_Spare.j0])
  | succ kj3 =>
   have H := HA.out
   clear HA
   simp only [view_Spare.j0] at H
   by_cases c13 : x23_3 = true
   ·subst c13
    have H1 : (some (0, false, 1200)) = some (r1, r2, r3) := by rw [if_pos rfl] at H; exact H
    clear H
    have H := H1
    clear H1
    simp only [Option.some.injEq, Prod.mk.injEq] at H
    obtain ⟨rfl, rfl, rfl⟩ := H
    go_wp2
    go_ret3
    exact ⟨by first | rfl | (simp [errW_none, errW_some] <;> rfl) | (simp [*, errW_none, errW_some] <;> rfl), by repeat (first | (with_reducible first | exact HB.out | apply below_alloc | apply pw_below_drewN | apply below_drew1) | exact HB.out)⟩
   ·replace c13 := Bool.eq_false_iff.mpr c13
    subst c13
    have H1 : (if 0 ≤ a1 then (if a1 < (l0.length : Int) then (if ((rd_T91 l0 a1).f1) = (-1) then (some (0, false, 0)) else (if (wrap64 (a2 - ((rd_T91 l0 a1).f1))) < 0 then (some (0, false, 0)) else (if (wrap64 (a2 - ((rd_T91 l0 a1).f1))) ≥ 10 then (some (0, false, 0)) else (some (mx (wrap64 (((rd_T91 l0 a1).f0.f3) - ((rd_T91 l0 a1).f0.f2))) 0, true, 0))))) else (none)) else (none)) = some (r1, r2, r3) := by rw [if_neg (show ¬ (false = true) by decide)] at H; exact H
    clear H
    have H := H1
    clear H1
    by_cases c14 : 0 ≤ a1
    ·rw [if_pos c14] at H
     have c14b0 : decide (0 ≤ a1) = true := decide_eq_true c14
     clear c14
     by_cases c15 : a1 < (l0.length : Int)
     ·rw [if_pos c15] at H
      have c15b0 : decide (a1 < (l0.length : Int)) = true := decide_eq_true c15
      clear c15
      by_cases c16 : ((rd_T91 l0 a1).f1) = (-1)
      ·rw [if_pos c16] at H
       have c16b0 : (((rd_T91 l0 a1).f1) == (-1)) = true := beq_iff_eq.mpr c16
       have c16b1 : (((rd_T91 l0 a1).f1) != (-1)) = false := bne_eq_false_iff_eq.mpr c16
       clear c16
       simp only [Option.some.injEq, Prod.mk.injEq] at H
       obtain ⟨rfl, rfl, rfl⟩ := H
       have p202 : 0 ≤ (a1 : Int) := of_decide_eq_true (by first | (with_reducible assumption) | assumption)
       have q202 : a1 < (l0.length : Int) := of_decide_eq_true (by first | (with_reducible assumption) | assumption)
       obtain ⟨ad202, e202, hx202_0, hx202_1, hx202_2, hx202_3, hx202_4⟩ := at_T91 HR0.out a1 p202 q202
       cases e202
       replace hx202_0 := (HB.out.cell (World.block_lt_of_cell? w _ hx202_0)).trans hx202_0
       replace hx202_1 := (HB.out.cell (World.block_lt_of_cell? w _ hx202_1)).trans hx202_1
       replace hx202_2 := (HB.out.cell (World.block_lt_of_cell? w _ hx202_2)).trans hx202_2
       replace hx202_3 := (HB.out.cell (World.block_lt_of_cell? w _ hx202_3)).trans hx202_3
       replace hx202_4 := (HB.out.cell (World.block_lt_of_cell? w _ hx202_4)).trans hx202_4
       replace p202 := eq_true p202
       replace q202 := eq_true q202
       go_wp2_with (first | ((with_reducible refine gate_dst (N := 9) rfl ?_); refine box_event ?hg (N := 9) ?hd (cs := #[.int .i64 0, .int .i64 0, .int .i64 0, .int .i64 0, .int .i64 0]) (t := 91) ?hr ?_; (case hd => rfl); (case hg => rfl); (case hr => first | (go_simp; done) | (go_simp; rfl)); intro g0 hg w17 hbox hb; have n0_ := Aside0.mk (below_step (by repeat (first | (with_reducible first | exact HB.out | apply below_alloc | apply pw_below_drewN | apply below_drew1) | exact HB.out)) hb); have n1_ := Aside0.mk (hbox); have n2_ := Aside0.mk ((by rw [hg]; exact (below_size (by repeat (first | (with_reducible first | exact HB.out | apply below_alloc | apply pw_below_drewN | apply below_drew1) | exact HB.out))) : w.heap.size ≤ g0)); have n3_ := Aside0.mk ((by rw [hg]; exact (below_size (by repeat (first | (with_reducible first | exact HB.out | apply below_alloc | apply pw_below_drewN | apply below_drew1) | exact HB.out))) : w.heap.size ≤ g0)); clear HB; have HB := n0_; have K0 := n1_; have G0 := n2_; have E0 := n3_; clear n0_ n1_ n2_ n3_; clear hb hbox hg; have hcz18_0 : w17.cell? ⟨g0, 0, none⟩ = some (.int .i64 0) := (blk_cell K0.out 0).trans rfl; have hcz18_1 : w17.cell? ⟨g0, 1, none⟩ = some (.int .i64 0) := (blk_cell K0.out 1).trans rfl; have hcz18_2 : w17.cell? ⟨g0, 2, none⟩ = some (.int .i64 0) := (blk_cell K0.out 2).trans rfl; have hcz18_3 : w17.cell? ⟨g0, 3, none⟩ = some (.int .i64 0) := (blk_cell K0.out 3).trans rfl; have hcz18_4 : w17.cell? ⟨g0, 4, none⟩ = some (.int .i64 0) := (blk_cell K0.out 4).trans rfl; have hfz18_0 := blk_frozen K0.out 0; have hfz18_1 := blk_frozen K0.out 1; have hfz18_2 := blk_frozen K0.out 2; have hfz18_3 := blk_frozen K0.out 3; have hfz18_4 := blk_frozen K0.out 4))
       go_ret3
       exact ⟨by first | rfl | (simp [errW_none, errW_some] <;> rfl) | (simp [*, errW_none, errW_some] <;> rfl), by repeat (first | (with_reducible first | exact HB.out | apply below_alloc | apply pw_below_drewN | apply below_drew1 | refine below_set ?_ E0.out) | exact HB.out)⟩
      ·rw [if_neg c16] at H
       have c16b0 : (((rd_T91 l0 a1).f1) == (-1)) = false := beq_eq_false_iff_ne.mpr c16
       have c16b1 : (((rd_T91 l0 a1).f1) != (-1)) = true := bne_iff_ne.mpr c16
       by_cases c19 : (wrap64 (a2 - ((rd_T91 l0 a1).f1))) < 0
       ·rw [if_pos c19] at H
        have c19b0 : decide ((wrap64 (a2 - ((rd_T91 l0 a1).f1))) < 0) = true := decide_eq_true c19
        clear c19
        simp only [Option.some.injEq, Prod.mk.injEq] at H
        obtain ⟨rfl, rfl, rfl⟩ := H
        have p202 : 0 ≤ (a1 : Int) := of_decide_eq_true (by first | (with_reducible assumption) | assumption)
        have q202 : a1 < (l0.length : Int) := of_decide_eq_true (by first | (with_reducible assumption) | assumption)
        obtain ⟨ad202, e202, hx202_0, hx202_1, hx202_2, hx202_3, hx202_4⟩ := at_T91 HR0.out a1 p202 q202
        cases e202
        replace hx202_0 := (HB.out.cell (World.block_lt_of_cell? w _ hx202_0)).trans hx202_0
        replace hx202_1 := (HB.out.cell (World.block_lt_of_cell? w _ hx202_1)).trans hx202_1
        replace hx202_2 := (HB.out.cell (World.block_lt_of_cell? w _ hx202_2)).trans hx202_2
        replace hx202_3 := (HB.out.cell (World.block_lt_of_cell? w _ hx202_3)).trans hx202_3
        replace hx202_4 := (HB.out.cell (World.block_lt_of_cell? w _ hx202_4)).trans hx202_4
        replace p202 := eq_true p202
        replace q202 := eq_true q202
        go_wp2_with (first | ((with_reducible refine gate_dst (N := 9) rfl ?_); refine box_event ?hg (N := 9) ?hd (cs := #[.int .i64 0, .int .i64 0, .int .i64 0, .int .i64 0, .int .i64 0]) (t := 91) ?hr ?_; (case hd => rfl); (case hg => rfl); (case hr => first | (go_simp; done) | (go_simp; rfl)); intro g0 hg w20 hbox hb; have n0_ := Aside0.mk (below_step (by repeat (first | (with_reducible first | exact HB.out | apply below_alloc | apply pw_below_drewN | apply below_drew1) | exact HB.out)) hb); have n1_ := Aside0.mk (hbox); have n2_ := Aside0.mk ((by rw [hg]; exact (below_size (by repeat (first | (with_reducible first | exact HB.out | apply below_alloc | apply pw_below_drewN | apply below_drew1) | exact HB.out))) : w.heap.size ≤ g0)); have n3_ := Aside0.mk ((by rw [hg]; exact (below_size (by repeat (first | (with_reducible first | exact HB.out | apply below_alloc | apply pw_below_drewN | apply below_drew1) | exact HB.out))) : w.heap.size ≤ g0)); clear HB; have HB := n0_; have K0 := n1_; have G0 := n2_; have E0 := n3_; clear n0_ n1_ n2_ n3_; clear hb hbox hg; have hcz21_0 : w20.cell? ⟨g0, 0, none⟩ = some (.int .i64 0) := (blk_cell K0.out 0).trans rfl; have hcz21_1 : w20.cell? ⟨g0, 1, none⟩ = some (.int .i64 0) := (blk_cell K0.out 1).trans rfl; have hcz21_2 : w20.cell? ⟨g0, 2, none⟩ = some (.int .i64 0) := (blk_cell K0.out 2).trans rfl; have hcz21_3 : w20.cell? ⟨g0, 3, none⟩ = some (.int .i64 0) := (blk_cell K0.out 3).trans rfl; have hcz21_4 : w20.cell? ⟨g0, 4, none⟩ = some (.int .i64 0) := (blk_cell K0.out 4).trans rfl; have hfz21_0 := blk_frozen K0.out 0; have hfz21_1 := blk_frozen K0.out 1; have hfz21_2 := blk_frozen K0.out 2; have hfz21_3 := blk_frozen K0.out 3; have hfz21_4 := blk_frozen K0.out 4))
        go_ret3
        exact ⟨by first | rfl | (simp [errW_none, errW_some] <;> rfl) | (simp [*, errW_none, errW_some] <;> rfl), by repeat (first | (with_reducible first | exact HB.out | apply below_alloc | apply pw_below_drewN | apply below_drew1 | refine below_set ?_ E0.out) | exact HB.out)⟩
       ·rw [if_neg c19] at H
        have c19b0 : decide ((wrap64 (a2 - ((rd_T91 l0 a1).f1))) < 0) = false := decide_eq_false c19
        clear c19
        by_cases c22 : (wrap64 (a2 - ((rd_T91 l0 a1).f1))) ≥ 10
        ·rw [if_pos c22] at H
         have c22b0 : decide (10 ≤ (wrap64 (a2 - ((rd_T91 l0 a1).f1)))) = true := decide_eq_true c22
         clear c22
         simp only [Option.some.injEq, Prod.mk.injEq] at H
         obtain ⟨rfl, rfl, rfl⟩ := H
         have p202 : 0 ≤ (a1 : Int) := of_decide_eq_true (by first | (with_reducible assumption) | assumption)
         have q202 : a1 < (l0.length : Int) := of_decide_eq_true (by first | (with_reducible assumption) | assumption)
         obtain ⟨ad202, e202, hx202_0, hx202_1, hx202_2, hx202_3, hx202_4⟩ := at_T91 HR0.out a1 p202 q202
         cases e202
         replace hx202_0 := (HB.out.cell (World.block_lt_of_cell? w _ hx202_0)).trans hx202_0
         replace hx202_1 := (HB.out.cell (World.block_lt_of_cell? w _ hx202_1)).trans hx202_1
         replace hx202_2 := (HB.out.cell (World.block_lt_of_cell? w _ hx202_2)).trans hx202_2
         replace hx202_3 := (HB.out.cell (World.block_lt_of_cell? w _ hx202_3)).trans hx202_3
         replace hx202_4 := (HB.out.cell (World.block_lt_of_cell? w _ hx202_4)).trans hx202_4
         replace p202 := eq_true p202
         replace q202 := eq_true q202
         go_wp2_with (first | ((with_reducible refine gate_dst (N := 9) rfl ?_); refine box_event ?hg (N := 9) ?hd (cs := #[.int .i64 0, .int .i64 0, .int .i64 0, .int .i64 0, .int .i64 0]) (t := 91) ?hr ?_; (case hd => rfl); (case hg => rfl); (case hr => first | (go_simp; done) | (go_simp; rfl)); intro g0 hg w23 hbox hb; have n0_ := Aside0.mk (below_step (by repeat (first | (with_reducible first | exact HB.out | apply below_alloc | apply pw_below_drewN | apply below_drew1) | exact HB.out)) hb); have n1_ := Aside0.mk (hbox); have n2_ := Aside0.mk ((by rw [hg]; exact (below_size (by repeat (first | (with_reducible first | exact HB.out | apply below_alloc | apply pw_below_drewN | apply below_drew1) | exact HB.out))) : w.heap.size ≤ g0)); have n3_ := Aside0.mk ((by rw [hg]; exact (below_size (by repeat (first | (with_reducible first | exact HB.out | apply below_alloc | apply pw_below_drewN | apply below_drew1) | exact HB.out))) : w.heap.size ≤ g0)); clear HB; have HB := n0_; have K0 := n1_; have G0 := n2_; have E0 := n3_; clear n0_ n1_ n2_ n3_; clear hb hbox hg; have hcz24_0 : w23.cell? ⟨g0, 0, none⟩ = some (.int .i64 0) := (blk_cell K0.out 0).trans rfl; have hcz24_1 : w23.cell? ⟨g0, 1, none⟩ = some (.int .i64 0) := (blk_cell K0.out 1).trans rfl; have hcz24_2 : w23.cell? ⟨g0, 2, none⟩ = some (.int .i64 0) := (blk_cell K0.out 2).trans rfl; have hcz24_3 : w23.cell? ⟨g0, 3, none⟩ = some (.int .i64 0) := (blk_cell K0.out 3).trans rfl; have hcz24_4 : w23.cell? ⟨g0, 4, none⟩ = some (.int .i64 0) := (blk_cell K0.out 4).trans rfl; have hfz24_0 := blk_frozen K0.out 0; have hfz24_1 := blk_frozen K0.out 1; have hfz24_2 := blk_frozen K0.out 2; have hfz24_3 := blk_frozen K0.out 3; have hfz24_4 := blk_frozen K0.out 4))
         go_ret3
         exact ⟨by first | rfl | (simp [errW_none, errW_some] <;> rfl) | (simp [*, errW_none, errW_some] <;> rfl), by repeat (first | (with_reducible first | exact HB.out | apply below_alloc | apply pw_below_drewN | apply below_drew1 | refine below_set ?_ E0.out) | exact HB.out)⟩
        ·rw [if_neg c22] at H
         have c22b0 : decide (10 ≤ (wrap64 (a2 - ((rd_T91 l0 a1).f1)))) = false := decide_eq_false c22
         clear c22
         obtain ⟨ji25, hji25⟩ : ∃ j_ : Int, (mx (wrap64 (((rd_T91 l0 a1).f0.f3) - ((rd_T91 l0 a1).f0.f2))) 0) = j_ := ⟨_, rfl⟩
         replace H : (some (ji25, true, 0)) = some (r1, r2, r3) := by first | (rw [hji25] at H; exact H) | (simp only [hji25] at H ⊢; exact H)
         have hji25_ : (if (wrap64 (((rd_T91 l0 a1).f0.f3) - ((rd_T91 l0 a1).f0.f2))) < 0 then 0 else (wrap64 (((rd_T91 l0 a1).f0.f3) - ((rd_T91 l0 a1).f0.f2)))) = ji25 := hji25
         simp only [Option.some.injEq, Prod.mk.injEq] at H
         obtain ⟨rfl, rfl, rfl⟩ := H
         have p202 : 0 ≤ (a1 : Int) := of_decide_eq_true (by first | (with_reducible assumption) | assumption)
         have q202 : a1 < (l0.length : Int) := of_decide_eq_true (by first | (with_reducible assumption) | assumption)
         obtain ⟨ad202, e202, hx202_0, hx202_1, hx202_2, hx202_3, hx202_4⟩ := at_T91 HR0.out a1 p202 q202
         cases e202
         replace hx202_0 := (HB.out.cell (World.block_lt_of_cell? w _ hx202_0)).trans hx202_0
         replace hx202_1 := (HB.out.cell (World.block_lt_of_cell? w _ hx202_1)).trans hx202_1
         replace hx202_2 := (HB.out.cell (World.block_lt_of_cell? w _ hx202_2)).trans hx202_2
         replace hx202_3 := (HB.out.cell (World.block_lt_of_cell? w _ hx202_3)).trans hx202_3
         replace hx202_4 := (HB.out.cell (World.block_lt_of_cell? w _ hx202_4)).trans hx202_4
         replace p202 := eq_true p202
         replace q202 := eq_true q202
         go_wp2_with (first | ((with_reducible refine gate_dst (N := 9) rfl ?_); refine box_event ?hg (N := 9) ?hd (cs := #[.int .i64 0, .int .i64 0, .int .i64 0, .int .i64 0, .int .i64 0]) (t := 91) ?hr ?_; (case hd => rfl); (case hg => rfl); (case hr => first | (go_simp; done) | (go_simp; rfl)); intro g0 hg w26 hbox hb; have n0_ := Aside0.mk (below_step (by repeat (first | (with_reducible first | exact HB.out | apply below_alloc | apply pw_below_drewN | apply below_drew1) | exact HB.out)) hb); have n1_ := Aside0.mk (hbox); have n2_ := Aside0.mk ((by rw [hg]; exact (below_size (by repeat (first | (with_reducible first | exact HB.out | apply below_alloc | apply pw_below_drewN | apply below_drew1) | exact HB.out))) : w.heap.size ≤ g0)); have n3_ := Aside0.mk ((by rw [hg]; exact (below_size (by repeat (first | (with_reducible first | exact HB.out | apply below_alloc | apply pw_below_drewN | apply below_drew1) | exact HB.out))) : w.heap.size ≤ g0)); clear HB; have HB := n0_; have K0 := n1_; have G0 := n2_; have E0 := n3_; clear n0_ n1_ n2_ n3_; clear hb hbox hg; have hcz27_0 : w26.cell? ⟨g0, 0, none⟩ = some (.int .i64 0) := (blk_cell K0.out 0).trans rfl; have hcz27_1 : w26.cell? ⟨g0, 1, none⟩ = some (.int .i64 0) := (blk_cell K0.out 1).trans rfl; have hcz27_2 : w26.cell? ⟨g0, 2, none⟩ = some (.int .i64 0) := (blk_cell K0.out 2).trans rfl; have hcz27_3 : w26.cell? ⟨g0, 3, none⟩ = some (.int .i64 0) := (blk_cell K0.out 3).trans rfl; have hcz27_4 : w26.cell? ⟨g0, 4, none⟩ = some (.int .i64 0) := (blk_cell K0.out 4).trans rfl; have hfz27_0 := blk_frozen K0.out 0; have hfz27_1 := blk_frozen K0.out 1; have hfz27_2 := blk_frozen K0.out 2; have hfz27_3 := blk_frozen K0.out 3; have hfz27_4 := blk_frozen K0.out 4))
         go_ret3
         exact ⟨by first | rfl | (simp [errW_none, errW_some] <;> rfl) | (simp only [← hji25]; first | rfl | (simp [errW_none, errW_some] <;> rfl)) | (simp [*, errW_none, errW_some] <;> rfl), by repeat (first | (with_reducible first | exact HB.out | apply below_alloc | apply pw_below_drewN | apply below_drew1 | refine below_set ?_ E0.out) | exact HB.out)⟩
     ·rw [if_neg c15] at H
      exact absurd H (by simp)
    ·rw [if_neg c14] at H
     exact absurd H (by simp)

end Go.Proofs.Ytlapbhgkmmeeoaa.PSpares
end
section
/- Contracts: what calls of these functions of the program do, each as a plain function; written by a program of this session. -/
namespace Go.Proofs.Ytlapbhgkmmeeoaa.PSpares
open Go.RowKit Go.Proofs.YtlapbhgkmmeeoaaW.PrintWords Go.Proofs.YtlapbhgkmmeeoaaW.PrintLast Go.Proofs.YtlapbhgkmmeeoaaW.PrintMore
attribute [local go_sem] max2_int min2_int max_two min_two max_three min_three max_four min_four   -- for this text's walks alone
set_option linter.unusedVariables false
set_option linter.unusedSimpArgs false

/-! ### spare_Targets: function 8, by hand -/
def tgOne (a0 i : Int) (x : S53) (s : Int × Bool × Int) : List S70 := if i ≠ a0 ∧ x.f1 = false ∧ 0 < x.f0 ∧ s.2.1 = true ∧ 0 < s.1 then [⟨i, mn s.1 16⟩] else []
def tgL (k : Nat) (l2 : List S53) (l4 : List S91) (a0 now : Int) : Nat → Option (List S70)
 | 0 => some []
 | i + 1 => (tgL k l2 l4 a0 now i).bind fun o => (view_Spare.f k l4 (i : Int) now).bind fun s => some (o ++ tgOne a0 (i : Int) (rd_T53 l2 (i : Int)) s)
theorem tgL_mono (k : Nat) (l2 : List S53) (l4 : List S91) (a0 now : Int) : ∀ i, LeO (tgL k l2 l4 a0 now i) (tgL (k + 1) l2 l4 a0 now i)
 | 0 => LeO.refl _
 | i + 1 => LeO.bind (tgL_mono k l2 l4 a0 now i) (fun _ => LeO.bind (view_Spare.mono _ _ _ _) (fun _ => LeO.refl _))
theorem tgL_len (k : Nat) (l2 : List S53) (l4 : List S91) (a0 now : Int) : ∀ i xs, tgL k l2 l4 a0 now i = some xs → xs.length ≤ i
 | 0, xs, h => by
  obtain rfl : [] = xs := Option.some.inj h
  exact Nat.le_refl _
 | i + 1, xs, h => by
  obtain ⟨o, h1, h⟩ := Option.bind_eq_some_iff.mp h
  obtain ⟨s, _, h⟩ := Option.bind_eq_some_iff.mp h
  obtain rfl := Option.some.inj h
  have h2 := tgL_len k l2 l4 a0 now i o h1
  have h3 : (tgOne a0 (i : Int) (rd_T53 l2 (i : Int)) s).length ≤ 1 := by unfold tgOne; split <;> simp
  rw [List.length_append]
  omega
theorem tgL_some (k : Nat) (l2 : List S53) (l4 : List S91) (a0 now : Int) (i : Nat) : ∀ d xs, tgL k l2 l4 a0 now (i + d) = some xs → ∃ ys, tgL k l2 l4 a0 now i = some ys
 | 0, xs, h => ⟨xs, h⟩
 | d + 1, xs, h => by
  obtain ⟨o, h1, h⟩ := Option.bind_eq_some_iff.mp h
  exact tgL_some k l2 l4 a0 now i d o h1
theorem may_len {v : Int} {l : List S53} (h : conf_May.f v l = some true) : l.length ≤ 3 := by
 unfold conf_May.f at h
 have h := Option.some.inj h
 simp only [Bool.and_eq_true, decide_eq_true_eq] at h
 exact h.2
theorem spare_May.len {k : Nat} {a0 a1 a6 : Int} {l2 : List S53} {l3 : List S86} {l4 : List S91} {l5 : List S50} (h : spare_May.f k a0 a1 l2 l3 l4 l5 a6 = some true) : l2.length ≤ 3 := by
 unfold spare_May.f at h
 obtain ⟨t, h1, h⟩ := Option.bind_eq_some_iff.mp h
 cases t
 ·cases h
 ·exact may_len h1
def spare_Targets.f (k : Nat) (a0 a1 : Int) (l2 : List S53) (l3 : List S86) (l4 : List S91) (l5 : List S50) (a6 : Int) (now : Int) : Option (List S70 × Int) := (spare_May.f k a0 a1 l2 l3 l4 l5 a6).bind fun m => if m = true then (conf_Time.f now).bind fun t => (if t = true then (tgL k l2 l4 a0 now l2.length).bind fun r => some (r, 0) else some ([], 1700)) else some ([], 1700)
theorem spare_Targets.mono : ∀ a0 a1 l2 l3 l4 l5 a6 now k, LeO (spare_Targets.f k a0 a1 l2 l3 l4 l5 a6 now) (spare_Targets.f (k + 1) a0 a1 l2 l3 l4 l5 a6 now) := by
 intro a0 a1 l2 l3 l4 l5 a6 now k
 unfold spare_Targets.f
 refine LeO.bind (spare_May.mono _ _ _ _ _ _ _ _) (fun t => ?_)
 split
 ·refine LeO.bind (LeO.refl _) (fun t => ?_)
  split
  ·exact LeO.bind (tgL_mono _ _ _ _ _ _) (fun _ => LeO.refl _)
  ·exact LeO.refl _
 ·exact LeO.refl _
theorem spare_Targets.info : (Try.prog.info? 70).map (fun i => (i.zero, i.size, i.bytes)) = some (some (.agg #[(.int .i64 0), (.int .i64 0)]), 2, 16) := by kernel_rfl
theorem spare_Targets.hide {P : Program} {c : Code} {Q : Exit → Act → World → Prop} {a : Act} {w : World} (R : World → Prop) (h : R w) (k : ∀ w', R w' → c.wp P Q a w') : c.wp P Q a w := k w h
set_option maxHeartbeats 8000000 in
set_option maxRecDepth 100000 in
theorem spare_Targets.calls (k : Nat) (a0 a1 : Int) (A2 : Option Addr) (c2 : Nat) (l2 : List S53) (A3 : Option Addr) (c3 : Nat) (l3 : List S86) (A4 : Option Addr) (c4 : Nat) (l4 : List S91) (A5 : Option Addr) (c5 : Nat) (l5 : List S50) (a6 : Int) (now : Int) (r1 : List S70) (r2 : Int) (w : World) (hr2 : Kd.C k53 w A2 l2.length l2) (hc2 : l2.length ≤ c2) (hr3 : Kd.C k86 w A3 l3.length l3) (hc3 : l3.length ≤ c3) (hr4 : Kd.C k91 w A4 l4.length l4) (hc4 : l4.length ≤ c4) (hr5 : Kd.C k50 w A5 l5.length l5) (hc5 : l5.length ≤ c5) (h : spare_Targets.f k a0 a1 l2 l3 l4 l5 a6 now = some (r1, r2)) :
  Calls Try.prog 8 #[.agg #[.int .i64 a0, .int .i64 a1, .slice A2 l2.length c2, .slice A3 l3.length c3, .slice A4 l4.length c4, .slice A5 l5.length c5, .int .i64 a6], .int .i64 now] w fun e w' => ∃ v0_ : Value, e = .returned (.tuple #[v0_, .int .i64 r2]) ∧ Kd.R k70 70 w' w.heap.size (fun _ => True) v0_ r1 ∧ Below w.heap.size w w' := by
 have hb : Below w.heap.size w (w.alloc (Obj.cells #[.int .i64 a0, .int .i64 a1, .slice A2 l2.length c2, .slice A3 l3.length c3, .slice A4 l4.length c4, .slice A5 l5.length c5, .int .i64 a6] 29)) := below_alloc (Below.refl _ _) _
 have HN := Aside0.mk (show NodeAt (w.alloc (Obj.cells #[.int .i64 a0, .int .i64 a1, .slice A2 l2.length c2, .slice A3 l3.length c3, .slice A4 l4.length c4, .slice A5 l5.length c5, .int .i64 a6] 29)) w.heap.size a0 a1 A2 c2 l2 A3 c3 l3 A4 c4 l4 A5 c5 l5 a6 from ⟨blk_new _ _, Kd.C_below hr2 hb, hc2, Kd.C_below hr3 hb, hc3, Kd.C_below hr4 hb, hc4, Kd.C_below hr5 hb, hc5⟩)
 have x0 : (w.alloc (Obj.cells #[.int .i64 a0, .int .i64 a1, .slice A2 l2.length c2, .slice A3 l3.length c3, .slice A4 l4.length c4, .slice A5 l5.length c5, .int .i64 a6] 29)).cell? ⟨w.heap.size, 0, none⟩ = some (.int .i64 a0) := by simp
 have x1 : (w.alloc (Obj.cells #[.int .i64 a0, .int .i64 a1, .slice A2 l2.length c2, .slice A3 l3.length c3, .slice A4 l4.length c4, .slice A5 l5.length c5, .int .i64 a6] 29)).cell? ⟨w.heap.size, 1, none⟩ = some (.int .i64 a1) := by simp
 have x2 : (w.alloc (Obj.cells #[.int .i64 a0, .int .i64 a1, .slice A2 l2.length c2, .slice A3 l3.length c3, .slice A4 l4.length c4, .slice A5 l5.length c5, .int .i64 a6] 29)).cell? ⟨w.heap.size, 2, none⟩ = some (.slice A2 l2.length c2) := by simp
 have x3 : (w.alloc (Obj.cells #[.int .i64 a0, .int .i64 a1, .slice A2 l2.length c2, .slice A3 l3.length c3, .slice A4 l4.length c4, .slice A5 l5.length c5, .int .i64 a6] 29)).cell? ⟨w.heap.size, 3, none⟩ = some (.slice A3 l3.length c3) := by simp
 have x4 : (w.alloc (Obj.cells #[.int .i64 a0, .int .i64 a1, .slice A2 l2.length c2, .slice A3 l3.length c3, .slice A4 l4.length c4, .slice A5 l5.length c5, .int .i64 a6] 29)).cell? ⟨w.heap.size, 4, none⟩ = some (.slice A4 l4.length c4) := by simp
 have x5 : (w.alloc (Obj.cells #[.int .i64 a0, .int .i64 a1, .slice A2 l2.length c2, .slice A3 l3.length c3, .slice A4 l4.length c4, .slice A5 l5.length c5, .int .i64 a6] 29)).cell? ⟨w.heap.size, 5, none⟩ = some (.slice A5 l5.length c5) := by simp
 have x6 : (w.alloc (Obj.cells #[.int .i64 a0, .int .i64 a1, .slice A2 l2.length c2, .slice A3 l3.length c3, .slice A4 l4.length c4, .slice A5 l5.length c5, .int .i64 a6] 29)).cell? ⟨w.heap.size, 6, none⟩ = some (.int .i64 a6) := by simp
 have HB := Aside0.mk hb
 have hu := Try.underlying53
 clear hb hr2 hc2 hr3 hc3 hr4 hc4 hr5 hc5
 obtain ⟨m, hm, h⟩ := Option.bind_eq_some_iff.mp h
 replace hm := Aside0.mk hm
 cases m
 ·obtain ⟨rfl, rfl⟩ : [] = r1 ∧ 1700 = r2 := by simpa using h
  clear h
  go_enter Try.func8, Try.ntmps8
  go_wp2_with (go_at_call 16; refine (spare_May.at_ k w.heap.size a0 a1 _ _ _ _ _ _ _ _ _ _ _ _ a6 false _ HN.out hm.out).mono ?_; rintro e w1 ⟨rfl, hb⟩; replace x0 := pw_cell_below hb x0; replace x1 := pw_cell_below hb x1; replace x2 := pw_cell_below hb x2; replace x3 := pw_cell_below hb x3; replace x4 := pw_cell_below hb x4; replace x5 := pw_cell_below hb x5; replace x6 := pw_cell_below hb x6; replace HN := Aside0.mk (HN.out.below hb); replace HB := Aside0.mk (below_step HB.out hb); clear hb)
  go_ret2
  exact ⟨_, rfl, Kd.R_nil _ _ _ _ _, HB.out⟩
 ·rw [if_pos rfl] at h
  have HL3 := Aside0.mk (spare_May.len hm.out)
  obtain ⟨t, ht, h⟩ := Option.bind_eq_some_iff.mp h
  replace ht := Aside0.mk ht
  cases t
  ·obtain ⟨rfl, rfl⟩ : [] = r1 ∧ 1700 = r2 := by simpa using h
   clear h
   go_enter Try.func8, Try.ntmps8
   go_wp2_with (first | (go_at_call 16; refine (spare_May.at_ k w.heap.size a0 a1 _ _ _ _ _ _ _ _ _ _ _ _ a6 true _ HN.out hm.out).mono ?_; rintro e w1 ⟨rfl, hb⟩; replace x0 := pw_cell_below hb x0; replace x1 := pw_cell_below hb x1; replace x2 := pw_cell_below hb x2; replace x3 := pw_cell_below hb x3; replace x4 := pw_cell_below hb x4; replace x5 := pw_cell_below hb x5; replace x6 := pw_cell_below hb x6; replace HN := Aside0.mk (HN.out.below hb); replace HB := Aside0.mk (below_step HB.out hb); clear hb) | (go_at_call 24; refine (conf_Time.calls now false _ ht.out).mono ?_; rintro e w2 ⟨rfl, hn⟩; have hb := Go.Proofs.Ytlapbhgkmmeeoaa.Hand.hk_drawn hn; clear hn; replace x0 := pw_cell_below hb x0; replace x1 := pw_cell_below hb x1; replace x2 := pw_cell_below hb x2; replace x3 := pw_cell_below hb x3; replace x4 := pw_cell_below hb x4; replace x5 := pw_cell_below hb x5; replace x6 := pw_cell_below hb x6; replace HN := Aside0.mk (HN.out.below hb); replace HB := Aside0.mk (below_step HB.out hb); clear hb))
   go_ret2
   exact ⟨_, rfl, Kd.R_nil _ _ _ _ _, HB.out⟩
  ·rw [if_pos rfl] at h
   obtain ⟨rr, hr, h⟩ := Option.bind_eq_some_iff.mp h
   obtain ⟨rfl, rfl⟩ : rr = r1 ∧ 0 = r2 := by simpa using h
   have HRR := Aside0.mk hr
   clear h hr
   go_enter Try.func8, Try.ntmps8
   go_wp2_with (first | (go_at_call 16; refine (spare_May.at_ k w.heap.size a0 a1 _ _ _ _ _ _ _ _ _ _ _ _ a6 true _ HN.out hm.out).mono ?_; rintro e w1 ⟨rfl, hb⟩; replace x0 := pw_cell_below hb x0; replace x1 := pw_cell_below hb x1; replace x2 := pw_cell_below hb x2; replace x3 := pw_cell_below hb x3; replace x4 := pw_cell_below hb x4; replace x5 := pw_cell_below hb x5; replace x6 := pw_cell_below hb x6; replace HN := Aside0.mk (HN.out.below hb); replace HB := Aside0.mk (below_step HB.out hb); clear hb) | (go_at_call 24; refine (conf_Time.calls now true _ ht.out).mono ?_; rintro e w2 ⟨rfl, hn⟩; have hb := Go.Proofs.Ytlapbhgkmmeeoaa.Hand.hk_drawn hn; clear hn; replace x0 := pw_cell_below hb x0; replace x1 := pw_cell_below hb x1; replace x2 := pw_cell_below hb x2; replace x3 := pw_cell_below hb x3; replace x4 := pw_cell_below hb x4; replace x5 := pw_cell_below hb x5; replace x6 := pw_cell_below hb x6; replace HN := Aside0.mk (HN.out.below hb); replace HB := Aside0.mk (below_step HB.out hb); clear hb))
   obtain ⟨wl, hwl⟩ : ∃ wl, wl = w2 := ⟨_, rfl⟩
   subst hwl
   have HBS := Aside0.mk (below_size HB.out)
   go_loopg [6, 23] (l2.length + 1) (fun kq v6 v23 w' => ∃ (i : Nat) (xs : List S70), v23 = .int .i64 (i : Int) ∧ Aside0 (i ≤ l2.length ∧ (kq : Int) + i = l2.length + 1) ∧ Aside0 (tgL k l2 l4 a0 now i = some xs) ∧ Aside0 (Kd.R k70 70 w' wl.heap.size (fun _ => True) v6 xs) ∧ Aside0 (Below wl.heap.size wl w'))
   case atStart => exact ⟨0, [], rfl, ⟨by omega⟩, ⟨rfl⟩, ⟨Kd.R_nil _ _ _ _ _⟩, ⟨Below.refl _ _⟩⟩
   case round =>
    obtain ⟨i, xs, rfl, HX, HT, HO, HBW⟩ := hrel
    cases gk with
    | zero => have := HX.out; omega
    | succ k1 =>
     by_cases c3 : (i : Int) < (l2.length : Int)
     ·have c3b := decide_eq_true c3
      have p1 : (0 : Int) ≤ (i : Int) := by omega
      have p1b := decide_eq_true p1
      obtain ⟨ad, A9, c9, ea, hx0, hx1, hx2, hx3, _, _⟩ := at_T53 (HN.out.below HBW.out).r2 (i : Int) p1 c3
      cases ea
      obtain ⟨x, hx⟩ : ∃ x, rd_T53 l2 (i : Int) = x := ⟨_, rfl⟩
      rw [hx] at hx0 hx1 hx2 hx3
      rw [Int.toNat_natCast] at hx0 hx1 hx2 hx3
      obtain ⟨ys, hy⟩ := tgL_some k l2 l4 a0 now (i + 1) (l2.length - (i + 1)) rr (by rw [show i + 1 + (l2.length - (i + 1)) = l2.length by omega]; exact HRR.out)
      obtain ⟨o, ho, hy⟩ := Option.bind_eq_some_iff.mp hy
      obtain rfl : xs = o := Option.some.inj (HT.out.symm.trans ho)
      obtain ⟨⟨sr, st, se⟩, hsp, hy⟩ := Option.bind_eq_some_iff.mp hy
      have HSP := Aside0.mk hsp
      have HS1 := Aside0.mk (show tgL k l2 l4 a0 now (i + 1) = some (xs ++ tgOne a0 (i : Int) x (sr, st, se)) by show ((tgL k l2 l4 a0 now i).bind fun o => _) = _; rw [HT.out, Option.bind_some, hsp, Option.bind_some, hx])
      have HLX := Aside0.mk (show xs.length ≤ 3 by have h1 := tgL_len k l2 l4 a0 now i xs HT.out; have h2 := HL3.out; omega)
      have c3' := eq_true c3
      have p1' := eq_true p1
      clear ho hy hsp hx
      go_upto_region 7 with ((with_reducible refine gate_dst (N := 8) rfl ?_); refine box_event ?hg (N := 8) ?hd (cs := #[.int .i64 0, .bool false, .int .i64 0, .slice none 0 0]) (t := 53) ?hr ?_; (case hd => rfl); (case hg => rfl); (case hr => first | (go_simp; done) | (go_simp; rfl)); intro gs hg w3 hbox hb; have HW := Aside0.mk hb; have G := Aside0.mk (Nat.le_of_eq hg.symm : wr.heap.size ≤ gs); have Zb := Aside0.mk hbox; clear hb hbox hg; have z0 : w3.cell? ⟨gs, 0, none⟩ = some (.int .i64 0) := (blk_cell Zb.out 0).trans rfl; have y0 := blk_frozen Zb.out 0; have z1 : w3.cell? ⟨gs, 1, none⟩ = some (.bool false) := (blk_cell Zb.out 1).trans rfl; have y1 := blk_frozen Zb.out 1; have z2 : w3.cell? ⟨gs, 2, none⟩ = some (.int .i64 0) := (blk_cell Zb.out 2).trans rfl; have y2 := blk_frozen Zb.out 2; have z3 : w3.cell? ⟨gs, 3, none⟩ = some (.slice none 0 0) := (blk_cell Zb.out 3).trans rfl; have y3 := blk_frozen Zb.out 3; skip)
      refine spare_Targets.hide (fun W => Below wr.heap.size wr W ∧ W.heap[gs]? = some (.cells #[.int .i64 x.f0, .bool x.f1, .int .i64 x.f2, .slice A9 x.f3.length c9] 53 (0, 0))) ⟨by with_reducible repeat (first | exact HW.out | refine below_set ?_ G.out), by refine blk_put (cs := #[.int .i64 x.f0, .bool x.f1, .int .i64 x.f2, .slice none 0 0]) ?_ 3 _ rfl; refine blk_put (cs := #[.int .i64 x.f0, .bool x.f1, .int .i64 0, .slice none 0 0]) ?_ 2 _ rfl; refine blk_put (cs := #[.int .i64 x.f0, .bool false, .int .i64 0, .slice none 0 0]) ?_ 1 _ rfl; refine blk_put (cs := #[.int .i64 0, .bool false, .int .i64 0, .slice none 0 0]) ?_ 0 _ rfl; exact Zb.out⟩ ?_
      intro w4 ⟨hb, hz⟩
      have b0 : w4.cell? ⟨gs, 0, none⟩ = some (.int .i64 x.f0) := (blk_cell hz 0).trans rfl
      have b1 : w4.cell? ⟨gs, 1, none⟩ = some (.bool x.f1) := (blk_cell hz 1).trans rfl
      replace HO := Aside0.mk (Kd.R_below HO.out hb)
      replace HBW := Aside0.mk (below_step HBW.out hb)
      have HM := Aside0.mk (HN.out.below HBW.out)
      have m0 := pw_cell_below HBW.out x0
      have m4 := pw_cell_below HBW.out x4
      clear hb hz HW G Zb z0 y0 z1 y1 z2 y2 z3 y3 hx0 hx1 hx2 hx3
      go_upto_region 8 with (go_at_call 25; refine (view_Spare.calls k _ _ l4 (i : Int) now sr st se _ HM.out.r4 HM.out.q4 HSP.out).mono ?_; rintro e w5 ⟨rfl, hb⟩; replace m0 := pw_cell_below hb m0; replace b0 := pw_cell_below hb b0; replace b1 := pw_cell_below hb b1; replace HO := Aside0.mk (Kd.R_below HO.out hb); replace HBW := Aside0.mk (below_step HBW.out hb); clear hb m4)
      by_cases c1 : (i : Int) = a0
      ·have e1 : ((i : Int) == a0) = true := beq_iff_eq.2 c1
       have e2 : ((i : Int) != a0) = false := bne_eq_false_iff_eq.2 c1
       have e3 : decide ((i : Int) = a0) = true := decide_eq_true c1
       have HC := Aside0.mk c1
       clear c1
       have HE := Aside0.mk (show tgL k l2 l4 a0 now (i + 1) = some xs by rw [HS1.out]; unfold tgOne; rw [if_neg (fun q => q.1 HC.out), List.append_nil])
       go_wp2_with fail
       go_roundg k1
       case measure => have := HX.out; omega
       case rel =>
        have h1 := HX.out
        have h3 := HL3.out
        exact ⟨i + 1, _, by rw [show wrap64 ((i : Int) + 1) = ((i + 1 : Nat) : Int) by unfold wrap64; omega], ⟨by omega⟩, HE, HO, HBW⟩
      ·have e1 : ((i : Int) == a0) = false := beq_eq_false_iff_ne.2 c1
       have e2 : ((i : Int) != a0) = true := bne_iff_ne.2 c1
       have e3 : decide ((i : Int) = a0) = false := decide_eq_false c1
       have HC1 := Aside0.mk c1
       clear c1
       obtain ⟨d, hd⟩ : ∃ d, x.f1 = d := ⟨_, rfl⟩
       rw [hd] at b1
       replace hd := Aside0.mk hd
       cases d
       ·have HC2 := hd
        by_cases c3 : 0 < x.f0
        ·have e5 : decide (0 < x.f0) = true := decide_eq_true c3
         have HC3 := Aside0.mk c3
         clear c3
         cases st
         ·skip
          have HE := Aside0.mk (show tgL k l2 l4 a0 now (i + 1) = some xs by rw [HS1.out]; unfold tgOne; rw [if_neg (fun q => Bool.false_ne_true q.2.2.2.1), List.append_nil])
          go_wp2_with fail
          go_roundg k1
          case measure => have := HX.out; omega
          case rel =>
           have h1 := HX.out
           have h3 := HL3.out
           exact ⟨i + 1, _, by rw [show wrap64 ((i : Int) + 1) = ((i + 1 : Nat) : Int) by unfold wrap64; omega], ⟨by omega⟩, HE, HO, HBW⟩
         ·skip
          by_cases c5 : 0 < sr
          ·have e6 : decide (0 < sr) = true := decide_eq_true c5
           have HC5 := Aside0.mk c5
           clear c5
           have HE := Aside0.mk (show tgL k l2 l4 a0 now (i + 1) = some (xs ++ [⟨(i : Int), mn sr 16⟩]) by rw [HS1.out]; unfold tgOne; rw [if_pos ⟨HC1.out, HC2.out, HC3.out, rfl, HC5.out⟩])
           go_wp2_with ((with_reducible refine gate_builtin (b := .append) (xs := #[.tmp 58, .tmp 63]) rfl ?_); at_builtin; refine Kd.R_append k70 (w0 := wl) wl.heap.size rfl (.tmp 58) (.tmp 63) 36 70 (.agg #[(.int .i64 0), (.int .i64 0)]) 16 rfl Try.underlying36 spare_Targets.info rfl (by decide) (by omega) u6 xs ⟨(i : Int), mn sr 16⟩ [.int .i64 (i : Int), .int .i64 (mn sr 16)] (fun _ => True) (fun _ => False) rfl rfl ?aP (fun _ hk => hk.elim) ?aF ?aO ?aB ?aS ?aL ?_; (case aP => exact k70_mkM _ _ _ (⟨(i : Int), mn sr 16⟩ : S70)); (case aB => exact HBW.out); (case aF => exact (fun _ _ => trivial)); (case aO => exact HO.out); (case aS => exact below_size HBW.out); (case aL => have := HLX.out; omega); intro vN wN ho hb hg hat; replace HBW := Aside0.mk hb; replace HO := Aside0.mk ho; clear ho hb hg hat)
           all_goals
            go_roundg k1
            case measure => have := HX.out; omega
            case rel =>
             have h1 := HX.out
             have h3 := HL3.out
             exact ⟨i + 1, _, by rw [show wrap64 ((i : Int) + 1) = ((i + 1 : Nat) : Int) by unfold wrap64; omega], ⟨by omega⟩, HE, HO, HBW⟩
          ·have e6 : decide (0 < sr) = false := decide_eq_false c5
           have HC5 := Aside0.mk c5
           clear c5
           have HE := Aside0.mk (show tgL k l2 l4 a0 now (i + 1) = some xs by rw [HS1.out]; unfold tgOne; rw [if_neg (fun q => HC5.out q.2.2.2.2), List.append_nil])
           go_wp2_with fail
           go_roundg k1
           case measure => have := HX.out; omega
           case rel =>
            have h1 := HX.out
            have h3 := HL3.out
            exact ⟨i + 1, _, by rw [show wrap64 ((i : Int) + 1) = ((i + 1 : Nat) : Int) by unfold wrap64; omega], ⟨by omega⟩, HE, HO, HBW⟩
        ·have e5 : decide (0 < x.f0) = false := decide_eq_false c3
         have HC3 := Aside0.mk c3
         clear c3
         have HE := Aside0.mk (show tgL k l2 l4 a0 now (i + 1) = some xs by rw [HS1.out]; unfold tgOne; rw [if_neg (fun q => HC3.out q.2.2.1), List.append_nil])
         go_wp2_with fail
         go_roundg k1
         case measure => have := HX.out; omega
         case rel =>
          have h1 := HX.out
          have h3 := HL3.out
          exact ⟨i + 1, _, by rw [show wrap64 ((i : Int) + 1) = ((i + 1 : Nat) : Int) by unfold wrap64; omega], ⟨by omega⟩, HE, HO, HBW⟩
       ·skip
        have HE := Aside0.mk (show tgL k l2 l4 a0 now (i + 1) = some xs by rw [HS1.out]; unfold tgOne; rw [if_neg (fun q => by have h9 := q.2.1; rw [hd.out] at h9; cases h9), List.append_nil])
        go_wp2_with fail
        go_roundg k1
        case measure => have := HX.out; omega
        case rel =>
         have h1 := HX.out
         have h3 := HL3.out
         exact ⟨i + 1, _, by rw [show wrap64 ((i : Int) + 1) = ((i + 1 : Nat) : Int) by unfold wrap64; omega], ⟨by omega⟩, HE, HO, HBW⟩
     ·have c3b := decide_eq_false c3
      obtain rfl : i = l2.length := by have := HX.out; omega
      obtain rfl : rr = xs := Option.some.inj (HRR.out.symm.trans HT.out)
      go_wp2_with fail
      go_ret2
      exact ⟨_, rfl, Kd.R_lower HO.out HBS.out, below_step HB.out HBW.out⟩


end Go.Proofs.Ytlapbhgkmmeeoaa.PSpares
end
section
/- Contracts: what calls of these functions of the program do, each as a plain function; written by a program of this session. -/
namespace Go.Proofs.Ytlapbhgkmmeeoaa.PSpares
open Go.RowKit Go.Proofs.YtlapbhgkmmeeoaaW.PrintWords Go.Proofs.YtlapbhgkmmeeoaaW.PrintLast Go.Proofs.YtlapbhgkmmeeoaaW.PrintMore
attribute [local go_sem] max2_int min2_int max_two min_two max_three min_three max_four min_four   -- for this text's walks alone
set_option linter.unusedVariables false
set_option linter.unusedSimpArgs false

/-! ### wharfageref10_SpareOf: function 27 -/
def wharfageref10_SpareOf.j0 : Nat → List (S91) → Int → Int → Bool → Option (Int × Bool × Int)
 | 0, _, _, _, _ => none
 | k + 1, x0, x1, x2, x25 => if x25 = true then (some (0, false, 1200)) else (if 0 ≤ x1 then (if x1 < (x0.length : Int) then (if ((rd_T91 x0 x1).f1) < 0 then (some (0, false, 0)) else (if x2 < ((rd_T91 x0 x1).f1) then (some (0, false, 0)) else (if (wrap64 (x2 - ((rd_T91 x0 x1).f1))) ≥ 10 then (some (0, false, 0)) else (some (mx 0 (wrap64 (((rd_T91 x0 x1).f0.f3) - ((rd_T91 x0 x1).f0.f2))), true, 0))))) else (none)) else (none))
def wharfageref10_SpareOf.f (k : Nat) (l0 : List (S91)) (a1 : Int) (a2 : Int) : Option (Int × Bool × Int) := (wharfageref10_ViewMay.f k l0).bind fun t204 => (if t204 = true then ((wharfageref10_nowMay.f a2).bind fun t205 => (if t205 = true then (if a1 < 0 then (wharfageref10_SpareOf.j0 k l0 a1 a2 true) else (wharfageref10_SpareOf.j0 k l0 a1 a2 (decide (a1 ≥ 3)))) else (wharfageref10_SpareOf.j0 k l0 a1 a2 true))) else (wharfageref10_SpareOf.j0 k l0 a1 a2 true))
theorem wharfageref10_SpareOf.mono_l : ∀ k, (∀ y0 y1 y2 y3, LeO (wharfageref10_SpareOf.j0 k y0 y1 y2 y3) (wharfageref10_SpareOf.j0 (k + 1) y0 y1 y2 y3))
 | 0 => fun _ _ _ _ r h => by simp [wharfageref10_SpareOf.j0] at h
 | k + 1 => by
  have ih0 := wharfageref10_SpareOf.mono_l k
  ·intro y0 y1 y2 y3
   unfold wharfageref10_SpareOf.j0
   repeat' first
   | (with_reducible exact ih0 _ _ _ _)
   | (with_reducible exact wharfageref10_ViewMay.mono _ _)
   | (with_reducible exact LeO.refl _)
   | (with_reducible exact LeO.none _)
   | (with_reducible refine LeO.ite ?_ ?_)
   | (with_reducible refine LeO.bind ?_ (fun _ => ?_))
   | exact ih0 _ _ _ _
   | exact wharfageref10_ViewMay.mono _ _
   | exact LeO.none _
   | refine LeO.ite ?_ ?_
   | refine LeO.bind ?_ (fun _ => ?_)
theorem wharfageref10_SpareOf.mono : ∀ a0 a1 a2 k, LeO (wharfageref10_SpareOf.f k a0 a1 a2) (wharfageref10_SpareOf.f (k + 1) a0 a1 a2) := by
 intro a0 a1 a2 k
 have ih0 := wharfageref10_SpareOf.mono_l k
 unfold wharfageref10_SpareOf.f
 repeat' first
   | (with_reducible exact ih0 _ _ _ _)
   | (with_reducible exact wharfageref10_ViewMay.mono _ _)
   | (with_reducible exact LeO.refl _)
   | (with_reducible exact LeO.none _)
   | (with_reducible refine LeO.ite ?_ ?_)
   | (with_reducible refine LeO.bind ?_ (fun _ => ?_))
   | exact ih0 _ _ _ _
   | exact wharfageref10_ViewMay.mono _ _
   | exact LeO.none _
   | refine LeO.ite ?_ ?_
   | refine LeO.bind ?_ (fun _ => ?_)
set_option maxHeartbeats 8000000 in
set_option maxRecDepth 100000 in
theorem wharfageref10_SpareOf.calls (k : Nat) (A0 : Option Addr) (c0 : Nat) (l0 : List (S91)) (a1 : Int) (a2 : Int) (r1 : Int) (r2 : Bool) (r3 : Int) (w : World) (hr0 : Kd.C k91 w A0 l0.length l0) (hc0 : l0.length ≤ c0) (h : wharfageref10_SpareOf.f k l0 a1 a2 = some (r1, r2, r3)) :
  Calls Try.prog 27 #[.slice A0 l0.length c0, .int .i64 a1, .int .i64 a2] w fun e w' => e = .returned (.tuple #[.int .i64 r1, .bool r2, .int .i64 r3]) ∧ Below w.heap.size w w' := by
 have hu91 := Try.underlying91
 have HR0 := Aside0.mk hr0
 have HC0 := Aside0.mk hc0
 clear hr0 hc0
 have HB := Aside0.mk (Below.refl w.heap.size w)
 have H : ((wharfageref10_ViewMay.f k l0).bind fun t204 => (if t204 = true then ((wharfageref10_nowMay.f a2).bind fun t205 => (if t205 = true then (if a1 < 0 then (wharfageref10_SpareOf.j0 k l0 a1 a2 true) else (wharfageref10_SpareOf.j0 k l0 a1 a2 (decide (a1 ≥ 3)))) else (wharfageref10_SpareOf.j0 k l0 a1 a2 true))) else (wharfageref10_SpareOf.j0 k l0 a1 a2 true))) = some (r1, r2, r3) := h
 clear h
 have HC4 := Aside0.mk H
 clear H
 go_enter Try.func27, Try.ntmps27
 go_upto_region 1 with (fail)
 go_cut [25] (fun v25 wc => ∃ (kq : Nat) (x25_3 : Bool), v25 = .bool x25_3 ∧ Aside0 (wharfageref10_SpareOf.j0 kq l0 a1 a2 x25_3 = some (r1, r2, r3)) ∧ Aside0 (kq ≤ k) ∧ Aside0 (Below w.heap.size w wc))
 case first =>
  have H := HC4.out
  clear HC4
  replace H := Option.bind_eq_some_iff.mp H
  obtain ⟨t204, A50, H⟩ := H
  replace H : (if t204 = true then ((wharfageref10_nowMay.f a2).bind fun t205 => (if t205 = true then (if a1 < 0 then (wharfageref10_SpareOf.j0 k l0 a1 a2 true) else (wharfageref10_SpareOf.j0 k l0 a1 a2 (decide (a1 ≥ 3)))) else (wharfageref10_SpareOf.j0 k l0 a1 a2 true))) else (wharfageref10_SpareOf.j0 k l0 a1 a2 true)) = some (r1, r2, r3) := H
  have A5 := Aside0.mk A50
  clear A50
  by_cases c6 : t204 = true
  ·subst c6
   have H1 : ((wharfageref10_nowMay.f a2).bind fun t205 => (if t205 = true then (if a1 < 0 then (wharfageref10_SpareOf.j0 k l0 a1 a2 true) else (wharfageref10_SpareOf.j0 k l0 a1 a2 (decide (a1 ≥ 3)))) else (wharfageref10_SpareOf.j0 k l0 a1 a2 true))) = some (r1, r2, r3) := by rw [if_pos rfl] at H; exact H
   clear H
   have H := H1
   clear H1
   replace H := Option.bind_eq_some_iff.mp H
   obtain ⟨t205, A70, H⟩ := H
   replace H : (if t205 = true then (if a1 < 0 then (wharfageref10_SpareOf.j0 k l0 a1 a2 true) else (wharfageref10_SpareOf.j0 k l0 a1 a2 (decide (a1 ≥ 3)))) else (wharfageref10_SpareOf.j0 k l0 a1 a2 true)) = some (r1, r2, r3) := H
   have A7 := Aside0.mk A70
   clear A70
   by_cases c8 : t205 = true
   ·subst c8
    have H1 : (if a1 < 0 then (wharfageref10_SpareOf.j0 k l0 a1 a2 true) else (wharfageref10_SpareOf.j0 k l0 a1 a2 (decide (a1 ≥ 3)))) = some (r1, r2, r3) := by rw [if_pos rfl] at H; exact H
    clear H
    have H := H1
    clear H1
    by_cases c9 : a1 < 0
    ·rw [if_pos c9] at H
     have c9b0 : decide (a1 < 0) = true := decide_eq_true c9
     clear c9
     (first | rw [c9b0] | (simp only [i64_w, i32_w]; rw [c9b0]) | skip)
     have H' := Aside0.mk H
     clear H
     go_wp2_with (first | ((with_reducible refine gate_callee (f := 41) rfl ?_); refine goesL_ (some 11) rfl rfl Try.func41 (by kernel_rfl) rfl #[.slice A0 l0.length c0] rfl (by (try simp only [List.map_toArray, List.map_cons, List.map_nil]); first | done | rfl | (simp only [List.length_drop, List.length_take]; rfl)) ?_; (with_reducible refine (wharfageref10_ViewMay.calls k _ _ l0 true _ ?side1 ?side2 A5.out).mono ?_); (case side1 => repeat (first | exact (Kd.C_below HR0.out HB.out) | (with_reducible refine Kd.C_alloc ?_ _) | (with_reducible refine Kd.C_drewN ?_ _) | (with_reducible refine Kd.C_drew ?_))); (case side2 => exact HC0.out); rintro e w10 ⟨rfl, hb⟩; refine ⟨_, rfl, ?_⟩; have n0_ := Aside0.mk (below_step (by repeat (first | (with_reducible first | exact HB.out | apply below_alloc | apply pw_below_drewN | apply below_drew1) | exact HB.out)) hb); clear HB; have HB := n0_; clear n0_; (try clear hb); (try clear hb2); (try clear hk); (try clear hi)) | (go_at_call 26; (with_reducible refine (wharfageref10_nowMay.calls a2 true _ A7.out).mono ?_); rintro e w' ⟨rfl, ⟨nd, rfl⟩⟩))
     go_meet
     case rel => exact ⟨_, (true), (by first | rfl | (simp; done) | (simp [*]; done)), H', ⟨by first | omega | exact Nat.le_refl _⟩, ⟨by repeat (first | (with_reducible first | exact HB.out | apply below_alloc | apply pw_below_drewN | apply below_drew1) | exact HB.out)⟩⟩
    ·rw [if_neg c9] at H
     have c9b0 : decide (a1 < 0) = false := decide_eq_false c9
     clear c9
     (first | rw [c9b0] | (simp only [i64_w, i32_w]; rw [c9b0]) | skip)
     have H' := Aside0.mk H
     clear H
     go_wp2_with (first | ((with_reducible refine gate_callee (f := 41) rfl ?_); refine goesL_ (some 11) rfl rfl Try.func41 (by kernel_rfl) rfl #[.slice A0 l0.length c0] rfl (by (try simp only [List.map_toArray, List.map_cons, List.map_nil]); first | done | rfl | (simp only [List.length_drop, List.length_take]; rfl)) ?_; (with_reducible refine (wharfageref10_ViewMay.calls k _ _ l0 true _ ?side1 ?side2 A5.out).mono ?_); (case side1 => repeat (first | exact (Kd.C_below HR0.out HB.out) | (with_reducible refine Kd.C_alloc ?_ _) | (with_reducible refine Kd.C_drewN ?_ _) | (with_reducible refine Kd.C_drew ?_))); (case side2 => exact HC0.out); rintro e w11 ⟨rfl, hb⟩; refine ⟨_, rfl, ?_⟩; have n0_ := Aside0.mk (below_step (by repeat (first | (with_reducible first | exact HB.out | apply below_alloc | apply pw_below_drewN | apply below_drew1) | exact HB.out)) hb); clear HB; have HB := n0_; clear n0_; (try clear hb); (try clear hb2); (try clear hk); (try clear hi)) | (go_at_call 26; (with_reducible refine (wharfageref10_nowMay.calls a2 true _ A7.out).mono ?_); rintro e w' ⟨rfl, ⟨nd, rfl⟩⟩))
     go_meet
     case rel => exact ⟨_, (decide (a1 ≥ 3)), (by first | rfl | (simp; done) | (simp [*]; done)), H', ⟨by first | omega | exact Nat.le_refl _⟩, ⟨by repeat (first | (with_reducible first | exact HB.out | apply below_alloc | apply pw_below_drewN | apply below_drew1) | exact HB.out)⟩⟩
   ·replace c8 := Bool.eq_false_iff.mpr c8
    subst c8
    have H1 : (wharfageref10_SpareOf.j0 k l0 a1 a2 true) = some (r1, r2, r3) := by rw [if_neg (show ¬ (false = true) by decide)] at H; exact H
    clear H
    have H := H1
    clear H1
    have H' := Aside0.mk H
    clear H
    go_wp2_with (first | ((with_reducible refine gate_callee (f := 41) rfl ?_); refine goesL_ (some 11) rfl rfl Try.func41 (by kernel_rfl) rfl #[.slice A0 l0.length c0] rfl (by (try simp only [List.map_toArray, List.map_cons, List.map_nil]); first | done | rfl | (simp only [List.length_drop, List.length_take]; rfl)) ?_; (with_reducible refine (wharfageref10_ViewMay.calls k _ _ l0 true _ ?side1 ?side2 A5.out).mono ?_); (case side1 => repeat (first | exact (Kd.C_below HR0.out HB.out) | (with_reducible refine Kd.C_alloc ?_ _) | (with_reducible refine Kd.C_drewN ?_ _) | (with_reducible refine Kd.C_drew ?_))); (case side2 => exact HC0.out); rintro e w12 ⟨rfl, hb⟩; refine ⟨_, rfl, ?_⟩; have n0_ := Aside0.mk (below_step (by repeat (first | (with_reducible first | exact HB.out | apply below_alloc | apply pw_below_drewN | apply below_drew1) | exact HB.out)) hb); clear HB; have HB := n0_; clear n0_; (try clear hb); (try clear hb2); (try clear hk); (try clear hi)) | (go_at_call 26; (with_reducible refine (wharfageref10_nowMay.calls a2 false _ A7.out).mono ?_); rintro e w' ⟨rfl, ⟨nd, rfl⟩⟩))
    go_meet
    case rel => exact ⟨_, (true), (by first | rfl | (simp; done) | (simp [*]; done)), H', ⟨by first | omega | exact Nat.le_refl _⟩, ⟨by repeat (first | (with_reducible first | exact HB.out | apply below_alloc | apply pw_below_drewN | apply below_drew1) | exact HB.out)⟩⟩
  ·replace c6 := Bool.eq_false_iff.mpr c6
   subst c6
   have H1 : (wharfageref10_SpareOf.j0 k l0 a1 a2 true) = some (r1, r2, r3) := by rw [if_neg (show ¬ (false = true) by decide)] at H; exact H
   clear H
   have H := H1
   clear H1
   have H' := Aside0.mk H
   clear H
   go_wp2_with (first | ((with_reducible refine gate_callee (f := 41) rfl ?_); refine goesL_ (some 11) rfl rfl Try.func41 (by kernel_rfl) rfl #[.slice A0 l0.length c0] rfl (by (try simp only [List.map_toArray, List.map_cons, List.map_nil]); first | done | rfl | (simp only [List.length_drop, List.length_take]; rfl)) ?_; (with_reducible refine (wharfageref10_ViewMay.calls k _ _ l0 false _ ?side1 ?side2 A5.out).mono ?_); (case side1 => repeat (first | exact (Kd.C_below HR0.out HB.out) | (with_reducible refine Kd.C_alloc ?_ _) | (with_reducible refine Kd.C_drewN ?_ _) | (with_reducible refine Kd.C_drew ?_))); (case side2 => exact HC0.out); rintro e w13 ⟨rfl, hb⟩; refine ⟨_, rfl, ?_⟩; have n0_ := Aside0.mk (below_step (by repeat (first | (with_reducible first | exact HB.out | apply below_alloc | apply pw_below_drewN | apply below_drew1) | exact HB.out)) hb); clear HB; have HB := n0_; clear n0_; (try clear hb); (try clear hb2); (try clear hk); (try clear hi)))
   go_meet
   case rel => exact ⟨_, (true), (by first | rfl | (simp; done) | (simp [*]; done)), H', ⟨by first | omega | exact Nat.le_refl _⟩, ⟨by repeat (first | (with_reducible first | exact HB.out | apply below_alloc | apply pw_below_drewN | apply below_drew1) | exact HB.out)⟩⟩
 case rest =>
  clear HC4
  try clear c2
  try clear p2
  try clear c4
  try clear c6
  try clear c8
  try clear c9
  try clear c9b0
  obtain ⟨kq, x25_3, rfl, HA, HJ3, HB⟩ := hcut
  cases kq with
  | zero => exact absurd HA.out (by simp [wharfageref10_SpareOf.j0])
  | succ kj3 =>
   have H := HA.out
   clear HA
   simp only [wharfageref10_SpareOf.j0] at H
   by_cases c14 : x25_3 = true
   ·subst c14
    have H1 : (some (0, false, 1200)) = some (r1, r2, r3) := by rw [if_pos rfl] at H; exact H
    clear H
    have H := H1
    clear H1
    simp only [Option.some.injEq, Prod.mk.injEq] at H
    obtain ⟨rfl, rfl, rfl⟩ := H
    go_wp2
    go_ret3
    exact ⟨by first | rfl | (simp [errW_none, errW_some] <;> rfl) | (simp [*, errW_none, errW_some] <;> rfl), by repeat (first | (with_reducible first | exact HB.out | apply below_alloc | apply pw_below_drewN | apply below_drew1) | exact HB.out)⟩
   ·replace c14 := Bool.eq_false_iff.mpr c14
    subst c14
    have H1 : (if 0 ≤ a1 then (if a1 < (l0.length : Int) then (if ((rd_T91 l0 a1).f1) < 0 then (some (0, false, 0)) else (if a2 < ((rd_T91 l0 a1).f1) then (some (0, false, 0)) else (if (wrap64 (a2 - ((rd_T91 l0 a1).f1))) ≥ 10 then (some (0, false, 0)) else (some (mx 0 (wrap64 (((rd_T91 l0 a1).f0.f3) - ((rd_T91 l0 a1).f0.f2))), true, 0))))) else (none)) else (none)) = some (r1, r2, r3) := by rw [if_neg (show ¬ (false = true) by decide)] at H; exact H
    clear H
    have H := H1
    clear H1
    by_cases c15 : 0 ≤ a1
    ·rw [if_pos c15] at H
     have c15b0 : decide (0 ≤ a1) = true := decide_eq_true c15
     clear c15
     by_cases c16 : a1 < (l0.length : Int)
     ·rw [if_pos c16] at H
      have c16b0 : decide (a1 < (l0.length : Int)) = true := decide_eq_true c16
      clear c16
      by_cases c17 : ((rd_T91 l0 a1).f1) < 0
      ·rw [if_pos c17] at H
       have c17b0 : decide (((rd_T91 l0 a1).f1) < 0) = true := decide_eq_true c17
       clear c17
       simp only [Option.some.injEq, Prod.mk.injEq] at H
       obtain ⟨rfl, rfl, rfl⟩ := H
       have p206 : 0 ≤ (a1 : Int) := of_decide_eq_true (by first | (with_reducible assumption) | assumption)
       have q206 : a1 < (l0.length : Int) := of_decide_eq_true (by first | (with_reducible assumption) | assumption)
       obtain ⟨ad206, e206, hx206_0, hx206_1, hx206_2, hx206_3, hx206_4⟩ := at_T91 HR0.out a1 p206 q206
       cases e206
       replace hx206_0 := (HB.out.cell (World.block_lt_of_cell? w _ hx206_0)).trans hx206_0
       replace hx206_1 := (HB.out.cell (World.block_lt_of_cell? w _ hx206_1)).trans hx206_1
       replace hx206_2 := (HB.out.cell (World.block_lt_of_cell? w _ hx206_2)).trans hx206_2
       replace hx206_3 := (HB.out.cell (World.block_lt_of_cell? w _ hx206_3)).trans hx206_3
       replace hx206_4 := (HB.out.cell (World.block_lt_of_cell? w _ hx206_4)).trans hx206_4
       replace p206 := eq_true p206
       replace q206 := eq_true q206
       go_wp2_with (first | ((with_reducible refine gate_dst (N := 9) rfl ?_); refine box_event ?hg (N := 9) ?hd (cs := #[.int .i64 0, .int .i64 0, .int .i64 0, .int .i64 0, .int .i64 0]) (t := 91) ?hr ?_; (case hd => rfl); (case hg => rfl); (case hr => first | (go_simp; done) | (go_simp; rfl)); intro g0 hg w18 hbox hb; have n0_ := Aside0.mk (below_step (by repeat (first | (with_reducible first | exact HB.out | apply below_alloc | apply pw_below_drewN | apply below_drew1) | exact HB.out)) hb); have n1_ := Aside0.mk (hbox); have n2_ := Aside0.mk ((by rw [hg]; exact (below_size (by repeat (first | (with_reducible first | exact HB.out | apply below_alloc | apply pw_below_drewN | apply below_drew1) | exact HB.out))) : w.heap.size ≤ g0)); have n3_ := Aside0.mk ((by rw [hg]; exact (below_size (by repeat (first | (with_reducible first | exact HB.out | apply below_alloc | apply pw_below_drewN | apply below_drew1) | exact HB.out))) : w.heap.size ≤ g0)); clear HB; have HB := n0_; have K0 := n1_; have G0 := n2_; have E0 := n3_; clear n0_ n1_ n2_ n3_; clear hb hbox hg; have hcz19_0 : w18.cell? ⟨g0, 0, none⟩ = some (.int .i64 0) := (blk_cell K0.out 0).trans rfl; have hcz19_1 : w18.cell? ⟨g0, 1, none⟩ = some (.int .i64 0) := (blk_cell K0.out 1).trans rfl; have hcz19_2 : w18.cell? ⟨g0, 2, none⟩ = some (.int .i64 0) := (blk_cell K0.out 2).trans rfl; have hcz19_3 : w18.cell? ⟨g0, 3, none⟩ = some (.int .i64 0) := (blk_cell K0.out 3).trans rfl; have hcz19_4 : w18.cell? ⟨g0, 4, none⟩ = some (.int .i64 0) := (blk_cell K0.out 4).trans rfl; have hfz19_0 := blk_frozen K0.out 0; have hfz19_1 := blk_frozen K0.out 1; have hfz19_2 := blk_frozen K0.out 2; have hfz19_3 := blk_frozen K0.out 3; have hfz19_4 := blk_frozen K0.out 4))
       go_ret3
       exact ⟨by first | rfl | (simp [errW_none, errW_some] <;> rfl) | (simp [*, errW_none, errW_some] <;> rfl), by repeat (first | (with_reducible first | exact HB.out | apply below_alloc | apply pw_below_drewN | apply below_drew1 | refine below_set ?_ E0.out) | exact HB.out)⟩
      ·rw [if_neg c17] at H
       have c17b0 : decide (((rd_T91 l0 a1).f1) < 0) = false := decide_eq_false c17
       clear c17
       by_cases c20 : a2 < ((rd_T91 l0 a1).f1)
       ·rw [if_pos c20] at H
        have c20b0 : decide (a2 < ((rd_T91 l0 a1).f1)) = true := decide_eq_true c20
        clear c20
        simp only [Option.some.injEq, Prod.mk.injEq] at H
        obtain ⟨rfl, rfl, rfl⟩ := H
        have p206 : 0 ≤ (a1 : Int) := of_decide_eq_true (by first | (with_reducible assumption) | assumption)
        have q206 : a1 < (l0.length : Int) := of_decide_eq_true (by first | (with_reducible assumption) | assumption)
        obtain ⟨ad206, e206, hx206_0, hx206_1, hx206_2, hx206_3, hx206_4⟩ := at_T91 HR0.out a1 p206 q206
        cases e206
        replace hx206_0 := (HB.out.cell (World.block_lt_of_cell? w _ hx206_0)).trans hx206_0
        replace hx206_1 := (HB.out.cell (World.block_lt_of_cell? w _ hx206_1)).trans hx206_1
        replace hx206_2 := (HB.out.cell (World.block_lt_of_cell? w _ hx206_2)).trans hx206_2
        replace hx206_3 := (HB.out.cell (World.block_lt_of_cell? w _ hx206_3)).trans hx206_3
        replace hx206_4 := (HB.out.cell (World.block_lt_of_cell? w _ hx206_4)).trans hx206_4
        replace p206 := eq_true p206
        replace q206 := eq_true q206
        go_wp2_with (first | ((with_reducible refine gate_dst (N := 9) rfl ?_); refine box_event ?hg (N := 9) ?hd (cs := #[.int .i64 0, .int .i64 0, .int .i64 0, .int .i64 0, .int .i64 0]) (t := 91) ?hr ?_; (case hd => rfl); (case hg => rfl); (case hr => first | (go_simp; done) | (go_simp; rfl)); intro g0 hg w21 hbox hb; have n0_ := Aside0.mk (below_step (by repeat (first | (with_reducible first | exact HB.out | apply below_alloc | apply pw_below_drewN | apply below_drew1) | exact HB.out)) hb); have n1_ := Aside0.mk (hbox); have n2_ := Aside0.mk ((by rw [hg]; exact (below_size (by repeat (first | (with_reducible first | exact HB.out | apply below_alloc | apply pw_below_drewN | apply below_drew1) | exact HB.out))) : w.heap.size ≤ g0)); have n3_ := Aside0.mk ((by rw [hg]; exact (below_size (by repeat (first | (with_reducible first | exact HB.out | apply below_alloc | apply pw_below_drewN | apply below_drew1) | exact HB.out))) : w.heap.size ≤ g0)); clear HB; have HB := n0_; have K0 := n1_; have G0 := n2_; have E0 := n3_; clear n0_ n1_ n2_ n3_; clear hb hbox hg; have hcz22_0 : w21.cell? ⟨g0, 0, none⟩ = some (.int .i64 0) := (blk_cell K0.out 0).trans rfl; have hcz22_1 : w21.cell? ⟨g0, 1, none⟩ = some (.int .i64 0) := (blk_cell K0.out 1).trans rfl; have hcz22_2 : w21.cell? ⟨g0, 2, none⟩ = some (.int .i64 0) := (blk_cell K0.out 2).trans rfl; have hcz22_3 : w21.cell? ⟨g0, 3, none⟩ = some (.int .i64 0) := (blk_cell K0.out 3).trans rfl; have hcz22_4 : w21.cell? ⟨g0, 4, none⟩ = some (.int .i64 0) := (blk_cell K0.out 4).trans rfl; have hfz22_0 := blk_frozen K0.out 0; have hfz22_1 := blk_frozen K0.out 1; have hfz22_2 := blk_frozen K0.out 2; have hfz22_3 := blk_frozen K0.out 3; have hfz22_4 := blk_frozen K0.out 4))
        go_ret3
        exact ⟨by first | rfl | (simp [errW_none, errW_some] <;> rfl) | (simp [*, errW_none, errW_some] <;> rfl), by repeat (first | (with_reducible first | exact HB.out | apply below_alloc | apply pw_below_drewN | apply below_drew1 | refine below_set ?_ E0.out) | exact HB.out)⟩
       ·rw [if_neg c20] at H
        have c20b0 : decide (a2 < ((rd_T91 l0 a1).f1)) = false := decide_eq_false c20
        clear c20
        by_cases c23 : (wrap64 (a2 - ((rd_T91 l0 a1).f1))) ≥ 10
        ·rw [if_pos c23] at H
         have c23b0 : decide (10 ≤ (wrap64 (a2 - ((rd_T91 l0 a1).f1)))) = true := decide_eq_true c23
         clear c23
         simp only [Option.some.injEq, Prod.mk.injEq] at H
         obtain ⟨rfl, rfl, rfl⟩ := H
         have p206 : 0 ≤ (a1 : Int) := of_decide_eq_true (by first | (with_reducible assumption) | assumption)
         have q206 : a1 < (l0.length : Int) := of_decide_eq_true (by first | (with_reducible assumption) | assumption)
         obtain ⟨ad206, e206, hx206_0, hx206_1, hx206_2, hx206_3, hx206_4⟩ := at_T91 HR0.out a1 p206 q206
         cases e206
         replace hx206_0 := (HB.out.cell (World.block_lt_of_cell? w _ hx206_0)).trans hx206_0
         replace hx206_1 := (HB.out.cell (World.block_lt_of_cell? w _ hx206_1)).trans hx206_1
         replace hx206_2 := (HB.out.cell (World.block_lt_of_cell? w _ hx206_2)).trans hx206_2
         replace hx206_3 := (HB.out.cell (World.block_lt_of_cell? w _ hx206_3)).trans hx206_3
         replace hx206_4 := (HB.out.cell (World.block_lt_of_cell? w _ hx206_4)).trans hx206_4
         replace p206 := eq_true p206
         replace q206 := eq_true q206
         go_wp2_with (first | ((with_reducible refine gate_dst (N := 9) rfl ?_); refine box_event ?hg (N := 9) ?hd (cs := #[.int .i64 0, .int .i64 0, .int .i64 0, .int .i64 0, .int .i64 0]) (t := 91) ?hr ?_; (case hd => rfl); (case hg => rfl); (case hr => first | (go_simp; done) | (go_simp; rfl)); intro g0 hg w24 hbox hb; have n0_ := Aside0.mk (below_step (by repeat (first | (with_reducible first | exact HB.out | apply below_alloc | apply pw_below_drewN | apply below_drew1) | exact HB.out)) hb); have n1_ := Aside0.mk (hbox); have n2_ := Aside0.mk ((by rw [hg]; exact (below_size (by repeat (first | (with_reducible first | exact HB.out | apply below_alloc | apply pw_below_drewN | apply below_drew1) | exact HB.out))) : w.heap.size ≤ g0)); have n3_ := Aside0.mk ((by rw [hg]; exact (below_size (by repeat (first | (with_reducible first | exact HB.out | apply below_alloc | apply pw_below_drewN | apply below_drew1) | exact HB.out))) : w.heap.size ≤ g0)); clear HB; have HB := n0_; have K0 := n1_; have G0 := n2_; have E0 := n3_; clear n0_ n1_ n2_ n3_; clear hb hbox hg; have hcz25_0 : w24.cell? ⟨g0, 0, none⟩ = some (.int .i64 0) := (blk_cell K0.out 0).trans rfl; have hcz25_1 : w24.cell? ⟨g0, 1, none⟩ = some (.int .i64 0) := (blk_cell K0.out 1).trans rfl; have hcz25_2 : w24.cell? ⟨g0, 2, none⟩ = some (.int .i64 0) := (blk_cell K0.out 2).trans rfl; have hcz25_3 : w24.cell? ⟨g0, 3, none⟩ = some (.int .i64 0) := (blk_cell K0.out 3).trans rfl; have hcz25_4 : w24.cell? ⟨g0, 4, none⟩ = some (.int .i64 0) := (blk_cell K0.out 4).trans rfl; have hfz25_0 := blk_frozen K0.out 0; have hfz25_1 := blk_frozen K0.out 1; have hfz25_2 := blk_frozen K0.out 2; have hfz25_3 := blk_frozen K0.out 3; have hfz25_4 := blk_frozen K0.out 4))
         go_ret3
         exact ⟨by first | rfl | (simp [errW_none, errW_some] <;> rfl) | (simp [*, errW_none, errW_some] <;> rfl), by repeat (first | (with_reducible first | exact HB.out | apply below_alloc | apply pw_below_drewN | apply below_drew1 | refine below_set ?_ E0.out) | exact HB.out)⟩
        ·rw [if_neg c23] at H
         have c23b0 : decide (10 ≤ (wrap64 (a2 - ((rd_T91 l0 a1).f1)))) = false := decide_eq_false c23
         clear c23
         obtain ⟨ji26, hji26⟩ : ∃ j_ : Int, (mx 0 (wrap64 (((rd_T91 l0 a1).f0.f3) - ((rd_T91 l0 a1).f0.f2)))) = j_ := ⟨_, rfl⟩
         replace H : (some (ji26, true, 0)) = some (r1, r2, r3) := by first | (rw [hji26] at H; exact H) | (simp only [hji26] at H ⊢; exact H)
         have hji26_ : (if 0 < (wrap64 (((rd_T91 l0 a1).f0.f3) - ((rd_T91 l0 a1).f0.f2))) then (wrap64 (((rd_T91 l0 a1).f0.f3) - ((rd_T91 l0 a1).f0.f2))) else 0) = ji26 := hji26
         simp only [Option.some.injEq, Prod.mk.injEq] at H
         obtain ⟨rfl, rfl, rfl⟩ := H
         have p206 : 0 ≤ (a1 : Int) := of_decide_eq_true (by first | (with_reducible assumption) | assumption)
         have q206 : a1 < (l0.length : Int) := of_decide_eq_true (by first | (with_reducible assumption) | assumption)
         obtain ⟨ad206, e206, hx206_0, hx206_1, hx206_2, hx206_3, hx206_4⟩ := at_T91 HR0.out a1 p206 q206
         cases e206
         replace hx206_0 := (HB.out.cell (World.block_lt_of_cell? w _ hx206_0)).trans hx206_0
         replace hx206_1 := (HB.out.cell (World.block_lt_of_cell? w _ hx206_1)).trans hx206_1
         replace hx206_2 := (HB.out.cell (World.block_lt_of_cell? w _ hx206_2)).trans hx206_2
         replace hx206_3 := (HB.out.cell (World.block_lt_of_cell? w _ hx206_3)).trans hx206_3
         replace hx206_4 := (HB.out.cell (World.block_lt_of_cell? w _ hx206_4)).trans hx206_4
         replace p206 := eq_true p206
         replace q206 := eq_true q206
         go_wp2_with (first | ((with_reducible refine gate_dst (N := 9) rfl ?_); refine box_event ?hg (N := 9) ?hd (cs := #[.int .i64 0, .int .i64 0, .int .i64 0, .int .i64 0, .int .i64 0]) (t := 91) ?hr ?_; (case hd => rfl); (case hg => rfl); (case hr => first | (go_simp; done) | (go_simp; rfl)); intro g0 hg w27 hbox hb; have n0_ := Aside0.mk (below_step (by repeat (first | (with_reducible first | exact HB.out | apply below_alloc | apply pw_below_drewN | apply below_drew1) | exact HB.out)) hb); have n1_ := Aside0.mk (hbox); have n2_ := Aside0.mk ((by rw [hg]; exact (below_size (by repeat (first | (with_reducible first | exact HB.out | apply below_alloc | apply pw_below_drewN | apply below_drew1) | exact HB.out))) : w.heap.size ≤ g0)); have n3_ := Aside0.mk ((by rw [hg]; exact (below_size (by repeat (first | (with_reducible first | exact HB.out | apply below_alloc | apply pw_below_drewN | apply below_drew1) | exact HB.out))) : w.heap.size ≤ g0)); clear HB; have HB := n0_; have K0 := n1_; have G0 := n2_; have E0 := n3_; clear n0_ n1_ n2_ n3_; clear hb hbox hg; have hcz28_0 : w27.cell? ⟨g0, 0, none⟩ = some (.int .i64 0) := (blk_cell K0.out 0).trans rfl; have hcz28_1 : w27.cell? ⟨g0, 1, none⟩ = some (.int .i64 0) := (blk_cell K0.out 1).trans rfl; have hcz28_2 : w27.cell? ⟨g0, 2, none⟩ = some (.int .i64 0) := (blk_cell K0.out 2).trans rfl; have hcz28_3 : w27.cell? ⟨g0, 3, none⟩ = some (.int .i64 0) := (blk_cell K0.out 3).trans rfl; have hcz28_4 : w27.cell? ⟨g0, 4, none⟩ = some (.int .i64 0) := (blk_cell K0.out 4).trans rfl; have hfz28_0 := blk_frozen K0.out 0; have hfz28_1 := blk_frozen K0.out 1; have hfz28_2 := blk_frozen K0.out 2; have hfz28_3 := blk_frozen K0.out 3; have hfz28_4 := blk_frozen K0.out 4))
         go_ret3
         exact ⟨by first | rfl | (simp [errW_none, errW_some] <;> rfl) | (simp only [← hji26]; first | rfl | (simp [errW_none, errW_some] <;> rfl)) | (simp [*, errW_none, errW_some] <;> rfl), by repeat (first | (with_reducible first | exact HB.out | apply below_alloc | apply pw_below_drewN | apply below_drew1 | refine below_set ?_ E0.out) | exact HB.out)⟩
     ·rw [if_neg c16] at H
      exact absurd H (by simp)
    ·rw [if_neg c15] at H
     exact absurd H (by simp)

end Go.Proofs.Ytlapbhgkmmeeoaa.PSpares
end
section
/- Contracts: what calls of these functions of the program do, each as a plain function; written by a program of this session. -/
namespace Go.Proofs.Ytlapbhgkmmeeoaa.PSpares
open Go.RowKit Go.Proofs.YtlapbhgkmmeeoaaW.PrintWords Go.Proofs.YtlapbhgkmmeeoaaW.PrintLast Go.Proofs.YtlapbhgkmmeeoaaW.PrintMore
attribute [local go_sem] max2_int min2_int max_two min_two max_three min_three max_four min_four   -- for this text's walks alone
set_option linter.unusedVariables false
set_option linter.unusedSimpArgs false

/-! ### wharfageref10_Targets: function 9, by hand -/
def rgL (k : Nat) (l2 : List S53) (l4 : List S91) (a0 now : Int) : Nat → Option (List S70)
 | 0 => some []
 | i + 1 => (rgL k l2 l4 a0 now i).bind fun o => (wharfageref10_SpareOf.f k l4 (i : Int) now).bind fun s => some (o ++ tgOne a0 (i : Int) (rd_T53 l2 (i : Int)) s)
theorem rgL_mono (k : Nat) (l2 : List S53) (l4 : List S91) (a0 now : Int) : ∀ i, LeO (rgL k l2 l4 a0 now i) (rgL (k + 1) l2 l4 a0 now i)
 | 0 => LeO.refl _
 | i + 1 => LeO.bind (rgL_mono k l2 l4 a0 now i) (fun _ => LeO.bind (wharfageref10_SpareOf.mono _ _ _ _) (fun _ => LeO.refl _))
theorem rgL_len (k : Nat) (l2 : List S53) (l4 : List S91) (a0 now : Int) : ∀ i xs, rgL k l2 l4 a0 now i = some xs → xs.length ≤ i
 | 0, xs, h => by
  obtain rfl : [] = xs := Option.some.inj h
  exact Nat.le_refl _
 | i + 1, xs, h => by
  obtain ⟨o, h1, h⟩ := Option.bind_eq_some_iff.mp h
  obtain ⟨s, _, h⟩ := Option.bind_eq_some_iff.mp h
  obtain rfl := Option.some.inj h
  have h2 := rgL_len k l2 l4 a0 now i o h1
  have h3 : (tgOne a0 (i : Int) (rd_T53 l2 (i : Int)) s).length ≤ 1 := by unfold tgOne; split <;> simp
  rw [List.length_append]
  omega
theorem rgL_some (k : Nat) (l2 : List S53) (l4 : List S91) (a0 now : Int) (i : Nat) : ∀ d xs, rgL k l2 l4 a0 now (i + d) = some xs → ∃ ys, rgL k l2 l4 a0 now i = some ys
 | 0, xs, h => ⟨xs, h⟩
 | d + 1, xs, h => by
  obtain ⟨o, h1, h⟩ := Option.bind_eq_some_iff.mp h
  exact rgL_some k l2 l4 a0 now i d o h1
theorem rconf_j (k : Nat) (v : Int) (l : List S53) : wharfageref10_ConfMay.j0 k true v l ≠ some true := by
 intro h
 cases k with
 | zero => simp [wharfageref10_ConfMay.j0] at h
 | succ k =>
  simp only [wharfageref10_ConfMay.j0] at h
  first | (cases h; done) | (rw [if_pos rfl] at h; cases h)
theorem rconf_len {k : Nat} {v : Int} {l : List S53} (h : wharfageref10_ConfMay.f k v l = some true) : l.length ≤ 3 := by
 unfold wharfageref10_ConfMay.f at h
 by_cases h1 : v < 0
 ·rw [if_pos h1] at h; exact absurd h (rconf_j _ _ _)
 rw [if_neg h1] at h
 by_cases h2 : v > 1048576
 ·rw [if_pos h2] at h; exact absurd h (rconf_j _ _ _)
 rw [if_neg h2] at h
 by_cases h3 : (l.length : Int) > 3
 ·rw [decide_eq_true h3] at h; exact absurd h (rconf_j _ _ _)
 omega
theorem wharfageref10_spareMay.len {k : Nat} {a0 a1 a6 : Int} {l2 : List S53} {l3 : List S86} {l4 : List S91} {l5 : List S50} (h : wharfageref10_spareMay.f k a0 a1 l2 l3 l4 l5 a6 = some true) : l2.length ≤ 3 := by
 unfold wharfageref10_spareMay.f at h
 obtain ⟨t, h1, h⟩ := Option.bind_eq_some_iff.mp h
 cases t
 ·cases h
 ·exact rconf_len h1
def wharfageref10_Targets.f (k : Nat) (a0 a1 : Int) (l2 : List S53) (l3 : List S86) (l4 : List S91) (l5 : List S50) (a6 : Int) (now : Int) : Option (List S70 × Int) := (wharfageref10_spareMay.f k a0 a1 l2 l3 l4 l5 a6).bind fun m => if m = true then (wharfageref10_nowMay.f now).bind fun t => (if t = true then (rgL k l2 l4 a0 now l2.length).bind fun r => some (r, 0) else some ([], 1700)) else some ([], 1700)
theorem wharfageref10_Targets.mono : ∀ a0 a1 l2 l3 l4 l5 a6 now k, LeO (wharfageref10_Targets.f k a0 a1 l2 l3 l4 l5 a6 now) (wharfageref10_Targets.f (k + 1) a0 a1 l2 l3 l4 l5 a6 now) := by
 intro a0 a1 l2 l3 l4 l5 a6 now k
 unfold wharfageref10_Targets.f
 refine LeO.bind (wharfageref10_spareMay.mono _ _ _ _ _ _ _ _) (fun t => ?_)
 split
 ·refine LeO.bind (LeO.refl _) (fun t => ?_)
  split
  ·exact LeO.bind (rgL_mono _ _ _ _ _ _) (fun _ => LeO.refl _)
  ·exact LeO.refl _
 ·exact LeO.refl _
theorem wharfageref10_Targets.info : (Try.prog.info? 70).map (fun i => (i.zero, i.size, i.bytes)) = some (some (.agg #[(.int .i64 0), (.int .i64 0)]), 2, 16) := by kernel_rfl
theorem wharfageref10_Targets.hide {P : Program} {c : Code} {Q : Exit → Act → World → Prop} {a : Act} {w : World} (R : World → Prop) (h : R w) (k : ∀ w', R w' → c.wp P Q a w') : c.wp P Q a w := k w h
set_option maxHeartbeats 8000000 in
set_option maxRecDepth 100000 in
theorem wharfageref10_Targets.calls (k : Nat) (a0 a1 : Int) (A2 : Option Addr) (c2 : Nat) (l2 : List S53) (A3 : Option Addr) (c3 : Nat) (l3 : List S86) (A4 : Option Addr) (c4 : Nat) (l4 : List S91) (A5 : Option Addr) (c5 : Nat) (l5 : List S50) (a6 : Int) (now : Int) (r1 : List S70) (r2 : Int) (w : World) (hr2 : Kd.C k53 w A2 l2.length l2) (hc2 : l2.length ≤ c2) (hr3 : Kd.C k86 w A3 l3.length l3) (hc3 : l3.length ≤ c3) (hr4 : Kd.C k91 w A4 l4.length l4) (hc4 : l4.length ≤ c4) (hr5 : Kd.C k50 w A5 l5.length l5) (hc5 : l5.length ≤ c5) (h : wharfageref10_Targets.f k a0 a1 l2 l3 l4 l5 a6 now = some (r1, r2)) :
  Calls Try.prog 9 #[.agg #[.int .i64 a0, .int .i64 a1, .slice A2 l2.length c2, .slice A3 l3.length c3, .slice A4 l4.length c4, .slice A5 l5.length c5, .int .i64 a6], .int .i64 now] w fun e w' => ∃ v0_ : Value, e = .returned (.tuple #[v0_, .int .i64 r2]) ∧ Kd.R k70 70 w' w.heap.size (fun _ => True) v0_ r1 ∧ Below w.heap.size w w' := by
 have hb : Below w.heap.size w (w.alloc (Obj.cells #[.int .i64 a0, .int .i64 a1, .slice A2 l2.length c2, .slice A3 l3.length c3, .slice A4 l4.length c4, .slice A5 l5.length c5, .int .i64 a6] 29)) := below_alloc (Below.refl _ _) _
 have HN := Aside0.mk (show NodeAt (w.alloc (Obj.cells #[.int .i64 a0, .int .i64 a1, .slice A2 l2.length c2, .slice A3 l3.length c3, .slice A4 l4.length c4, .slice A5 l5.length c5, .int .i64 a6] 29)) w.heap.size a0 a1 A2 c2 l2 A3 c3 l3 A4 c4 l4 A5 c5 l5 a6 from ⟨blk_new _ _, Kd.C_below hr2 hb, hc2, Kd.C_below hr3 hb, hc3, Kd.C_below hr4 hb, hc4, Kd.C_below hr5 hb, hc5⟩)
 have x0 : (w.alloc (Obj.cells #[.int .i64 a0, .int .i64 a1, .slice A2 l2.length c2, .slice A3 l3.length c3, .slice A4 l4.length c4, .slice A5 l5.length c5, .int .i64 a6] 29)).cell? ⟨w.heap.size, 0, none⟩ = some (.int .i64 a0) := by simp
 have x1 : (w.alloc (Obj.cells #[.int .i64 a0, .int .i64 a1, .slice A2 l2.length c2, .slice A3 l3.length c3, .slice A4 l4.length c4, .slice A5 l5.length c5, .int .i64 a6] 29)).cell? ⟨w.heap.size, 1, none⟩ = some (.int .i64 a1) := by simp
 have x2 : (w.alloc (Obj.cells #[.int .i64 a0, .int .i64 a1, .slice A2 l2.length c2, .slice A3 l3.length c3, .slice A4 l4.length c4, .slice A5 l5.length c5, .int .i64 a6] 29)).cell? ⟨w.heap.size, 2, none⟩ = some (.slice A2 l2.length c2) := by simp
 have x3 : (w.alloc (Obj.cells #[.int .i64 a0, .int .i64 a1, .slice A2 l2.length c2, .slice A3 l3.length c3, .slice A4 l4.length c4, .slice A5 l5.length c5, .int .i64 a6] 29)).cell? ⟨w.heap.size, 3, none⟩ = some (.slice A3 l3.length c3) := by simp
 have x4 : (w.alloc (Obj.cells #[.int .i64 a0, .int .i64 a1, .slice A2 l2.length c2, .slice A3 l3.length c3, .slice A4 l4.length c4, .slice A5 l5.length c5, .int .i64 a6] 29)).cell? ⟨w.heap.size, 4, none⟩ = some (.slice A4 l4.length c4) := by simp
 have x5 : (w.alloc (Obj.cells #[.int .i64 a0, .int .i64 a1, .slice A2 l2.length c2, .slice A3 l3.length c3, .slice A4 l4.length c4, .slice A5 l5.length c5, .int .i64 a6] 29)).cell? ⟨w.heap.size, 5, none⟩ = some (.slice A5 l5.length c5) := by simp
 have x6 : (w.alloc (Obj.cells #[.int .i64 a0, .int .i64 a1, .slice A2 l2.length c2, .slice A3 l3.length c3, .slice A4 l4.length c4, .slice A5 l5.length c5, .int .i64 a6] 29)).cell? ⟨w.heap.size, 6, none⟩ = some (.int .i64 a6) := by simp
 have HB := Aside0.mk hb
 have hu := Try.underlying53
 clear hb hr2 hc2 hr3 hc3 hr4 hc4 hr5 hc5
 obtain ⟨m, hm, h⟩ := Option.bind_eq_some_iff.mp h
 replace hm := Aside0.mk hm
 cases m
 ·obtain ⟨rfl, rfl⟩ : [] = r1 ∧ 1700 = r2 := by simpa using h
  clear h
  go_enter Try.func9, Try.ntmps9
  go_wp2_with (go_at_call 20; refine (wharfageref10_spareMay.calls k a0 a1 _ _ _ _ _ _ _ _ _ _ _ _ a6 false _ HN.out.r2 HN.out.q2 HN.out.r3 HN.out.q3 HN.out.r4 HN.out.q4 HN.out.r5 HN.out.q5 hm.out).mono ?_; rintro e w1 ⟨rfl, hb⟩; replace x0 := pw_cell_below hb x0; replace x1 := pw_cell_below hb x1; replace x2 := pw_cell_below hb x2; replace x3 := pw_cell_below hb x3; replace x4 := pw_cell_below hb x4; replace x5 := pw_cell_below hb x5; replace x6 := pw_cell_below hb x6; replace HN := Aside0.mk (HN.out.below hb); replace HB := Aside0.mk (below_step HB.out hb); clear hb)
  go_ret2
  exact ⟨_, rfl, Kd.R_nil _ _ _ _ _, HB.out⟩
 ·rw [if_pos rfl] at h
  have HL3 := Aside0.mk (wharfageref10_spareMay.len hm.out)
  obtain ⟨t, ht, h⟩ := Option.bind_eq_some_iff.mp h
  replace ht := Aside0.mk ht
  cases t
  ·obtain ⟨rfl, rfl⟩ : [] = r1 ∧ 1700 = r2 := by simpa using h
   clear h
   go_enter Try.func9, Try.ntmps9
   go_wp2_with (first | (go_at_call 20; refine (wharfageref10_spareMay.calls k a0 a1 _ _ _ _ _ _ _ _ _ _ _ _ a6 true _ HN.out.r2 HN.out.q2 HN.out.r3 HN.out.q3 HN.out.r4 HN.out.q4 HN.out.r5 HN.out.q5 hm.out).mono ?_; rintro e w1 ⟨rfl, hb⟩; replace x0 := pw_cell_below hb x0; replace x1 := pw_cell_below hb x1; replace x2 := pw_cell_below hb x2; replace x3 := pw_cell_below hb x3; replace x4 := pw_cell_below hb x4; replace x5 := pw_cell_below hb x5; replace x6 := pw_cell_below hb x6; replace HN := Aside0.mk (HN.out.below hb); replace HB := Aside0.mk (below_step HB.out hb); clear hb) | (go_at_call 26; refine (wharfageref10_nowMay.calls now false _ ht.out).mono ?_; rintro e w2 ⟨rfl, hn⟩; have hb := Go.Proofs.Ytlapbhgkmmeeoaa.Hand.hk_drawn hn; clear hn; replace x0 := pw_cell_below hb x0; replace x1 := pw_cell_below hb x1; replace x2 := pw_cell_below hb x2; replace x3 := pw_cell_below hb x3; replace x4 := pw_cell_below hb x4; replace x5 := pw_cell_below hb x5; replace x6 := pw_cell_below hb x6; replace HN := Aside0.mk (HN.out.below hb); replace HB := Aside0.mk (below_step HB.out hb); clear hb))
   go_ret2
   exact ⟨_, rfl, Kd.R_nil _ _ _ _ _, HB.out⟩
  ·rw [if_pos rfl] at h
   obtain ⟨rr, hr, h⟩ := Option.bind_eq_some_iff.mp h
   obtain ⟨rfl, rfl⟩ : rr = r1 ∧ 0 = r2 := by simpa using h
   have HRR := Aside0.mk hr
   clear h hr
   go_enter Try.func9, Try.ntmps9
   go_wp2_with (first | (go_at_call 20; refine (wharfageref10_spareMay.calls k a0 a1 _ _ _ _ _ _ _ _ _ _ _ _ a6 true _ HN.out.r2 HN.out.q2 HN.out.r3 HN.out.q3 HN.out.r4 HN.out.q4 HN.out.r5 HN.out.q5 hm.out).mono ?_; rintro e w1 ⟨rfl, hb⟩; replace x0 := pw_cell_below hb x0; replace x1 := pw_cell_below hb x1; replace x2 := pw_cell_below hb x2; replace x3 := pw_cell_below hb x3; replace x4 := pw_cell_below hb x4; replace x5 := pw_cell_below hb x5; replace x6 := pw_cell_below hb x6; replace HN := Aside0.mk (HN.out.below hb); replace HB := Aside0.mk (below_step HB.out hb); clear hb) | (go_at_call 26; refine (wharfageref10_nowMay.calls now true _ ht.out).mono ?_; rintro e w2 ⟨rfl, hn⟩; have hb := Go.Proofs.Ytlapbhgkmmeeoaa.Hand.hk_drawn hn; clear hn; replace x0 := pw_cell_below hb x0; replace x1 := pw_cell_below hb x1; replace x2 := pw_cell_below hb x2; replace x3 := pw_cell_below hb x3; replace x4 := pw_cell_below hb x4; replace x5 := pw_cell_below hb x5; replace x6 := pw_cell_below hb x6; replace HN := Aside0.mk (HN.out.below hb); replace HB := Aside0.mk (below_step HB.out hb); clear hb))
   obtain ⟨wl, hwl⟩ : ∃ wl, wl = w2 := ⟨_, rfl⟩
   subst hwl
   have HBS := Aside0.mk (below_size HB.out)
   go_loopg [6, 7] (l2.length + 1) (fun kq v6 v7 w' => ∃ (i : Nat) (xs : List S70), v7 = .int .i64 (i : Int) ∧ Aside0 (i ≤ l2.length ∧ (kq : Int) + i = l2.length + 1) ∧ Aside0 (rgL k l2 l4 a0 now i = some xs) ∧ Aside0 (Kd.R k70 70 w' wl.heap.size (fun _ => True) v6 xs) ∧ Aside0 (Below wl.heap.size wl w'))
   case atStart => exact ⟨0, [], rfl, ⟨by omega⟩, ⟨rfl⟩, ⟨Kd.R_nil _ _ _ _ _⟩, ⟨Below.refl _ _⟩⟩
   case round =>
    obtain ⟨i, xs, rfl, HX, HT, HO, HBW⟩ := hrel
    cases gk with
    | zero => have := HX.out; omega
    | succ k1 =>
     have m1 := pw_cell_below HBW.out x2
     by_cases c3 : (i : Int) < (l2.length : Int)
     ·have c3b := decide_eq_true c3
      have p1 : (0 : Int) ≤ (i : Int) := by omega
      have p1b := decide_eq_true p1
      obtain ⟨ad, A9, c9, ea, hx0, hx1, hx2, hx3, _, _⟩ := at_T53 (HN.out.below HBW.out).r2 (i : Int) p1 c3
      cases ea
      obtain ⟨x, hx⟩ : ∃ x, rd_T53 l2 (i : Int) = x := ⟨_, rfl⟩
      rw [hx] at hx0 hx1 hx2 hx3
      rw [Int.toNat_natCast] at hx0 hx1 hx2 hx3
      obtain ⟨ys, hy⟩ := rgL_some k l2 l4 a0 now (i + 1) (l2.length - (i + 1)) rr (by rw [show i + 1 + (l2.length - (i + 1)) = l2.length by omega]; exact HRR.out)
      obtain ⟨o, ho, hy⟩ := Option.bind_eq_some_iff.mp hy
      obtain rfl : xs = o := Option.some.inj (HT.out.symm.trans ho)
      obtain ⟨⟨sr, st, se⟩, hsp, hy⟩ := Option.bind_eq_some_iff.mp hy
      have HSP := Aside0.mk hsp
      have HS1 := Aside0.mk (show rgL k l2 l4 a0 now (i + 1) = some (xs ++ tgOne a0 (i : Int) x (sr, st, se)) by show ((rgL k l2 l4 a0 now i).bind fun o => _) = _; rw [HT.out, Option.bind_some, hsp, Option.bind_some, hx])
      have HLX := Aside0.mk (show xs.length ≤ 3 by have h1 := rgL_len k l2 l4 a0 now i xs HT.out; have h2 := HL3.out; omega)
      have c3' := eq_true c3
      have p1' := eq_true p1
      clear ho hy hsp hx
      go_upto_region 8 with ((with_reducible refine gate_dst (N := 8) rfl ?_); refine box_event ?hg (N := 8) ?hd (cs := #[.int .i64 0, .bool false, .int .i64 0, .slice none 0 0]) (t := 53) ?hr ?_; (case hd => rfl); (case hg => rfl); (case hr => first | (go_simp; done) | (go_simp; rfl)); intro gs hg w3 hbox hb; have HW := Aside0.mk hb; have G := Aside0.mk (Nat.le_of_eq hg.symm : wr.heap.size ≤ gs); have Zb := Aside0.mk hbox; clear hb hbox hg; have z0 : w3.cell? ⟨gs, 0, none⟩ = some (.int .i64 0) := (blk_cell Zb.out 0).trans rfl; have y0 := blk_frozen Zb.out 0; have z1 : w3.cell? ⟨gs, 1, none⟩ = some (.bool false) := (blk_cell Zb.out 1).trans rfl; have y1 := blk_frozen Zb.out 1; have z2 : w3.cell? ⟨gs, 2, none⟩ = some (.int .i64 0) := (blk_cell Zb.out 2).trans rfl; have y2 := blk_frozen Zb.out 2; have z3 : w3.cell? ⟨gs, 3, none⟩ = some (.slice none 0 0) := (blk_cell Zb.out 3).trans rfl; have y3 := blk_frozen Zb.out 3; skip)
      refine wharfageref10_Targets.hide (fun W => Below wr.heap.size wr W ∧ W.heap[gs]? = some (.cells #[.int .i64 x.f0, .bool x.f1, .int .i64 x.f2, .slice A9 x.f3.length c9] 53 (0, 0))) ⟨by with_reducible repeat (first | exact HW.out | refine below_set ?_ G.out), by refine blk_put (cs := #[.int .i64 x.f0, .bool x.f1, .int .i64 x.f2, .slice none 0 0]) ?_ 3 _ rfl; refine blk_put (cs := #[.int .i64 x.f0, .bool x.f1, .int .i64 0, .slice none 0 0]) ?_ 2 _ rfl; refine blk_put (cs := #[.int .i64 x.f0, .bool false, .int .i64 0, .slice none 0 0]) ?_ 1 _ rfl; refine blk_put (cs := #[.int .i64 0, .bool false, .int .i64 0, .slice none 0 0]) ?_ 0 _ rfl; exact Zb.out⟩ ?_
      intro w4 ⟨hb, hz⟩
      have b0 : w4.cell? ⟨gs, 0, none⟩ = some (.int .i64 x.f0) := (blk_cell hz 0).trans rfl
      have b1 : w4.cell? ⟨gs, 1, none⟩ = some (.bool x.f1) := (blk_cell hz 1).trans rfl
      replace HO := Aside0.mk (Kd.R_below HO.out hb)
      replace HBW := Aside0.mk (below_step HBW.out hb)
      have HM := Aside0.mk (HN.out.below HBW.out)
      have m0 := pw_cell_below HBW.out x0
      have m4 := pw_cell_below HBW.out x4
      clear hb hz HW G Zb z0 y0 z1 y1 z2 y2 z3 y3 hx0 hx1 hx2 hx3
      go_upto_region 9 with (go_at_call 27; refine (wharfageref10_SpareOf.calls k _ _ l4 (i : Int) now sr st se _ HM.out.r4 HM.out.q4 HSP.out).mono ?_; rintro e w5 ⟨rfl, hb⟩; replace m0 := pw_cell_below hb m0; replace b0 := pw_cell_below hb b0; replace b1 := pw_cell_below hb b1; replace HO := Aside0.mk (Kd.R_below HO.out hb); replace HBW := Aside0.mk (below_step HBW.out hb); clear hb m4)
      by_cases c1 : (i : Int) = a0
      ·have e1 : ((i : Int) == a0) = true := beq_iff_eq.2 c1
       have e2 : ((i : Int) != a0) = false := bne_eq_false_iff_eq.2 c1
       have e3 : decide ((i : Int) = a0) = true := decide_eq_true c1
       have HC := Aside0.mk c1
       clear c1
       have HE := Aside0.mk (show rgL k l2 l4 a0 now (i + 1) = some xs by rw [HS1.out]; unfold tgOne; rw [if_neg (fun q => q.1 HC.out), List.append_nil])
       go_wp2_with fail
       go_roundg k1
       case measure => have := HX.out; omega
       case rel =>
        have h1 := HX.out
        have h3 := HL3.out
        exact ⟨i + 1, _, by rw [show wrap64 ((i : Int) + 1) = ((i + 1 : Nat) : Int) by unfold wrap64; omega], ⟨by omega⟩, HE, HO, HBW⟩
      ·have e1 : ((i : Int) == a0) = false := beq_eq_false_iff_ne.2 c1
       have e2 : ((i : Int) != a0) = true := bne_iff_ne.2 c1
       have e3 : decide ((i : Int) = a0) = false := decide_eq_false c1
       have HC1 := Aside0.mk c1
       clear c1
       obtain ⟨d, hd⟩ : ∃ d, x.f1 = d := ⟨_, rfl⟩
       rw [hd] at b1
       replace hd := Aside0.mk hd
       cases d
       ·have HC2 := hd
        by_cases c3 : 0 < x.f0
        ·have e5 : decide (0 < x.f0) = true := decide_eq_true c3
         have HC3 := Aside0.mk c3
         clear c3
         cases st
         ·skip
          have HE := Aside0.mk (show rgL k l2 l4 a0 now (i + 1) = some xs by rw [HS1.out]; unfold tgOne; rw [if_neg (fun q => Bool.false_ne_true q.2.2.2.1), List.append_nil])
          go_wp2_with fail
          go_roundg k1
          case measure => have := HX.out; omega
          case rel =>
           have h1 := HX.out
           have h3 := HL3.out
           exact ⟨i + 1, _, by rw [show wrap64 ((i : Int) + 1) = ((i + 1 : Nat) : Int) by unfold wrap64; omega], ⟨by omega⟩, HE, HO, HBW⟩
         ·skip
          by_cases c5 : 0 < sr
          ·have e6 : decide (0 < sr) = true := decide_eq_true c5
           have HC5 := Aside0.mk c5
           clear c5
           have HE := Aside0.mk (show rgL k l2 l4 a0 now (i + 1) = some (xs ++ [⟨(i : Int), mn sr 16⟩]) by rw [HS1.out]; unfold tgOne; rw [if_pos ⟨HC1.out, HC2.out, HC3.out, rfl, HC5.out⟩])
           go_wp2_with ((with_reducible refine gate_builtin (b := .append) (xs := #[.tmp 64, .tmp 69]) rfl ?_); at_builtin; refine Kd.R_append k70 (w0 := wl) wl.heap.size rfl (.tmp 64) (.tmp 69) 36 70 (.agg #[(.int .i64 0), (.int .i64 0)]) 16 rfl Try.underlying36 wharfageref10_Targets.info rfl (by decide) (by omega) u6 xs ⟨(i : Int), mn sr 16⟩ [.int .i64 (i : Int), .int .i64 (mn sr 16)] (fun _ => True) (fun _ => False) rfl rfl ?aP (fun _ hk => hk.elim) ?aF ?aO ?aB ?aS ?aL ?_; (case aP => exact k70_mkM _ _ _ (⟨(i : Int), mn sr 16⟩ : S70)); (case aB => exact HBW.out); (case aF => exact (fun _ _ => trivial)); (case aO => exact HO.out); (case aS => exact below_size HBW.out); (case aL => have := HLX.out; omega); intro vN wN ho hb hg hat; replace HBW := Aside0.mk hb; replace HO := Aside0.mk ho; clear ho hb hg hat)
           all_goals
            go_roundg k1
            case measure => have := HX.out; omega
            case rel =>
             have h1 := HX.out
             have h3 := HL3.out
             exact ⟨i + 1, _, by rw [show wrap64 ((i : Int) + 1) = ((i + 1 : Nat) : Int) by unfold wrap64; omega], ⟨by omega⟩, HE, HO, HBW⟩
          ·have e6 : decide (0 < sr) = false := decide_eq_false c5
           have HC5 := Aside0.mk c5
           clear c5
           have HE := Aside0.mk (show rgL k l2 l4 a0 now (i + 1) = some xs by rw [HS1.out]; unfold tgOne; rw [if_neg (fun q => HC5.out q.2.2.2.2), List.append_nil])
           go_wp2_with fail
           go_roundg k1
           case measure => have := HX.out; omega
           case rel =>
            have h1 := HX.out
            have h3 := HL3.out
            exact ⟨i + 1, _, by rw [show wrap64 ((i : Int) + 1) = ((i + 1 : Nat) : Int) by unfold wrap64; omega], ⟨by omega⟩, HE, HO, HBW⟩
        ·have e5 : decide (0 < x.f0) = false := decide_eq_false c3
         have HC3 := Aside0.mk c3
         clear c3
         have HE := Aside0.mk (show rgL k l2 l4 a0 now (i + 1) = some xs by rw [HS1.out]; unfold tgOne; rw [if_neg (fun q => HC3.out q.2.2.1), List.append_nil])
         go_wp2_with fail
         go_roundg k1
         case measure => have := HX.out; omega
         case rel =>
          have h1 := HX.out
          have h3 := HL3.out
          exact ⟨i + 1, _, by rw [show wrap64 ((i : Int) + 1) = ((i + 1 : Nat) : Int) by unfold wrap64; omega], ⟨by omega⟩, HE, HO, HBW⟩
       ·skip
        have HE := Aside0.mk (show rgL k l2 l4 a0 now (i + 1) = some xs by rw [HS1.out]; unfold tgOne; rw [if_neg (fun q => by have h9 := q.2.1; rw [hd.out] at h9; cases h9), List.append_nil])
        go_wp2_with fail
        go_roundg k1
        case measure => have := HX.out; omega
        case rel =>
         have h1 := HX.out
         have h3 := HL3.out
         exact ⟨i + 1, _, by rw [show wrap64 ((i : Int) + 1) = ((i + 1 : Nat) : Int) by unfold wrap64; omega], ⟨by omega⟩, HE, HO, HBW⟩
     ·have c3b := decide_eq_false c3
      obtain rfl : i = l2.length := by have := HX.out; omega
      obtain rfl : rr = xs := Option.some.inj (HRR.out.symm.trans HT.out)
      go_wp2_with fail
      go_ret2
      exact ⟨_, rfl, Kd.R_lower HO.out HBS.out, below_step HB.out HBW.out⟩


end Go.Proofs.Ytlapbhgkmmeeoaa.PSpares
end
section
/- Contracts: what calls of these functions of the program do, each as a plain function; written by a program of this session. -/
namespace Go.Proofs.Ytlapbhgkmmeeoaa.PSpares
open Go.RowKit Go.Proofs.YtlapbhgkmmeeoaaW.PrintWords Go.Proofs.YtlapbhgkmmeeoaaW.PrintLast Go.Proofs.YtlapbhgkmmeeoaaW.PrintMore
attribute [local go_sem] max2_int min2_int max_two min_two max_three min_three max_four min_four   -- for this text's walks alone
set_option linter.unusedVariables false
set_option linter.unusedSimpArgs false

theorem eqA70 (d : Nat) (w : World) (x0 y0 : Int) (x1 y1 : Int) :
  (Op.equalIn (d + 2) 70 (.agg #[.int .i64 x0, .int .i64 x1]) (.agg #[.int .i64 y0, .int .i64 y1])).run Try.prog w = .ok (x0 == y0 && (x1 == y1)) w := by
 refine eqA_of Try.underlying70 (by kernel_rfl) ?_
 refine eqf_cons (by rfl) (by go_simp; rfl) (by go_simp; rfl) (by go_simp) ?_
 exact eqf_last (by rfl) (by go_simp; rfl) (by go_simp; rfl) (by go_simp)
end Go.Proofs.Ytlapbhgkmmeeoaa.PSpares
end
section
/- Contracts: what calls of these functions of the program do, each as a plain function; written by a program of this session. -/
namespace Go.Proofs.Ytlapbhgkmmeeoaa.PSpares
open Go.RowKit Go.Proofs.YtlapbhgkmmeeoaaW.PrintWords Go.Proofs.YtlapbhgkmmeeoaaW.PrintLast Go.Proofs.YtlapbhgkmmeeoaaW.PrintMore
attribute [local go_sem] max2_int min2_int max_two min_two max_three min_three max_four min_four   -- for this text's walks alone
set_option linter.unusedVariables false
set_option linter.unusedSimpArgs false

attribute [local go_sem high] eqA70
/-! ### wharfagelaw0_Num: function 10 -/
def wharfagelaw0_Num.f (a0 : Int) : Option (Int) := some a0
set_option maxHeartbeats 8000000 in
set_option maxRecDepth 100000 in
theorem wharfagelaw0_Num.calls (a0 : Int) (r : Int) (w : World) (h : wharfagelaw0_Num.f a0 = some r) :
  Calls Try.prog 10 #[.int .i64 a0] w fun e w' => e = .returned (.int .i64 r) ∧ Drawn0 w w' := by
 have H : (some a0) = some r := h
 clear h
 obtain rfl := Option.some.inj H
 go_enter Try.func10, Try.ntmps10
 go_wp2
 go_ret
 exact ⟨by first | rfl | (simp; done) | (simp [*]; done), by repeat (first | exact Drawn0.refl _ | apply Drawn0.step)⟩

/-! ### wharfagelaw0_SameCandidates: function 11 -/
def wharfagelaw0_SameCandidates.l0 : Nat → List (S70) → List (S70) → Int → Option (Bool)
 | 0, _, _, _ => none
 | k + 1, x0, x1, x5 => if x5 < (x0.length : Int) then (if 0 ≤ x5 then (if x5 < (x1.length : Int) then (if (!(((rd_T70 x0 x5).f0) == ((rd_T70 x1 x5).f0)) || (!(((rd_T70 x0 x5).f1) == ((rd_T70 x1 x5).f1)))) = true then (none) else (wharfagelaw0_SameCandidates.l0 k x0 x1 (wrap64 (x5 + 1)))) else (none)) else (none)) else (some true)
def wharfagelaw0_SameCandidates.f (k : Nat) (l0 : List (S70)) (l1 : List (S70)) : Option (Bool) := if (l0.length : Int) = (l1.length : Int) then (wharfagelaw0_SameCandidates.l0 k l0 l1 0) else (none)
theorem wharfagelaw0_SameCandidates.mono_l : ∀ k, (∀ y0 y1 y2, LeO (wharfagelaw0_SameCandidates.l0 k y0 y1 y2) (wharfagelaw0_SameCandidates.l0 (k + 1) y0 y1 y2))
 | 0 => fun _ _ _ r h => by simp [wharfagelaw0_SameCandidates.l0] at h
 | k + 1 => by
  have ih0 := wharfagelaw0_SameCandidates.mono_l k
  ·intro y0 y1 y2
   unfold wharfagelaw0_SameCandidates.l0
   repeat' first
   | (with_reducible exact ih0 _ _ _)
   | (with_reducible exact LeO.refl _)
   | (with_reducible exact LeO.none _)
   | (with_reducible refine LeO.ite ?_ ?_)
   | (with_reducible refine LeO.bind ?_ (fun _ => ?_))
   | exact ih0 _ _ _
   | exact LeO.none _
   | refine LeO.ite ?_ ?_
   | refine LeO.bind ?_ (fun _ => ?_)
theorem wharfagelaw0_SameCandidates.mono : ∀ a0 a1 k, LeO (wharfagelaw0_SameCandidates.f k a0 a1) (wharfagelaw0_SameCandidates.f (k + 1) a0 a1) := by
 intro a0 a1 k
 have ih0 := wharfagelaw0_SameCandidates.mono_l k
 unfold wharfagelaw0_SameCandidates.f
 repeat' first
   | (with_reducible exact ih0 _ _ _)
   | (with_reducible exact LeO.refl _)
   | (with_reducible exact LeO.none _)
   | (with_reducible refine LeO.ite ?_ ?_)
   | (with_reducible refine LeO.bind ?_ (fun _ => ?_))
   | exact ih0 _ _ _
   | exact LeO.none _
   | refine LeO.ite ?_ ?_
   | refine LeO.bind ?_ (fun _ => ?_)
set_option maxHeartbeats 8000000 in
set_option maxRecDepth 100000 in
theorem wharfagelaw0_SameCandidates.calls (k : Nat) (A0 : Option Addr) (c0 : Nat) (l0 : List (S70)) (A1 : Option Addr) (c1 : Nat) (l1 : List (S70)) (r : Bool) (w : World) (hr0 : Kd.C k70 w A0 l0.length l0) (hc0 : l0.length ≤ c0) (hr1 : Kd.C k70 w A1 l1.length l1) (hc1 : l1.length ≤ c1) (h : wharfagelaw0_SameCandidates.f k l0 l1 = some r) :
  Calls Try.prog 11 #[.slice A0 l0.length c0, .slice A1 l1.length c1] w fun e w' => e = .returned (.bool r) ∧ Drawn0 w w' := by
 have hu70 := Try.underlying70
 have HR0 := Aside0.mk hr0
 have HC0 := Aside0.mk hc0
 clear hr0 hc0
 have HR1 := Aside0.mk hr1
 have HC1 := Aside0.mk hc1
 clear hr1 hc1
 have H : (if (l0.length : Int) = (l1.length : Int) then (wharfagelaw0_SameCandidates.l0 k l0 l1 0) else (none)) = some r := h
 clear h
 by_cases c3 : (l0.length : Int) = (l1.length : Int)
 ·rw [if_pos c3] at H
  have c3b0 : ((l0.length : Int) == (l1.length : Int)) = true := beq_iff_eq.mpr c3
  have c3b1 : ((l0.length : Int) != (l1.length : Int)) = false := bne_eq_false_iff_eq.mpr c3
  have c3b2 : (l0.length == l1.length) = true := by first | simpa using c3 | (simp at c3 ⊢; omega)
  clear c3
  have H' := Aside0.mk H
  clear H
  go_enter Try.func11, Try.ntmps11
  go_wp2
  repeat (go_quiet (fail); try go_wp2)
  go_loopg [5] k (fun kq v5 w' => ∃ (x5_1 : Int), v5 = .int .i64 x5_1 ∧ Aside0 (wharfagelaw0_SameCandidates.l0 kq l0 l1 x5_1 = some r) ∧ Aside0 (kq ≤ k) ∧ Drawn0 w w')
  case atStart => exact ⟨(0), (by first | rfl | (simp; done) | (simp [*]; done)), H', ⟨Nat.le_refl _⟩, by repeat (first | exact Drawn0.refl _ | apply Drawn0.step)⟩
  case round =>
   clear H'
   try clear c1
   try clear p2
   try clear c3
   try clear c3b0
   try clear c3b1
   try clear c3b2
   obtain ⟨x5_1, rfl, HA, HK1, ⟨m1, rfl⟩⟩ := hrel
   cases gk with
   | zero => exact absurd HA.out (by simp [wharfagelaw0_SameCandidates.l0])
   | succ k1 =>
    have H := HA.out
    clear HA
    simp only [wharfagelaw0_SameCandidates.l0] at H
    by_cases c4 : x5_1 < (l0.length : Int)
    ·rw [if_pos c4] at H
     have c4b0 : decide (x5_1 < (l0.length : Int)) = true := decide_eq_true c4
     clear c4
     by_cases c5 : 0 ≤ x5_1
     ·rw [if_pos c5] at H
      have c5b0 : decide (0 ≤ x5_1) = true := decide_eq_true c5
      clear c5
      by_cases c6 : x5_1 < (l1.length : Int)
      ·rw [if_pos c6] at H
       have c6b0 : decide (x5_1 < (l1.length : Int)) = true := decide_eq_true c6
       clear c6
       by_cases c7 : (!(((rd_T70 l0 x5_1).f0) == ((rd_T70 l1 x5_1).f0)) || (!(((rd_T70 l0 x5_1).f1) == ((rd_T70 l1 x5_1).f1)))) = true
       ·rw [if_pos c7] at H
        exact absurd H (by simp)
       ·rw [if_neg c7] at H
        have c7b0 : (!(((rd_T70 l0 x5_1).f0) == ((rd_T70 l1 x5_1).f0)) || (!(((rd_T70 l0 x5_1).f1) == ((rd_T70 l1 x5_1).f1)))) = false := by simpa using c7
        clear c7
        have H' := Aside0.mk H
        clear H
        have p208 : 0 ≤ (x5_1 : Int) := of_decide_eq_true (by first | (with_reducible assumption) | assumption)
        have q208 : x5_1 < (l0.length : Int) := of_decide_eq_true (by first | (with_reducible assumption) | assumption)
        obtain ⟨ad208, e208, hx208_0, hx208_1⟩ := at_T70 HR0.out x5_1 p208 q208
        cases e208
        replace p208 := eq_true p208
        replace q208 := eq_true q208
        have p209 : 0 ≤ (x5_1 : Int) := of_decide_eq_true (by first | (with_reducible assumption) | assumption)
        have q209 : x5_1 < (l1.length : Int) := of_decide_eq_true (by first | (with_reducible assumption) | assumption)
        obtain ⟨ad209, e209, hx209_0, hx209_1⟩ := at_T70 HR1.out x5_1 p209 q209
        cases e209
        replace p209 := eq_true p209
        replace q209 := eq_true q209
        go_wp2
        repeat (go_quiet (fail); try go_wp2)
        go_roundg k1
        case measure => have := HK1.out; omega
        case rel => exact ⟨(wrap64 (x5_1 + 1)), (by first | rfl | (simp; done) | (simp [*]; done)), H', ⟨by have := HK1.out; omega⟩, by repeat (first | exact Drawn0.refl _ | apply Drawn0.step)⟩
      ·rw [if_neg c6] at H
       exact absurd H (by simp)
     ·rw [if_neg c5] at H
      exact absurd H (by simp)
    ·rw [if_neg c4] at H
     have c4b0 : decide (x5_1 < (l0.length : Int)) = false := decide_eq_false c4
     clear c4
     obtain rfl := Option.some.inj H
     go_wp2
     repeat (go_quiet (fail); try go_wp2)
     go_ret
     exact ⟨by first | rfl | (simp; done) | (simp [*]; done), by repeat (first | exact Drawn0.refl _ | apply Drawn0.step)⟩
 ·rw [if_neg c3] at H
  exact absurd H (by simp)

end Go.Proofs.Ytlapbhgkmmeeoaa.PSpares
end
section
/- Contracts: what calls of these functions of the program do, each as a plain function; written by a program of this session. -/
namespace Go.Proofs.Ytlapbhgkmmeeoaa.PSpares
open Go.RowKit Go.Proofs.YtlapbhgkmmeeoaaW.PrintWords Go.Proofs.YtlapbhgkmmeeoaaW.PrintLast Go.Proofs.YtlapbhgkmmeeoaaW.PrintMore
attribute [local go_sem] max2_int min2_int max_two min_two max_three min_three max_four min_four   -- for this text's walks alone
set_option linter.unusedVariables false
set_option linter.unusedSimpArgs false

/-! ### wharfagelaw0_SpoilCandidates: function 12 -/
def wharfagelaw0_SpoilCandidates.l0 : Nat → List (S70) → Int → Option ((List (S70)))
 | 0, _, _ => none
 | k + 1, x0, x2 => if x2 < (x0.length : Int) then (if 0 ≤ x2 then (wharfagelaw0_SpoilCandidates.l0 k (x0.set (x2 : Int).toNat (⟨Go.bits .xor .i64 ((rd_T70 x0 x2).f0) 90, (rd_T70 x0 x2).f1⟩ : S70)) (wrap64 (x2 + 1))) else (none)) else (some x0)
def wharfagelaw0_SpoilCandidates.f (k : Nat) (l0 : List (S70)) : Option ((List (S70))) := wharfagelaw0_SpoilCandidates.l0 k l0 0
theorem wharfagelaw0_SpoilCandidates.mono_l : ∀ k, (∀ y0 y1, LeO (wharfagelaw0_SpoilCandidates.l0 k y0 y1) (wharfagelaw0_SpoilCandidates.l0 (k + 1) y0 y1))
 | 0 => fun _ _ r h => by simp [wharfagelaw0_SpoilCandidates.l0] at h
 | k + 1 => by
  have ih0 := wharfagelaw0_SpoilCandidates.mono_l k
  ·intro y0 y1
   unfold wharfagelaw0_SpoilCandidates.l0
   repeat' first
   | (with_reducible exact ih0 _ _)
   | (with_reducible exact LeO.refl _)
   | (with_reducible exact LeO.none _)
   | (with_reducible refine LeO.ite ?_ ?_)
   | (with_reducible refine LeO.bind ?_ (fun _ => ?_))
   | exact ih0 _ _
   | exact LeO.none _
   | refine LeO.ite ?_ ?_
   | refine LeO.bind ?_ (fun _ => ?_)
theorem wharfagelaw0_SpoilCandidates.mono : ∀ a0 k, LeO (wharfagelaw0_SpoilCandidates.f k a0) (wharfagelaw0_SpoilCandidates.f (k + 1) a0) := by
 intro a0 k
 have ih0 := wharfagelaw0_SpoilCandidates.mono_l k
 unfold wharfagelaw0_SpoilCandidates.f
 repeat' first
   | (with_reducible exact ih0 _ _)
   | (with_reducible exact LeO.refl _)
   | (with_reducible exact LeO.none _)
   | (with_reducible refine LeO.ite ?_ ?_)
   | (with_reducible refine LeO.bind ?_ (fun _ => ?_))
   | exact ih0 _ _
   | exact LeO.none _
   | refine LeO.ite ?_ ?_
   | refine LeO.bind ?_ (fun _ => ?_)
set_option maxHeartbeats 8000000 in
set_option maxRecDepth 100000 in
theorem wharfagelaw0_SpoilCandidates.calls (k : Nat) (P0_ : Nat → Prop) (u9000_ : Value) (l0 : List (S70)) (r : List (S70)) (w0 w : World) (hB : Below w0.heap.size w0 w) (ho0 : Kd.R k70 70 w w0.heap.size P0_ u9000_ l0) (h : wharfagelaw0_SpoilCandidates.f k l0 = some r) :
  Calls Try.prog 12 #[u9000_] w fun e w' => e = .returned (.tuple #[]) ∧ Kd.R k70 70 w' w0.heap.size (fun k_ => (P0_ k_ ∨ w.heap.size ≤ k_)) u9000_ r ∧ Below w0.heap.size w0 w' ∧ Kept w w' (fun k_ => P0_ k_) := by
 have O0 := Aside0.mk (show Kd.R k70 70 w w0.heap.size (fun k_ => (P0_ k_ ∨ w.heap.size ≤ k_)) u9000_ l0 from Kd.R_mono ho0 (fun k_ hk => (.inl hk)))
 have HK := Aside0.mk (Kept.refl w (fun k_ => P0_ k_))
 have HW0 := Aside0.mk hB.size
 have HB := Aside0.mk hB
 clear hB
 have H : (wharfagelaw0_SpoilCandidates.l0 k l0 0) = some r := h
 clear h
 have H' := Aside0.mk H
 clear H
 go_enter Try.func12, Try.ntmps12
 go_wp2
 go_loopg [2] k (fun kq v2 w' => ∃ (x0_1 : List (S70)) (x2_1 : Int), v2 = .int .i64 x2_1 ∧ Aside0 (wharfagelaw0_SpoilCandidates.l0 kq x0_1 x2_1 = some r) ∧ Aside0 (kq ≤ k) ∧ Aside0 (Kd.R k70 70 w' w0.heap.size (fun k_ => (P0_ k_ ∨ w.heap.size ≤ k_)) u9000_ x0_1) ∧ Aside0 (Kept w w' (fun k_ => P0_ k_)) ∧ Aside0 (Below w0.heap.size w0 w'))
 case atStart => exact ⟨(l0), (0), (by first | rfl | (simp; done) | (simp [*]; done)), H', ⟨Nat.le_refl _⟩, ⟨by (with_reducible repeat (first | apply Kd.R_alloc | apply Kd.R_drewN | apply Kd.R_drew)); exact O0.out⟩, ⟨by repeat (first | (with_reducible first | exact HK.out | apply Kept.alloc | apply Kept.drewN | apply Kept.drew) | exact HK.out)⟩, ⟨by repeat (first | (with_reducible first | exact HB.out | apply below_alloc | apply pw_below_drewN | apply below_drew1) | exact HB.out)⟩⟩
 case round =>
  clear H'
  try clear c1
  obtain ⟨x0_1, x2_1, rfl, HA, HK1, HO_0, HK, HB⟩ := hrel
  cases gk with
  | zero => exact absurd HA.out (by simp [wharfagelaw0_SpoilCandidates.l0])
  | succ k1 =>
   have H := HA.out
   clear HA
   simp only [wharfagelaw0_SpoilCandidates.l0] at H
   by_cases c2 : x2_1 < (x0_1.length : Int)
   ·rw [if_pos c2] at H
    have c2b0 : decide (x2_1 < (x0_1.length : Int)) = true := decide_eq_true c2
    clear c2
    by_cases c3 : 0 ≤ x2_1
    ·rw [if_pos c3] at H
     have c3b0 : decide (0 ≤ x2_1) = true := decide_eq_true c3
     clear c3
     obtain ⟨y211, hy211⟩ : ∃ y_ : List (S70), y_ = (x0_1.set (x2_1 : Int).toNat (⟨Go.bits .xor .i64 ((rd_T70 x0_1 x2_1).f0) 90, (rd_T70 x0_1 x2_1).f1⟩ : S70)) := ⟨_, rfl⟩
     replace H : (wharfagelaw0_SpoilCandidates.l0 k1 y211 (wrap64 (x2_1 + 1))) = some r := by first | (rw [hy211]; with_reducible exact H) | (have H2_ := (Option.bind_some _ _).symm.trans H; rw [hy211]; with_reducible exact H2_) | (have H2_ := (Option.bind_some _ _).symm.trans H; with_reducible exact H2_) | with_reducible exact H | (rw [hy211]; exact H) | exact H
     have Ny211 := Aside0.mk hy211
     clear hy211
     have H' := Aside0.mk H
     clear H
     obtain ⟨Ao5, co5, eo5⟩ := Kd.R_slice HO_0.out
     subst eo5
     have p210 : 0 ≤ (x2_1 : Int) := of_decide_eq_true (by first | (with_reducible assumption) | assumption)
     have q210 : x2_1 < (x0_1.length : Int) := of_decide_eq_true (by first | (with_reducible assumption) | assumption)
     obtain ⟨ad210, e210, hx210_0, hx210_1⟩ := at_T70 (Kd.R_reads' HO_0.out).2.2 x2_1 p210 q210
     cases e210
     replace p210 := eq_true p210
     replace q210 := eq_true q210
     have p4 : 0 ≤ (x2_1 : Int) := of_decide_eq_true (by first | (with_reducible assumption) | assumption)
     have q4 : (x2_1 : Int) < ((x0_1.length : Int) : Int) := of_decide_eq_true (by first | (with_reducible assumption) | assumption)
     obtain ⟨go4, co4, eo4, g0, gl4, cl4, HG4⟩ := Kd.R_form HO_0.out (by omega)
     (first | cases eo4 | (injection eo4 with ea_ en_ ec_; (first | subst ea_ | (injection ea_ with ea_; subst ea_)); subst ec_; clear en_))
     have GB4 := Aside0.mk g0
     have GG4 := Aside0.mk HG4
     clear g0 gl4 HG4
     have HMgo4 := Aside0.mk (show (P0_ go4 ∨ w.heap.size ≤ go4) from (HO_0.out.1 _ rfl))
     (first | simp only [add_plain] at hx210_0 | skip)
     (first | simp only [add_plain] at hx210_1 | skip)
     obtain ⟨ce4, hcl4, hM4, hcc4, hfr4⟩ := Kd.R_elem HO_0.out z70 (x2_1 : Int) p4 q4
     obtain rfl := k70_openM hM4
     have hx4_0 : wr.cell? ⟨go4, (x2_1 : Int).toNat * 2, none⟩ = some (.int .i64 ((rd_T70 x0_1 x2_1).f0)) := hcc4 0 _ rfl
     have hx4_1 : wr.cell? ⟨go4, (x2_1 : Int).toNat * 2 + 1, none⟩ = some (.int .i64 ((rd_T70 x0_1 x2_1).f1)) := hcc4 1 _ rfl
     have hf4_0 : wr.frozen? ⟨go4, (x2_1 : Int).toNat * 2, none⟩ = false := hfr4 0
     have hf4_1 : wr.frozen? ⟨go4, (x2_1 : Int).toNat * 2 + 1, none⟩ = false := hfr4 1
     clear hcl4 hcc4 hfr4 hM4
     replace p4 := eq_true p4
     replace q4 := eq_true q4
     have HX6 := Aside0.mk (show Kd.R k70 70 wr w0.heap.size (fun k_ => (P0_ k_ ∨ w.heap.size ≤ k_)) (.slice (some ⟨go4, 0, none⟩) x0_1.length co5) x0_1 from (by (with_reducible repeat (first | apply Kd.R_alloc | apply Kd.R_drewN | apply Kd.R_drew)); exact HO_0.out))
     obtain ⟨ce6, hcl6, hM6, hcc6, hfr6⟩ := Kd.R_elem HX6.out z70 (x2_1 : Int) (of_decide_eq_true (by first | (with_reducible assumption) | assumption)) (by have h_ : (x2_1 : Int) < ((x0_1.length : Int) : Int) := of_decide_eq_true (by first | (with_reducible assumption) | assumption); first | exact h_ | (have e_ := (Kd.R_reads' HO_0.out).1; omega) | simpa using h_)
     obtain rfl := k70_openM hM6
     have HP6 := Kd.R_seg HX6.out (x2_1 : Int) (of_decide_eq_true (by first | (with_reducible assumption) | assumption)) (by have h_ : (x2_1 : Int) < ((x0_1.length : Int) : Int) := of_decide_eq_true (by first | (with_reducible assumption) | assumption); first | exact h_ | (have e_ := (Kd.R_reads' HO_0.out).1; omega) | simpa using h_) (seg := [.int .i64 (Go.bits .xor .i64 ((rd_T70 x0_1 x2_1).f0) 90)]) (j := 0) hcl6 hcc6 (show 1 ≤ 2 from by decide) (x' := (⟨Go.bits .xor .i64 ((rd_T70 x0_1 x2_1).f0) 90, (rd_T70 x0_1 x2_1).f1⟩ : S70)) (k70_mkM _ _ _ (⟨Go.bits .xor .i64 ((rd_T70 x0_1 x2_1).f0) 90, (rd_T70 x0_1 x2_1).f1⟩ : S70) ) (fun _ hk => hk)
     have hx6_0 := hcc6 0 _ rfl
     (try simp only [show (k70).sz = 2 from rfl, Nat.mul_one, Nat.add_zero] at hx6_0)
     have hf6_0 := hfr6 0
     (try simp only [show (k70).sz = 2 from rfl, Nat.mul_one, Nat.add_zero] at hf6_0)
     clear hcl6 hcc6 hfr6 hM6
     go_wp2_with (first | ((with_reducible refine gate_store (t := 3) (p := 18) rfl ?_); refine store_event (t := 3) (p := 18) (v := ?vo_w7) (w1 := (wr.setCell ⟨go4, (x2_1 : Int).toNat * 2, none⟩ (.int .i64 (Go.bits .xor .i64 ((rd_T70 x0_1 x2_1).f0) 90)))) ?hg ?ho ?hn ?hr ?_; (case ho => rfl); (case hg => rfl); (case hn => rfl); (case hr => first | (go_simp; done) | (go_simp; rfl)); intro w7 hw; have hg : wr.grownBy w7 (some go4) := (by rw [hw]; exact HP6.2); have hp_ : Kd.R k70 70 w7 w0.heap.size (fun k_ => (P0_ k_ ∨ w.heap.size ≤ k_)) (.slice (some ⟨go4, 0, none⟩) x0_1.length co5) y211 := (by rw [hw, Ny211.out]; exact HP6.1); clear HP6; have n0_ := Aside0.mk (hp_); have n1_ := Aside0.mk ((by rw [hw]; exact below_set (HB.out) GB4.out : Below w0.heap.size w0 w7)); have n2_ := Aside0.mk (Kept.of_grown (S := (fun k_ => P0_ k_)) hg (by repeat (first | (with_reducible first | exact HK.out | apply Kept.alloc | apply Kept.drewN | apply Kept.drew) | exact HK.out)) (fun k_ e_ => (HO_0.out.1 k_ e_))); clear HO_0; clear HB; clear HK; have HO_0 := n0_; have HB := n1_; have HK := n2_; clear n0_ n1_ n2_; clear hg hw hp_))
     go_roundg k1
     case measure => have := HK1.out; omega
     case rel => exact ⟨(y211), (wrap64 (x2_1 + 1)), (by first | rfl | (simp; done) | (simp [*]; done)), H', ⟨by have := HK1.out; omega⟩, ⟨by (with_reducible repeat (first | apply Kd.R_alloc | apply Kd.R_drewN | apply Kd.R_drew)); exact HO_0.out⟩, ⟨by repeat (first | (with_reducible first | exact HK.out | apply Kept.alloc | apply Kept.drewN | apply Kept.drew) | exact HK.out)⟩, ⟨by repeat (first | (with_reducible first | exact HB.out | apply below_alloc | apply pw_below_drewN | apply below_drew1) | exact HB.out)⟩⟩
    ·rw [if_neg c3] at H
     exact absurd H (by simp)
   ·rw [if_neg c2] at H
    have c2b0 : decide (x2_1 < (x0_1.length : Int)) = false := decide_eq_false c2
    clear c2
    obtain rfl := Option.some.inj H
    obtain ⟨Ao8, co8, eo8⟩ := Kd.R_slice HO_0.out
    subst eo8
    go_wp2
    first | go_end0 | ((try simp only [Exit.inBlock, Exit.then]); refine bodyPost_ret (results_none rfl _ _ _) rfl ?_)
    exact ⟨by first | rfl | (simp [errW_none, errW_some] <;> rfl) | (simp [*, errW_none, errW_some] <;> rfl), by (with_reducible repeat (first | apply Kd.R_alloc | apply Kd.R_drewN | apply Kd.R_drew)); exact HO_0.out, by repeat (first | (with_reducible first | exact HB.out | apply below_alloc | apply pw_below_drewN | apply below_drew1) | exact HB.out), by repeat (first | (with_reducible first | exact HK.out | apply Kept.alloc | apply Kept.drewN | apply Kept.drew) | exact HK.out)⟩

end Go.Proofs.Ytlapbhgkmmeeoaa.PSpares
end
section
/- Contracts: what calls of these functions of the program do, each as a plain function; written by a program of this session. -/
namespace Go.Proofs.Ytlapbhgkmmeeoaa.PSpares
open Go.RowKit Go.Proofs.YtlapbhgkmmeeoaaW.PrintWords Go.Proofs.YtlapbhgkmmeeoaaW.PrintLast Go.Proofs.YtlapbhgkmmeeoaaW.PrintMore
attribute [local go_sem] max2_int min2_int max_two min_two max_three min_three max_four min_four   -- for this text's walks alone
set_option linter.unusedVariables false
set_option linter.unusedSimpArgs false

theorem eqA83 (d : Nat) (w : World) (x0 y0 : Int) (x1 y1 : Bool) :
  (Op.equalIn (d + 2) 83 (.agg #[.int .i64 x0, .bool x1]) (.agg #[.int .i64 y0, .bool y1])).run Try.prog w = .ok (x0 == y0 && (x1 == y1)) w := by
 refine eqA_of Try.underlying83 (by kernel_rfl) ?_
 refine eqf_cons (by rfl) (by go_simp; rfl) (by go_simp; rfl) (by go_simp) ?_
 exact eqf_last (by rfl) (by go_simp; rfl) (by go_simp; rfl) (by go_simp)
end Go.Proofs.Ytlapbhgkmmeeoaa.PSpares
end
