/- Several texts of this proof in one file (put together by a program of this session). -/
import Derived.Test.YtlapbhgkmmeeoaaPSparesx17
section
/- Contracts: what calls of these functions of the program do, each as a plain function; written by a program of this session. -/
namespace Go.Proofs.Ytlapbhgkmmeeoaa.PSpares
open Go.RowKit Go.Proofs.YtlapbhgkmmeeoaaW.PrintWords Go.Proofs.YtlapbhgkmmeeoaaW.PrintLast Go.Proofs.YtlapbhgkmmeeoaaW.PrintMore
attribute [local go_sem] max2_int min2_int max_two min_two max_three min_three max_four min_four   -- for this text's walks alone
set_option linter.unusedVariables false
set_option linter.unusedSimpArgs false

/-! ### track_May: function 59 -/
def track_May.f (a0 : Int) : Option (Bool) := if a0 ≥ 0 then (some (decide (a0 ≤ 2))) else (some false)
set_option maxHeartbeats 8000000 in
set_option maxRecDepth 100000 in
theorem track_May.calls (a0 : Int) (r : Bool) (w : World) (h : track_May.f a0 = some r) :
  Calls Try.prog 59 #[.int .i64 a0] w fun e w' => e = .returned (.bool r) ∧ Drawn0 w w' := by
 have H : (if a0 ≥ 0 then (some (decide (a0 ≤ 2))) else (some false)) = some r := h
 clear h
 by_cases c2 : a0 ≥ 0
 ·rw [if_pos c2] at H
  have c2b0 : decide (0 ≤ a0) = true := decide_eq_true c2
  clear c2
  obtain rfl := Option.some.inj H
  go_enter Try.func59, Try.ntmps59
  go_wp2
  go_ret
  exact ⟨by first | rfl | (simp; done) | (simp [*]; done), by repeat (first | exact Drawn0.refl _ | apply Drawn0.step)⟩
 ·rw [if_neg c2] at H
  have c2b0 : decide (0 ≤ a0) = false := decide_eq_false c2
  clear c2
  obtain rfl := Option.some.inj H
  go_enter Try.func59, Try.ntmps59
  go_wp2
  go_ret
  exact ⟨by first | rfl | (simp; done) | (simp [*]; done), by repeat (first | exact Drawn0.refl _ | apply Drawn0.step)⟩

/-! ### entry_May: function 50 -/
def entry_May.f (a0_0 : Int) (a0_1 : Int) (a0_2 : Int) (a0_3 : Int) (a0_4 : Int) (a0_5 : Int) (a0_6 : Bool) (a0_7 : Int) (a0_8 : Int) : Option (Bool) := (flow_May.f a0_0 a0_1 a0_2 a0_3 a0_4).bind fun t135 => (if t135 = true then ((ip_In.f a0_5 8).bind fun t136 => (if t136 = true then ((track_May.f a0_7).bind fun t137 => (if t137 = true then ((conf_Time.f a0_8).bind fun t138 => (some t138)) else (some false))) else (some false))) else (some false))
set_option maxHeartbeats 8000000 in
set_option maxRecDepth 100000 in
theorem entry_May.calls (a0_0 : Int) (a0_1 : Int) (a0_2 : Int) (a0_3 : Int) (a0_4 : Int) (a0_5 : Int) (a0_6 : Bool) (a0_7 : Int) (a0_8 : Int) (r : Bool) (w : World) (h : entry_May.f a0_0 a0_1 a0_2 a0_3 a0_4 a0_5 a0_6 a0_7 a0_8 = some r) :
  Calls Try.prog 50 #[.agg #[.int .i64 a0_0, .int .i64 a0_1, .int .i64 a0_2, .int .i64 a0_3, .int .i64 a0_4, .int .i64 a0_5, .bool a0_6, .int .i64 a0_7, .int .i64 a0_8]] w fun e w' => e = .returned (.bool r) ∧ Below w.heap.size w w' := by
 have hu50 := Try.underlying50
 have hu48 := Try.underlying48
 have HB := Aside0.mk (Below.refl w.heap.size w)
 have H : ((flow_May.f a0_0 a0_1 a0_2 a0_3 a0_4).bind fun t135 => (if t135 = true then ((ip_In.f a0_5 8).bind fun t136 => (if t136 = true then ((track_May.f a0_7).bind fun t137 => (if t137 = true then ((conf_Time.f a0_8).bind fun t138 => (some t138)) else (some false))) else (some false))) else (some false))) = some r := h
 clear h
 replace H := Option.bind_eq_some_iff.mp H
 obtain ⟨t135, A20, H⟩ := H
 replace H : (if t135 = true then ((ip_In.f a0_5 8).bind fun t136 => (if t136 = true then ((track_May.f a0_7).bind fun t137 => (if t137 = true then ((conf_Time.f a0_8).bind fun t138 => (some t138)) else (some false))) else (some false))) else (some false)) = some r := H
 have A2 := Aside0.mk A20
 clear A20
 by_cases c3 : t135 = true
 ·subst c3
  have H1 : ((ip_In.f a0_5 8).bind fun t136 => (if t136 = true then ((track_May.f a0_7).bind fun t137 => (if t137 = true then ((conf_Time.f a0_8).bind fun t138 => (some t138)) else (some false))) else (some false))) = some r := by rw [if_pos rfl] at H; exact H
  clear H
  have H := H1
  clear H1
  replace H := Option.bind_eq_some_iff.mp H
  obtain ⟨t136, A40, H⟩ := H
  replace H : (if t136 = true then ((track_May.f a0_7).bind fun t137 => (if t137 = true then ((conf_Time.f a0_8).bind fun t138 => (some t138)) else (some false))) else (some false)) = some r := H
  have A4 := Aside0.mk A40
  clear A40
  by_cases c5 : t136 = true
  ·subst c5
   have H1 : ((track_May.f a0_7).bind fun t137 => (if t137 = true then ((conf_Time.f a0_8).bind fun t138 => (some t138)) else (some false))) = some r := by rw [if_pos rfl] at H; exact H
   clear H
   have H := H1
   clear H1
   replace H := Option.bind_eq_some_iff.mp H
   obtain ⟨t137, A60, H⟩ := H
   replace H : (if t137 = true then ((conf_Time.f a0_8).bind fun t138 => (some t138)) else (some false)) = some r := H
   have A6 := Aside0.mk A60
   clear A60
   by_cases c7 : t137 = true
   ·subst c7
    have H1 : ((conf_Time.f a0_8).bind fun t138 => (some t138)) = some r := by rw [if_pos rfl] at H; exact H
    clear H
    have H := H1
    clear H1
    replace H := Option.bind_eq_some_iff.mp H
    obtain ⟨t138, A80, H⟩ := H
    replace H : (some t138) = some r := H
    have A8 := Aside0.mk A80
    clear A80
    obtain rfl := Option.some.inj H
    go_enter Try.func50, Try.ntmps50
    go_wp2_with (first | ((with_reducible refine gate_dst (N := 1) rfl ?_); refine box_event ?hg (N := 1) ?hd (cs := #[.int .i64 a0_0, .int .i64 a0_1, .int .i64 a0_2, .int .i64 a0_3, .int .i64 a0_4, .int .i64 a0_5, .bool a0_6, .int .i64 a0_7, .int .i64 a0_8]) (t := 50) ?hr ?_; (case hd => rfl); (case hg => rfl); (case hr => first | (go_simp; done) | (go_simp; rfl)); intro g0 hg w9 hbox hb; have n0_ := Aside0.mk (below_step (by repeat (first | (with_reducible first | exact HB.out | apply below_alloc | apply pw_below_drewN | apply below_drew1) | exact HB.out)) hb); have n1_ := Aside0.mk (hbox); have n2_ := Aside0.mk ((by rw [hg]; exact (below_size (by repeat (first | (with_reducible first | exact HB.out | apply below_alloc | apply pw_below_drewN | apply below_drew1) | exact HB.out))) : w.heap.size ≤ g0)); have n3_ := Aside0.mk ((by rw [hg]; exact (below_size (by repeat (first | (with_reducible first | exact HB.out | apply below_alloc | apply pw_below_drewN | apply below_drew1) | exact HB.out))) : w.heap.size ≤ g0)); clear HB; have HB := n0_; have K0 := n1_; have G0 := n2_; have E0 := n3_; clear n0_ n1_ n2_ n3_; clear hb hbox hg; have hcz10_0 : w9.cell? ⟨g0, 0, none⟩ = some (.int .i64 a0_0) := (blk_cell K0.out 0).trans rfl; have hcz10_1 : w9.cell? ⟨g0, 1, none⟩ = some (.int .i64 a0_1) := (blk_cell K0.out 1).trans rfl; have hcz10_2 : w9.cell? ⟨g0, 2, none⟩ = some (.int .i64 a0_2) := (blk_cell K0.out 2).trans rfl; have hcz10_3 : w9.cell? ⟨g0, 3, none⟩ = some (.int .i64 a0_3) := (blk_cell K0.out 3).trans rfl; have hcz10_4 : w9.cell? ⟨g0, 4, none⟩ = some (.int .i64 a0_4) := (blk_cell K0.out 4).trans rfl; have hcz10_5 : w9.cell? ⟨g0, 5, none⟩ = some (.int .i64 a0_5) := (blk_cell K0.out 5).trans rfl; have hcz10_6 : w9.cell? ⟨g0, 6, none⟩ = some (.bool a0_6) := (blk_cell K0.out 6).trans rfl; have hcz10_7 : w9.cell? ⟨g0, 7, none⟩ = some (.int .i64 a0_7) := (blk_cell K0.out 7).trans rfl; have hcz10_8 : w9.cell? ⟨g0, 8, none⟩ = some (.int .i64 a0_8) := (blk_cell K0.out 8).trans rfl; have hfz10_0 := blk_frozen K0.out 0; have hfz10_1 := blk_frozen K0.out 1; have hfz10_2 := blk_frozen K0.out 2; have hfz10_3 := blk_frozen K0.out 3; have hfz10_4 := blk_frozen K0.out 4; have hfz10_5 := blk_frozen K0.out 5; have hfz10_6 := blk_frozen K0.out 6; have hfz10_7 := blk_frozen K0.out 7; have hfz10_8 := blk_frozen K0.out 8) | ((with_reducible refine gate_callee (f := 58) rfl ?_); refine goesL_ (some 5) rfl rfl Try.func58 (by kernel_rfl) rfl #[.agg #[.int .i64 a0_0, .int .i64 a0_1, .int .i64 a0_2, .int .i64 a0_3, .int .i64 a0_4]] rfl (by (try simp only [List.map_toArray, List.map_cons, List.map_nil]); first | done | rfl | (simp only [List.length_drop, List.length_take]; rfl)) ?_; (with_reducible refine (flow_May.calls a0_0 a0_1 a0_2 a0_3 a0_4 true _ A2.out).mono ?_); rintro e w11 ⟨rfl, hb⟩; refine ⟨_, rfl, ?_⟩; have n0_ := Aside0.mk (blk_below (g := g0) (o := .cells #[.int .i64 a0_0, .int .i64 a0_1, .int .i64 a0_2, .int .i64 a0_3, .int .i64 a0_4, .int .i64 a0_5, .bool a0_6, .int .i64 a0_7, .int .i64 a0_8] 50 (0, 0)) (by (with_reducible repeat (first | refine blk_drewN ?_ _ | refine blk_drew ?_ | refine blk_alloc ?_ _)); exact K0.out) hb); have n1_ := Aside0.mk (below_step (by repeat (first | (with_reducible first | exact HB.out | apply below_alloc | apply pw_below_drewN | apply below_drew1 | refine below_set ?_ E0.out) | exact HB.out)) hb); clear K0; clear HB; have K0 := n0_; have HB := n1_; clear n0_ n1_; (try clear hb); (try clear hb2); (try clear hk); (try clear hi); have hcz12_0 : w11.cell? ⟨g0, 0, none⟩ = some (.int .i64 a0_0) := (blk_cell K0.out 0).trans rfl; have hcz12_1 : w11.cell? ⟨g0, 1, none⟩ = some (.int .i64 a0_1) := (blk_cell K0.out 1).trans rfl; have hcz12_2 : w11.cell? ⟨g0, 2, none⟩ = some (.int .i64 a0_2) := (blk_cell K0.out 2).trans rfl; have hcz12_3 : w11.cell? ⟨g0, 3, none⟩ = some (.int .i64 a0_3) := (blk_cell K0.out 3).trans rfl; have hcz12_4 : w11.cell? ⟨g0, 4, none⟩ = some (.int .i64 a0_4) := (blk_cell K0.out 4).trans rfl; have hcz12_5 : w11.cell? ⟨g0, 5, none⟩ = some (.int .i64 a0_5) := (blk_cell K0.out 5).trans rfl; have hcz12_6 : w11.cell? ⟨g0, 6, none⟩ = some (.bool a0_6) := (blk_cell K0.out 6).trans rfl; have hcz12_7 : w11.cell? ⟨g0, 7, none⟩ = some (.int .i64 a0_7) := (blk_cell K0.out 7).trans rfl; have hcz12_8 : w11.cell? ⟨g0, 8, none⟩ = some (.int .i64 a0_8) := (blk_cell K0.out 8).trans rfl; have hfz12_0 := blk_frozen K0.out 0; have hfz12_1 := blk_frozen K0.out 1; have hfz12_2 := blk_frozen K0.out 2; have hfz12_3 := blk_frozen K0.out 3; have hfz12_4 := blk_frozen K0.out 4; have hfz12_5 := blk_frozen K0.out 5; have hfz12_6 := blk_frozen K0.out 6; have hfz12_7 := blk_frozen K0.out 7; have hfz12_8 := blk_frozen K0.out 8) | (go_at_call 57; (with_reducible refine (ip_In.calls a0_5 8 true _ A4.out).mono ?_); rintro e w' ⟨rfl, ⟨nd, rfl⟩⟩) | (go_at_call 59; (with_reducible refine (track_May.calls a0_7 true _ A6.out).mono ?_); rintro e w' ⟨rfl, ⟨nd, rfl⟩⟩) | (go_at_call 24; (with_reducible refine (conf_Time.calls a0_8 t138 _ A8.out).mono ?_); rintro e w' ⟨rfl, ⟨nd, rfl⟩⟩))
    go_ret
    exact ⟨by first | rfl | (simp [errW_none, errW_some] <;> rfl) | (simp [*, errW_none, errW_some] <;> rfl), by repeat (first | (with_reducible first | exact HB.out | apply below_alloc | apply pw_below_drewN | apply below_drew1 | refine below_set ?_ E0.out) | exact HB.out)⟩
   ·replace c7 := Bool.eq_false_iff.mpr c7
    subst c7
    have H1 : (some false) = some r := by rw [if_neg (show ¬ (false = true) by decide)] at H; exact H
    clear H
    have H := H1
    clear H1
    obtain rfl := Option.some.inj H
    go_enter Try.func50, Try.ntmps50
    go_wp2_with (first | ((with_reducible refine gate_dst (N := 1) rfl ?_); refine box_event ?hg (N := 1) ?hd (cs := #[.int .i64 a0_0, .int .i64 a0_1, .int .i64 a0_2, .int .i64 a0_3, .int .i64 a0_4, .int .i64 a0_5, .bool a0_6, .int .i64 a0_7, .int .i64 a0_8]) (t := 50) ?hr ?_; (case hd => rfl); (case hg => rfl); (case hr => first | (go_simp; done) | (go_simp; rfl)); intro g0 hg w13 hbox hb; have n0_ := Aside0.mk (below_step (by repeat (first | (with_reducible first | exact HB.out | apply below_alloc | apply pw_below_drewN | apply below_drew1) | exact HB.out)) hb); have n1_ := Aside0.mk (hbox); have n2_ := Aside0.mk ((by rw [hg]; exact (below_size (by repeat (first | (with_reducible first | exact HB.out | apply below_alloc | apply pw_below_drewN | apply below_drew1) | exact HB.out))) : w.heap.size ≤ g0)); have n3_ := Aside0.mk ((by rw [hg]; exact (below_size (by repeat (first | (with_reducible first | exact HB.out | apply below_alloc | apply pw_below_drewN | apply below_drew1) | exact HB.out))) : w.heap.size ≤ g0)); clear HB; have HB := n0_; have K0 := n1_; have G0 := n2_; have E0 := n3_; clear n0_ n1_ n2_ n3_; clear hb hbox hg; have hcz14_0 : w13.cell? ⟨g0, 0, none⟩ = some (.int .i64 a0_0) := (blk_cell K0.out 0).trans rfl; have hcz14_1 : w13.cell? ⟨g0, 1, none⟩ = some (.int .i64 a0_1) := (blk_cell K0.out 1).trans rfl; have hcz14_2 : w13.cell? ⟨g0, 2, none⟩ = some (.int .i64 a0_2) := (blk_cell K0.out 2).trans rfl; have hcz14_3 : w13.cell? ⟨g0, 3, none⟩ = some (.int .i64 a0_3) := (blk_cell K0.out 3).trans rfl; have hcz14_4 : w13.cell? ⟨g0, 4, none⟩ = some (.int .i64 a0_4) := (blk_cell K0.out 4).trans rfl; have hcz14_5 : w13.cell? ⟨g0, 5, none⟩ = some (.int .i64 a0_5) := (blk_cell K0.out 5).trans rfl; have hcz14_6 : w13.cell? ⟨g0, 6, none⟩ = some (.bool a0_6) := (blk_cell K0.out 6).trans rfl; have hcz14_7 : w13.cell? ⟨g0, 7, none⟩ = some (.int .i64 a0_7) := (blk_cell K0.out 7).trans rfl; have hcz14_8 : w13.cell? ⟨g0, 8, none⟩ = some (.int .i64 a0_8) := (blk_cell K0.out 8).trans rfl; have hfz14_0 := blk_frozen K0.out 0; have hfz14_1 := blk_frozen K0.out 1; have hfz14_2 := blk_frozen K0.out 2; have hfz14_3 := blk_frozen K0.out 3; have hfz14_4 := blk_frozen K0.out 4; have hfz14_5 := blk_frozen K0.out 5; have hfz14_6 := blk_frozen K0.out 6; have hfz14_7 := blk_frozen K0.out 7; have hfz14_8 := blk_frozen K0.out 8) | ((with_reducible refine gate_callee (f := 58) rfl ?_); refine goesL_ (some 5) rfl rfl Try.func58 (by kernel_rfl) rfl #[.agg #[.int .i64 a0_0, .int .i64 a0_1, .int .i64 a0_2, .int .i64 a0_3, .int .i64 a0_4]] rfl (by (try simp only [List.map_toArray, List.map_cons, List.map_nil]); first | done | rfl | (simp only [List.length_drop, List.length_take]; rfl)) ?_; (with_reducible refine (flow_May.calls a0_0 a0_1 a0_2 a0_3 a0_4 true _ A2.out).mono ?_); rintro e w15 ⟨rfl, hb⟩; refine ⟨_, rfl, ?_⟩; have n0_ := Aside0.mk (blk_below (g := g0) (o := .cells #[.int .i64 a0_0, .int .i64 a0_1, .int .i64 a0_2, .int .i64 a0_3, .int .i64 a0_4, .int .i64 a0_5, .bool a0_6, .int .i64 a0_7, .int .i64 a0_8] 50 (0, 0)) (by (with_reducible repeat (first | refine blk_drewN ?_ _ | refine blk_drew ?_ | refine blk_alloc ?_ _)); exact K0.out) hb); have n1_ := Aside0.mk (below_step (by repeat (first | (with_reducible first | exact HB.out | apply below_alloc | apply pw_below_drewN | apply below_drew1 | refine below_set ?_ E0.out) | exact HB.out)) hb); clear K0; clear HB; have K0 := n0_; have HB := n1_; clear n0_ n1_; (try clear hb); (try clear hb2); (try clear hk); (try clear hi); have hcz16_0 : w15.cell? ⟨g0, 0, none⟩ = some (.int .i64 a0_0) := (blk_cell K0.out 0).trans rfl; have hcz16_1 : w15.cell? ⟨g0, 1, none⟩ = some (.int .i64 a0_1) := (blk_cell K0.out 1).trans rfl; have hcz16_2 : w15.cell? ⟨g0, 2, none⟩ = some (.int .i64 a0_2) := (blk_cell K0.out 2).trans rfl; have hcz16_3 : w15.cell? ⟨g0, 3, none⟩ = some (.int .i64 a0_3) := (blk_cell K0.out 3).trans rfl; have hcz16_4 : w15.cell? ⟨g0, 4, none⟩ = some (.int .i64 a0_4) := (blk_cell K0.out 4).trans rfl; have hcz16_5 : w15.cell? ⟨g0, 5, none⟩ = some (.int .i64 a0_5) := (blk_cell K0.out 5).trans rfl; have hcz16_6 : w15.cell? ⟨g0, 6, none⟩ = some (.bool a0_6) := (blk_cell K0.out 6).trans rfl; have hcz16_7 : w15.cell? ⟨g0, 7, none⟩ = some (.int .i64 a0_7) := (blk_cell K0.out 7).trans rfl; have hcz16_8 : w15.cell? ⟨g0, 8, none⟩ = some (.int .i64 a0_8) := (blk_cell K0.out 8).trans rfl; have hfz16_0 := blk_frozen K0.out 0; have hfz16_1 := blk_frozen K0.out 1; have hfz16_2 := blk_frozen K0.out 2; have hfz16_3 := blk_frozen K0.out 3; have hfz16_4 := blk_frozen K0.out 4; have hfz16_5 := blk_frozen K0.out 5; have hfz16_6 := blk_frozen K0.out 6; have hfz16_7 := blk_frozen K0.out 7; have hfz16_8 := blk_frozen K0.out 8) | (go_at_call 57; (with_reducible refine (ip_In.calls a0_5 8 true _ A4.out).mono ?_); rintro e w' ⟨rfl, ⟨nd, rfl⟩⟩) | (go_at_call 59; (with_reducible refine (track_May.calls a0_7 false _ A6.out).mono ?_); rintro e w' ⟨rfl, ⟨nd, rfl⟩⟩))
    go_ret
    exact ⟨by first | rfl | (simp [errW_none, errW_some] <;> rfl) | (simp [*, errW_none, errW_some] <;> rfl), by repeat (first | (with_reducible first | exact HB.out | apply below_alloc | apply pw_below_drewN | apply below_drew1 | refine below_set ?_ E0.out) | exact HB.out)⟩
  ·replace c5 := Bool.eq_false_iff.mpr c5
   subst c5
   have H1 : (some false) = some r := by rw [if_neg (show ¬ (false = true) by decide)] at H; exact H
   clear H
   have H := H1
   clear H1
   obtain rfl := Option.some.inj H
   go_enter Try.func50, Try.ntmps50
   go_wp2_with (first | ((with_reducible refine gate_dst (N := 1) rfl ?_); refine box_event ?hg (N := 1) ?hd (cs := #[.int .i64 a0_0, .int .i64 a0_1, .int .i64 a0_2, .int .i64 a0_3, .int .i64 a0_4, .int .i64 a0_5, .bool a0_6, .int .i64 a0_7, .int .i64 a0_8]) (t := 50) ?hr ?_; (case hd => rfl); (case hg => rfl); (case hr => first | (go_simp; done) | (go_simp; rfl)); intro g0 hg w17 hbox hb; have n0_ := Aside0.mk (below_step (by repeat (first | (with_reducible first | exact HB.out | apply below_alloc | apply pw_below_drewN | apply below_drew1) | exact HB.out)) hb); have n1_ := Aside0.mk (hbox); have n2_ := Aside0.mk ((by rw [hg]; exact (below_size (by repeat (first | (with_reducible first | exact HB.out | apply below_alloc | apply pw_below_drewN | apply below_drew1) | exact HB.out))) : w.heap.size ≤ g0)); have n3_ := Aside0.mk ((by rw [hg]; exact (below_size (by repeat (first | (with_reducible first | exact HB.out | apply below_alloc | apply pw_below_drewN | apply below_drew1) | exact HB.out))) : w.heap.size ≤ g0)); clear HB; have HB := n0_; have K0 := n1_; have G0 := n2_; have E0 := n3_; clear n0_ n1_ n2_ n3_; clear hb hbox hg; have hcz18_0 : w17.cell? ⟨g0, 0, none⟩ = some (.int .i64 a0_0) := (blk_cell K0.out 0).trans rfl; have hcz18_1 : w17.cell? ⟨g0, 1, none⟩ = some (.int .i64 a0_1) := (blk_cell K0.out 1).trans rfl; have hcz18_2 : w17.cell? ⟨g0, 2, none⟩ = some (.int .i64 a0_2) := (blk_cell K0.out 2).trans rfl; have hcz18_3 : w17.cell? ⟨g0, 3, none⟩ = some (.int .i64 a0_3) := (blk_cell K0.out 3).trans rfl; have hcz18_4 : w17.cell? ⟨g0, 4, none⟩ = some (.int .i64 a0_4) := (blk_cell K0.out 4).trans rfl; have hcz18_5 : w17.cell? ⟨g0, 5, none⟩ = some (.int .i64 a0_5) := (blk_cell K0.out 5).trans rfl; have hcz18_6 : w17.cell? ⟨g0, 6, none⟩ = some (.bool a0_6) := (blk_cell K0.out 6).trans rfl; have hcz18_7 : w17.cell? ⟨g0, 7, none⟩ = some (.int .i64 a0_7) := (blk_cell K0.out 7).trans rfl; have hcz18_8 : w17.cell? ⟨g0, 8, none⟩ = some (.int .i64 a0_8) := (blk_cell K0.out 8).trans rfl; have hfz18_0 := blk_frozen K0.out 0; have hfz18_1 := blk_frozen K0.out 1; have hfz18_2 := blk_frozen K0.out 2; have hfz18_3 := blk_frozen K0.out 3; have hfz18_4 := blk_frozen K0.out 4; have hfz18_5 := blk_frozen K0.out 5; have hfz18_6 := blk_frozen K0.out 6; have hfz18_7 := blk_frozen K0.out 7; have hfz18_8 := blk_frozen K0.out 8) | ((with_reducible refine gate_callee (f := 58) rfl ?_); refine goesL_ (some 5) rfl rfl Try.func58 (by kernel_rfl) rfl #[.agg #[.int .i64 a0_0, .int .i64 a0_1, .int .i64 a0_2, .int .i64 a0_3, .int .i64 a0_4]] rfl (by (try simp only [List.map_toArray, List.map_cons, List.map_nil]); first | done | rfl | (simp only [List.length_drop, List.length_take]; rfl)) ?_; (with_reducible refine (flow_May.calls a0_0 a0_1 a0_2 a0_3 a0_4 true _ A2.out).mono ?_); rintro e w19 ⟨rfl, hb⟩; refine ⟨_, rfl, ?_⟩; have n0_ := Aside0.mk (blk_below (g := g0) (o := .cells #[.int .i64 a0_0, .int .i64 a0_1, .int .i64 a0_2, .int .i64 a0_3, .int .i64 a0_4, .int .i64 a0_5, .bool a0_6, .int .i64 a0_7, .int .i64 a0_8] 50 (0, 0)) (by (with_reducible repeat (first | refine blk_drewN ?_ _ | refine blk_drew ?_ | refine blk_alloc ?_ _)); exact K0.out) hb); have n1_ := Aside0.mk (below_step (by repeat (first | (with_reducible first | exact HB.out | apply below_alloc | apply pw_below_drewN | apply below_drew1 | refine below_set ?_ E0.out) | exact HB.out)) hb); clear K0; clear HB; have K0 := n0_; have HB := n1_; clear n0_ n1_; (try clear hb); (try clear hb2); (try clear hk); (try clear hi); have hcz20_0 : w19.cell? ⟨g0, 0, none⟩ = some (.int .i64 a0_0) := (blk_cell K0.out 0).trans rfl; have hcz20_1 : w19.cell? ⟨g0, 1, none⟩ = some (.int .i64 a0_1) := (blk_cell K0.out 1).trans rfl; have hcz20_2 : w19.cell? ⟨g0, 2, none⟩ = some (.int .i64 a0_2) := (blk_cell K0.out 2).trans rfl; have hcz20_3 : w19.cell? ⟨g0, 3, none⟩ = some (.int .i64 a0_3) := (blk_cell K0.out 3).trans rfl; have hcz20_4 : w19.cell? ⟨g0, 4, none⟩ = some (.int .i64 a0_4) := (blk_cell K0.out 4).trans rfl; have hcz20_5 : w19.cell? ⟨g0, 5, none⟩ = some (.int .i64 a0_5) := (blk_cell K0.out 5).trans rfl; have hcz20_6 : w19.cell? ⟨g0, 6, none⟩ = some (.bool a0_6) := (blk_cell K0.out 6).trans rfl; have hcz20_7 : w19.cell? ⟨g0, 7, none⟩ = some (.int .i64 a0_7) := (blk_cell K0.out 7).trans rfl; have hcz20_8 : w19.cell? ⟨g0, 8, none⟩ = some (.int .i64 a0_8) := (blk_cell K0.out 8).trans rfl; have hfz20_0 := blk_frozen K0.out 0; have hfz20_1 := blk_frozen K0.out 1; have hfz20_2 := blk_frozen K0.out 2; have hfz20_3 := blk_frozen K0.out 3; have hfz20_4 := blk_frozen K0.out 4; have hfz20_5 := blk_frozen K0.out 5; have hfz20_6 := blk_frozen K0.out 6; have hfz20_7 := blk_frozen K0.out 7; have hfz20_8 := blk_frozen K0.out 8) | (go_at_call 57; (with_reducible refine (ip_In.calls a0_5 8 false _ A4.out).mono ?_); rintro e w' ⟨rfl, ⟨nd, rfl⟩⟩))
   go_ret
   exact ⟨by first | rfl | (simp [errW_none, errW_some] <;> rfl) | (simp [*, errW_none, errW_some] <;> rfl), by repeat (first | (with_reducible first | exact HB.out | apply below_alloc | apply pw_below_drewN | apply below_drew1 | refine below_set ?_ E0.out) | exact HB.out)⟩
 ·replace c3 := Bool.eq_false_iff.mpr c3
  subst c3
  have H1 : (some false) = some r := by rw [if_neg (show ¬ (false = true) by decide)] at H; exact H
  clear H
  have H := H1
  clear H1
  obtain rfl := Option.some.inj H
  go_enter Try.func50, Try.ntmps50
  go_wp2_with (first | ((with_reducible refine gate_dst (N := 1) rfl ?_); refine box_event ?hg (N := 1) ?hd (cs := #[.int .i64 a0_0, .int .i64 a0_1, .int .i64 a0_2, .int .i64 a0_3, .int .i64 a0_4, .int .i64 a0_5, .bool a0_6, .int .i64 a0_7, .int .i64 a0_8]) (t := 50) ?hr ?_; (case hd => rfl); (case hg => rfl); (case hr => first | (go_simp; done) | (go_simp; rfl)); intro g0 hg w21 hbox hb; have n0_ := Aside0.mk (below_step (by repeat (first | (with_reducible first | exact HB.out | apply below_alloc | apply pw_below_drewN | apply below_drew1) | exact HB.out)) hb); have n1_ := Aside0.mk (hbox); have n2_ := Aside0.mk ((by rw [hg]; exact (below_size (by repeat (first | (with_reducible first | exact HB.out | apply below_alloc | apply pw_below_drewN | apply below_drew1) | exact HB.out))) : w.heap.size ≤ g0)); have n3_ := Aside0.mk ((by rw [hg]; exact (below_size (by repeat (first | (with_reducible first | exact HB.out | apply below_alloc | apply pw_below_drewN | apply below_drew1) | exact HB.out))) : w.heap.size ≤ g0)); clear HB; have HB := n0_; have K0 := n1_; have G0 := n2_; have E0 := n3_; clear n0_ n1_ n2_ n3_; clear hb hbox hg; have hcz22_0 : w21.cell? ⟨g0, 0, none⟩ = some (.int .i64 a0_0) := (blk_cell K0.out 0).trans rfl; have hcz22_1 : w21.cell? ⟨g0, 1, none⟩ = some (.int .i64 a0_1) := (blk_cell K0.out 1).trans rfl; have hcz22_2 : w21.cell? ⟨g0, 2, none⟩ = some (.int .i64 a0_2) := (blk_cell K0.out 2).trans rfl; have hcz22_3 : w21.cell? ⟨g0, 3, none⟩ = some (.int .i64 a0_3) := (blk_cell K0.out 3).trans rfl; have hcz22_4 : w21.cell? ⟨g0, 4, none⟩ = some (.int .i64 a0_4) := (blk_cell K0.out 4).trans rfl; have hcz22_5 : w21.cell? ⟨g0, 5, none⟩ = some (.int .i64 a0_5) := (blk_cell K0.out 5).trans rfl; have hcz22_6 : w21.cell? ⟨g0, 6, none⟩ = some (.bool a0_6) := (blk_cell K0.out 6).trans rfl; have hcz22_7 : w21.cell? ⟨g0, 7, none⟩ = some (.int .i64 a0_7) := (blk_cell K0.out 7).trans rfl; have hcz22_8 : w21.cell? ⟨g0, 8, none⟩ = some (.int .i64 a0_8) := (blk_cell K0.out 8).trans rfl; have hfz22_0 := blk_frozen K0.out 0; have hfz22_1 := blk_frozen K0.out 1; have hfz22_2 := blk_frozen K0.out 2; have hfz22_3 := blk_frozen K0.out 3; have hfz22_4 := blk_frozen K0.out 4; have hfz22_5 := blk_frozen K0.out 5; have hfz22_6 := blk_frozen K0.out 6; have hfz22_7 := blk_frozen K0.out 7; have hfz22_8 := blk_frozen K0.out 8) | ((with_reducible refine gate_callee (f := 58) rfl ?_); refine goesL_ (some 5) rfl rfl Try.func58 (by kernel_rfl) rfl #[.agg #[.int .i64 a0_0, .int .i64 a0_1, .int .i64 a0_2, .int .i64 a0_3, .int .i64 a0_4]] rfl (by (try simp only [List.map_toArray, List.map_cons, List.map_nil]); first | done | rfl | (simp only [List.length_drop, List.length_take]; rfl)) ?_; (with_reducible refine (flow_May.calls a0_0 a0_1 a0_2 a0_3 a0_4 false _ A2.out).mono ?_); rintro e w23 ⟨rfl, hb⟩; refine ⟨_, rfl, ?_⟩; have n0_ := Aside0.mk (blk_below (g := g0) (o := .cells #[.int .i64 a0_0, .int .i64 a0_1, .int .i64 a0_2, .int .i64 a0_3, .int .i64 a0_4, .int .i64 a0_5, .bool a0_6, .int .i64 a0_7, .int .i64 a0_8] 50 (0, 0)) (by (with_reducible repeat (first | refine blk_drewN ?_ _ | refine blk_drew ?_ | refine blk_alloc ?_ _)); exact K0.out) hb); have n1_ := Aside0.mk (below_step (by repeat (first | (with_reducible first | exact HB.out | apply below_alloc | apply pw_below_drewN | apply below_drew1 | refine below_set ?_ E0.out) | exact HB.out)) hb); clear K0; clear HB; have K0 := n0_; have HB := n1_; clear n0_ n1_; (try clear hb); (try clear hb2); (try clear hk); (try clear hi)))
  go_ret
  exact ⟨by first | rfl | (simp [errW_none, errW_some] <;> rfl) | (simp [*, errW_none, errW_some] <;> rfl), by repeat (first | (with_reducible first | exact HB.out | apply below_alloc | apply pw_below_drewN | apply below_drew1 | refine below_set ?_ E0.out) | exact HB.out)⟩

-- NOT PRINTED: function 60 (api_Entry)

end Go.Proofs.Ytlapbhgkmmeeoaa.PSpares
end
section
/- Contracts: what calls of these functions of the program do, each as a plain function; written by a program of this session. -/
namespace Go.Proofs.Ytlapbhgkmmeeoaa.PSpares
open Go.RowKit Go.Proofs.YtlapbhgkmmeeoaaW.PrintWords Go.Proofs.YtlapbhgkmmeeoaaW.PrintLast Go.Proofs.YtlapbhgkmmeeoaaW.PrintMore
attribute [local go_sem] max2_int min2_int max_two min_two max_three min_three max_four min_four   -- for this text's walks alone
set_option linter.unusedVariables false
set_option linter.unusedSimpArgs false

/-! ### cache_at: function 51, by hand -/
def beqF (a b : S48) : Bool := a.f0 == b.f0 && (a.f1 == b.f1 && (a.f2 == b.f2 && (a.f3 == b.f3 && a.f4 == b.f4)))
theorem beqF_iff (a b : S48) : beqF a b = true ↔ a = b := by
 obtain ⟨a0, a1, a2, a3, a4⟩ := a
 obtain ⟨b0, b1, b2, b3, b4⟩ := b
 unfold beqF
 simp
def idxFrom (f : S48) : List S50 → Nat → Int
 | [], _ => -1
 | x :: r, i => if beqF x.f0 f = true then (i : Int) else idxFrom f r (i + 1)
def cache_at.f (l0 : List S50) (a1_0 a1_1 a1_2 a1_3 a1_4 : Int) : Option Int := some (idxFrom ⟨a1_0, a1_1, a1_2, a1_3, a1_4⟩ l0 0)
theorem cache_at.eqf (d : Nat) (w : World) (x0 y0 : Int) (x1 y1 : Int) (x2 y2 : Int) (x3 y3 : Int) (x4 y4 : Int) :
  (Op.equalIn (d + 2) 48 (.agg #[.int .i64 x0, .int .i64 x1, .int .i64 x2, .int .i64 x3, .int .i64 x4]) (.agg #[.int .i64 y0, .int .i64 y1, .int .i64 y2, .int .i64 y3, .int .i64 y4])).run Try.prog w = .ok (x0 == y0 && (x1 == y1 && (x2 == y2 && (x3 == y3 && (x4 == y4))))) w := by
 refine eqA_of Try.underlying48 (by kernel_rfl) ?_
 refine eqf_cons (by rfl) (by go_simp; rfl) (by go_simp; rfl) (by go_simp) ?_
 refine eqf_cons (by rfl) (by go_simp; rfl) (by go_simp; rfl) (by go_simp) ?_
 refine eqf_cons (by rfl) (by go_simp; rfl) (by go_simp; rfl) (by go_simp) ?_
 refine eqf_cons (by rfl) (by go_simp; rfl) (by go_simp; rfl) (by go_simp) ?_
 exact eqf_last (by rfl) (by go_simp; rfl) (by go_simp; rfl) (by go_simp)
structure FlowAt (w : World) (b : Nat) (f : S48) : Prop where
 c0 : w.cell? ⟨b, 0, none⟩ = some (.int .i64 f.f0)
 c1 : w.cell? ⟨b, 1, none⟩ = some (.int .i64 f.f1)
 c2 : w.cell? ⟨b, 2, none⟩ = some (.int .i64 f.f2)
 c3 : w.cell? ⟨b, 3, none⟩ = some (.int .i64 f.f3)
 c4 : w.cell? ⟨b, 4, none⟩ = some (.int .i64 f.f4)
theorem FlowAt.below {w w1 : World} {b : Nat} {f : S48} (h : FlowAt w b f) (hb : Below w.heap.size w w1) : FlowAt w1 b f := ⟨pw_cell_below hb h.c0, pw_cell_below hb h.c1, pw_cell_below hb h.c2, pw_cell_below hb h.c3, pw_cell_below hb h.c4⟩
set_option maxHeartbeats 4000000 in
set_option maxRecDepth 100000 in
theorem cache_at.is (x : S50) (b : Nat) (f : S48) (w : World) (hf : FlowAt w b f) :
  Calls Try.prog 61 #[.agg #[.int .i64 x.f0.f0, .int .i64 x.f0.f1, .int .i64 x.f0.f2, .int .i64 x.f0.f3, .int .i64 x.f0.f4, .int .i64 x.f1, .bool x.f2, .int .i64 x.f3, .int .i64 x.f4], .pointer (some ⟨b, 0, none⟩)] w fun e w' => e = .returned (.bool (beqF x.f0 f)) ∧ Below w.heap.size w w' := by
 have hq := cache_at.eqf
 have hu := Try.underlying50
 have hu2 := Try.underlying48
 have hb : Below w.heap.size w (w.alloc (Obj.cells #[.int .i64 x.f0.f0, .int .i64 x.f0.f1, .int .i64 x.f0.f2, .int .i64 x.f0.f3, .int .i64 x.f0.f4, .int .i64 x.f1, .bool x.f2, .int .i64 x.f3, .int .i64 x.f4] 50)) := below_alloc (Below.refl _ _) _
 have hf2 := hf.below hb
 have f0 := hf2.c0
 have f1 := hf2.c1
 have f2 := hf2.c2
 have f3 := hf2.c3
 have f4 := hf2.c4
 have HB := Aside0.mk hb
 clear hb hf hf2
 go_enter Try.func61, Try.ntmps61
 go_wp2_with fail
 go_ret
 exact ⟨rfl, HB.out⟩
theorem idxFrom_step (f : S48) (l : List S50) (x : Int) (h0 : 0 ≤ x) (h1 : x < (l.length : Int)) : idxFrom f (l.drop x.toNat) x.toNat = if beqF (rd_T50 l x).f0 f = true then x else idxFrom f (l.drop (x.toNat + 1)) (x.toNat + 1) := by
 have hl : x.toNat < l.length := by omega
 rw [List.drop_eq_getElem_cons hl]
 have hr : rd_T50 l x = l[x.toNat] := by
  unfold rd_T50
  simp [List.getD, List.getElem?_eq_getElem hl]
 rw [hr, idxFrom, Int.toNat_of_nonneg h0]
set_option maxHeartbeats 8000000 in
set_option maxRecDepth 100000 in
theorem cache_at.idx (A0 : Option Addr) (c0 : Nat) (l0 : List S50) (b : Nat) (f : S48) (w : World) (hr0 : Kd.C k50 w A0 l0.length l0) (hc0 : l0.length ≤ c0) (hf : FlowAt w b f) :
  Calls Try.prog 60 #[.slice A0 l0.length c0, .func (.func 61) #[] #[.pointer (some ⟨b, 0, none⟩)]] w fun e w' => e = .returned (.int .i64 (idxFrom f l0 0)) ∧ Below w.heap.size w w' := by
 have hu := Try.underlying50
 have HR0 := Aside0.mk hr0
 have HF := Aside0.mk hf
 have HLE := Aside0.mk hr0.2.1
 clear hr0 hc0 hf
 go_enter Try.func60, Try.ntmps60
 go_wp2_with fail
 go_loopg [8] (l0.length + 1) (fun kq v8 w' => ∃ (x : Int), v8 = .int .i64 x ∧ Aside0 (0 ≤ x ∧ x ≤ (l0.length : Int) ∧ (kq : Int) + x = l0.length + 1) ∧ Aside0 (idxFrom f (l0.drop x.toNat) x.toNat = idxFrom f l0 0) ∧ Aside0 (Below w.heap.size w w'))
 case atStart => exact ⟨0, rfl, ⟨by omega⟩, ⟨rfl⟩, ⟨Below.refl _ _⟩⟩
 case round =>
  obtain ⟨x, rfl, HX, HI, HB⟩ := hrel
  cases gk with
  | zero => have := HX.out; omega
  | succ k1 =>
   by_cases c3 : x < (l0.length : Int)
   ·have c3b := decide_eq_true c3
    have p1 : 0 ≤ x := HX.out.1
    have p1b := decide_eq_true p1
    obtain ⟨ad, ea, hx0, hx1, hx2, hx3, hx4, hx5, hx6, hx7, hx8⟩ := at_T50 HR0.out x p1 c3
    cases ea
    replace hx0 := (HB.out.cell (World.block_lt_of_cell? w _ hx0)).trans hx0
    replace hx1 := (HB.out.cell (World.block_lt_of_cell? w _ hx1)).trans hx1
    replace hx2 := (HB.out.cell (World.block_lt_of_cell? w _ hx2)).trans hx2
    replace hx3 := (HB.out.cell (World.block_lt_of_cell? w _ hx3)).trans hx3
    replace hx4 := (HB.out.cell (World.block_lt_of_cell? w _ hx4)).trans hx4
    replace hx5 := (HB.out.cell (World.block_lt_of_cell? w _ hx5)).trans hx5
    replace hx6 := (HB.out.cell (World.block_lt_of_cell? w _ hx6)).trans hx6
    replace hx7 := (HB.out.cell (World.block_lt_of_cell? w _ hx7)).trans hx7
    replace hx8 := (HB.out.cell (World.block_lt_of_cell? w _ hx8)).trans hx8
    have HS := Aside0.mk (idxFrom_step f l0 x p1 c3)
    have HC3 := Aside0.mk c3
    have HF2 := Aside0.mk (HF.out.below HB.out)
    have p1' := eq_true p1
    have c3' := eq_true c3
    obtain ⟨bq, hbq⟩ : ∃ b_ : Bool, Aside0 (beqF (rd_T50 l0 x).f0 f = b_) := ⟨_, ⟨rfl⟩⟩
    cases bq
    ·go_wp2_with (go_at_call 61; refine (cache_at.is (rd_T50 l0 x) b f _ HF2.out).mono ?_; rintro e w2 ⟨he, hb⟩; rw [hbq.out] at he; subst he; replace HB := Aside0.mk (below_step HB.out hb); clear hb)
     go_roundg k1
     case measure => have := HX.out; omega
     case rel =>
      have h1 := HX.out
      have hw : wrap64 (x + 1) = x + 1 := by have := HLE.out; have := HC3.out; unfold wrap64; omega
      refine ⟨wrap64 (x + 1), rfl, ⟨by rw [hw]; have := HC3.out; omega⟩, ⟨?_⟩, HB⟩
      rw [hw, ← HI.out, HS.out, hbq.out, if_neg (by simp), show (x + 1).toNat = x.toNat + 1 by omega]
    ·go_wp2_with (go_at_call 61; refine (cache_at.is (rd_T50 l0 x) b f _ HF2.out).mono ?_; rintro e w2 ⟨he, hb⟩; rw [hbq.out] at he; subst he; replace HB := Aside0.mk (below_step HB.out hb); clear hb)
     go_ret
     exact ⟨by rw [← HI.out, HS.out, hbq.out, if_pos rfl]; rfl, HB.out⟩
   ·have c3b := decide_eq_false c3
    have HE : x = (l0.length : Int) := by have := HX.out; omega
    go_wp2_with fail
    go_ret
    refine ⟨?_, HB.out⟩
    rw [← HI.out, HE, Int.toNat_natCast, List.drop_length]
    rfl
set_option maxHeartbeats 8000000 in
set_option maxRecDepth 100000 in
theorem cache_at.calls (A0 : Option Addr) (c0 : Nat) (l0 : List S50) (a1_0 a1_1 a1_2 a1_3 a1_4 : Int) (r : Int) (w : World) (hr0 : Kd.C k50 w A0 l0.length l0) (hc0 : l0.length ≤ c0) (h : cache_at.f l0 a1_0 a1_1 a1_2 a1_3 a1_4 = some r) :
  Calls Try.prog 51 #[.slice A0 l0.length c0, .agg #[.int .i64 a1_0, .int .i64 a1_1, .int .i64 a1_2, .int .i64 a1_3, .int .i64 a1_4]] w fun e w' => e = .returned (.int .i64 r) ∧ Below w.heap.size w w' := by
 obtain rfl := Option.some.inj h
 clear h
 have hb : Below w.heap.size w (w.alloc (Obj.cells #[.int .i64 a1_0, .int .i64 a1_1, .int .i64 a1_2, .int .i64 a1_3, .int .i64 a1_4] 48)) := below_alloc (Below.refl _ _) _
 have HF := Aside0.mk (show FlowAt (w.alloc (Obj.cells #[.int .i64 a1_0, .int .i64 a1_1, .int .i64 a1_2, .int .i64 a1_3, .int .i64 a1_4] 48)) w.heap.size ⟨a1_0, a1_1, a1_2, a1_3, a1_4⟩ from ⟨by simp, by simp, by simp, by simp, by simp⟩)
 have HR := Aside0.mk (Kd.C_below hr0 hb)
 have HB := Aside0.mk hb
 clear hb hr0
 go_enter Try.func51, Try.ntmps51
 go_wp2_with (go_at_call 60; refine (cache_at.idx _ _ l0 w.heap.size ⟨a1_0, a1_1, a1_2, a1_3, a1_4⟩ _ HR.out hc0 HF.out).mono ?_; rintro e w2 ⟨rfl, hb⟩; replace HB := Aside0.mk (below_step HB.out hb); clear hb)
 go_ret
 exact ⟨rfl, HB.out⟩


end Go.Proofs.Ytlapbhgkmmeeoaa.PSpares
end
section
/- Contracts: what calls of these functions of the program do, each as a plain function; written by a program of this session. -/
namespace Go.Proofs.Ytlapbhgkmmeeoaa.PSpares
open Go.RowKit Go.Proofs.YtlapbhgkmmeeoaaW.PrintWords Go.Proofs.YtlapbhgkmmeeoaaW.PrintLast Go.Proofs.YtlapbhgkmmeeoaaW.PrintMore
attribute [local go_sem] max2_int min2_int max_two min_two max_three min_three max_four min_four   -- for this text's walks alone
set_option linter.unusedVariables false
set_option linter.unusedSimpArgs false

/-! ### cache_May: function 37 -/
def cache_May.l0 : Nat → List (S50) → List (S50) → Int → Int → Option (Bool)
 | 0, _, _, _, _ => none
 | k + 1, x0, x5, x6, x7 => if x7 < x6 then (if 0 ≤ x7 then (if x7 < (x5.length : Int) then ((entry_May.f ((rd_T50 x5 x7).f0.f0) ((rd_T50 x5 x7).f0.f1) ((rd_T50 x5 x7).f0.f2) ((rd_T50 x5 x7).f0.f3) ((rd_T50 x5 x7).f0.f4) ((rd_T50 x5 x7).f1) ((rd_T50 x5 x7).f2) ((rd_T50 x5 x7).f3) ((rd_T50 x5 x7).f4)).bind fun t141 => (if t141 = true then ((cache_at.f x0 ((rd_T50 x5 x7).f0.f0) ((rd_T50 x5 x7).f0.f1) ((rd_T50 x5 x7).f0.f2) ((rd_T50 x5 x7).f0.f3) ((rd_T50 x5 x7).f0.f4)).bind fun t142 => (if t142 = x7 then (cache_May.l0 k x0 x5 x6 (wrap64 (x7 + 1))) else (some false))) else (some false))) else (none)) else (none)) else (some (decide ((x0.length : Int) ≤ 8)))
def cache_May.f (k : Nat) (l0 : List (S50)) : Option (Bool) := cache_May.l0 k l0 l0 (l0.length : Int) 0
theorem cache_May.mono_l : ∀ k, (∀ y0 y1 y2 y3, LeO (cache_May.l0 k y0 y1 y2 y3) (cache_May.l0 (k + 1) y0 y1 y2 y3))
 | 0 => fun _ _ _ _ r h => by simp [cache_May.l0] at h
 | k + 1 => by
  have ih0 := cache_May.mono_l k
  ·intro y0 y1 y2 y3
   unfold cache_May.l0
   repeat' first
   | (with_reducible exact ih0 _ _ _ _)
   | (with_reducible exact LeO.refl _)
   | (with_reducible exact LeO.none _)
   | (with_reducible refine LeO.ite ?_ ?_)
   | (with_reducible refine LeO.bind ?_ (fun _ => ?_))
   | exact ih0 _ _ _ _
   | exact LeO.none _
   | refine LeO.ite ?_ ?_
   | refine LeO.bind ?_ (fun _ => ?_)
theorem cache_May.mono : ∀ a0 k, LeO (cache_May.f k a0) (cache_May.f (k + 1) a0) := by
 intro a0 k
 have ih0 := cache_May.mono_l k
 unfold cache_May.f
 repeat' first
   | (with_reducible exact ih0 _ _ _ _)
   | (with_reducible exact LeO.refl _)
   | (with_reducible exact LeO.none _)
   | (with_reducible refine LeO.ite ?_ ?_)
   | (with_reducible refine LeO.bind ?_ (fun _ => ?_))
   | exact ih0 _ _ _ _
   | exact LeO.none _
   | refine LeO.ite ?_ ?_
   | refine LeO.bind ?_ (fun _ => ?_)
set_option maxHeartbeats 8000000 in
set_option maxRecDepth 100000 in
theorem cache_May.calls (k : Nat) (A0 : Option Addr) (c0 : Nat) (l0 : List (S50)) (r : Bool) (w : World) (hr0 : Kd.C k50 w A0 l0.length l0) (hc0 : l0.length ≤ c0) (h : cache_May.f k l0 = some r) :
  Calls Try.prog 37 #[.slice A0 l0.length c0] w fun e w' => e = .returned (.bool r) ∧ Below w.heap.size w w' := by
 have hu50 := Try.underlying50
 have hu48 := Try.underlying48
 have HR0 := Aside0.mk hr0
 have HC0 := Aside0.mk hc0
 clear hr0 hc0
 have HB := Aside0.mk (Below.refl w.heap.size w)
 have H : (cache_May.l0 k l0 l0 (l0.length : Int) 0) = some r := h
 clear h
 have H' := Aside0.mk H
 clear H
 go_enter Try.func37, Try.ntmps37
 go_wp2
 go_loopg [7] k (fun kq v7 w' => ∃ (x7_1 : Int), v7 = .int .i64 x7_1 ∧ Aside0 (cache_May.l0 kq l0 l0 (l0.length : Int) x7_1 = some r) ∧ Aside0 (kq ≤ k) ∧ Aside0 (Below w.heap.size w w'))
 case atStart => exact ⟨(0), (by first | rfl | (simp; done) | (simp [*]; done)), H', ⟨Nat.le_refl _⟩, ⟨by repeat (first | (with_reducible first | exact HB.out | apply below_alloc | apply pw_below_drewN | apply below_drew1) | exact HB.out)⟩⟩
 case round =>
  clear H'
  obtain ⟨x7_1, rfl, HA, HK1, HB⟩ := hrel
  cases gk with
  | zero => exact absurd HA.out (by simp [cache_May.l0])
  | succ k1 =>
   have H := HA.out
   clear HA
   simp only [cache_May.l0] at H
   by_cases c2 : x7_1 < (l0.length : Int)
   ·rw [if_pos c2] at H
    have c2b0 : decide (x7_1 < (l0.length : Int)) = true := decide_eq_true c2
    clear c2
    by_cases c3 : 0 ≤ x7_1
    ·rw [if_pos c3] at H
     have c3b0 : decide (0 ≤ x7_1) = true := decide_eq_true c3
     clear c3
     by_cases c4 : x7_1 < (l0.length : Int)
     ·rw [if_pos c4] at H
      have c4b0 : decide (x7_1 < (l0.length : Int)) = true := decide_eq_true c4
      clear c4
      replace H := Option.bind_eq_some_iff.mp H
      obtain ⟨t141, A50, H⟩ := H
      replace H : (if t141 = true then ((cache_at.f l0 ((rd_T50 l0 x7_1).f0.f0) ((rd_T50 l0 x7_1).f0.f1) ((rd_T50 l0 x7_1).f0.f2) ((rd_T50 l0 x7_1).f0.f3) ((rd_T50 l0 x7_1).f0.f4)).bind fun t142 => (if t142 = x7_1 then (cache_May.l0 k1 l0 l0 (l0.length : Int) (wrap64 (x7_1 + 1))) else (some false))) else (some false)) = some r := H
      have A5 := Aside0.mk A50
      clear A50
      by_cases c6 : t141 = true
      ·subst c6
       have H1 : ((cache_at.f l0 ((rd_T50 l0 x7_1).f0.f0) ((rd_T50 l0 x7_1).f0.f1) ((rd_T50 l0 x7_1).f0.f2) ((rd_T50 l0 x7_1).f0.f3) ((rd_T50 l0 x7_1).f0.f4)).bind fun t142 => (if t142 = x7_1 then (cache_May.l0 k1 l0 l0 (l0.length : Int) (wrap64 (x7_1 + 1))) else (some false))) = some r := by rw [if_pos rfl] at H; exact H
       clear H
       have H := H1
       clear H1
       replace H := Option.bind_eq_some_iff.mp H
       obtain ⟨t142, A70, H⟩ := H
       replace H : (if t142 = x7_1 then (cache_May.l0 k1 l0 l0 (l0.length : Int) (wrap64 (x7_1 + 1))) else (some false)) = some r := H
       have A7 := Aside0.mk A70
       clear A70
       by_cases c8 : t142 = x7_1
       ·rw [if_pos c8] at H
        have c8b0 : (t142 == x7_1) = true := beq_iff_eq.mpr c8
        have c8b1 : (t142 != x7_1) = false := bne_eq_false_iff_eq.mpr c8
        clear c8
        have H' := Aside0.mk H
        clear H
        have p139 : 0 ≤ (x7_1 : Int) := of_decide_eq_true (by first | (with_reducible assumption) | assumption)
        have q139 : x7_1 < (l0.length : Int) := of_decide_eq_true (by first | (with_reducible assumption) | assumption)
        obtain ⟨ad139, e139, hx139_0, hx139_1, hx139_2, hx139_3, hx139_4, hx139_5, hx139_6, hx139_7, hx139_8⟩ := at_T50 HR0.out x7_1 p139 q139
        cases e139
        replace hx139_0 := (HB.out.cell (World.block_lt_of_cell? w _ hx139_0)).trans hx139_0
        replace hx139_1 := (HB.out.cell (World.block_lt_of_cell? w _ hx139_1)).trans hx139_1
        replace hx139_2 := (HB.out.cell (World.block_lt_of_cell? w _ hx139_2)).trans hx139_2
        replace hx139_3 := (HB.out.cell (World.block_lt_of_cell? w _ hx139_3)).trans hx139_3
        replace hx139_4 := (HB.out.cell (World.block_lt_of_cell? w _ hx139_4)).trans hx139_4
        replace hx139_5 := (HB.out.cell (World.block_lt_of_cell? w _ hx139_5)).trans hx139_5
        replace hx139_6 := (HB.out.cell (World.block_lt_of_cell? w _ hx139_6)).trans hx139_6
        replace hx139_7 := (HB.out.cell (World.block_lt_of_cell? w _ hx139_7)).trans hx139_7
        replace hx139_8 := (HB.out.cell (World.block_lt_of_cell? w _ hx139_8)).trans hx139_8
        replace p139 := eq_true p139
        replace q139 := eq_true q139
        go_wp2_with (first | ((with_reducible refine gate_dst (N := 4) rfl ?_); refine box_event ?hg (N := 4) ?hd (cs := #[.int .i64 0, .int .i64 0, .int .i64 0, .int .i64 0, .int .i64 0, .int .i64 0, .bool false, .int .i64 0, .int .i64 0]) (t := 50) ?hr ?_; (case hd => rfl); (case hg => rfl); (case hr => first | (go_simp; done) | (go_simp; rfl)); intro g0 hg w9 hbox hb; have n0_ := Aside0.mk (below_step (by repeat (first | (with_reducible first | exact HB.out | apply below_alloc | apply pw_below_drewN | apply below_drew1) | exact HB.out)) hb); have n1_ := Aside0.mk (hbox); have n2_ := Aside0.mk ((by rw [hg]; exact (below_size (by repeat (first | (with_reducible first | exact HB.out | apply below_alloc | apply pw_below_drewN | apply below_drew1) | exact HB.out))) : w.heap.size ≤ g0)); have n3_ := Aside0.mk ((by rw [hg]; exact (below_size (by repeat (first | (with_reducible first | exact HB.out | apply below_alloc | apply pw_below_drewN | apply below_drew1) | exact HB.out))) : w.heap.size ≤ g0)); clear HB; have HB := n0_; have K0 := n1_; have G0 := n2_; have E0 := n3_; clear n0_ n1_ n2_ n3_; clear hb hbox hg; have hcz10_0 : w9.cell? ⟨g0, 0, none⟩ = some (.int .i64 0) := (blk_cell K0.out 0).trans rfl; have hcz10_1 : w9.cell? ⟨g0, 1, none⟩ = some (.int .i64 0) := (blk_cell K0.out 1).trans rfl; have hcz10_2 : w9.cell? ⟨g0, 2, none⟩ = some (.int .i64 0) := (blk_cell K0.out 2).trans rfl; have hcz10_3 : w9.cell? ⟨g0, 3, none⟩ = some (.int .i64 0) := (blk_cell K0.out 3).trans rfl; have hcz10_4 : w9.cell? ⟨g0, 4, none⟩ = some (.int .i64 0) := (blk_cell K0.out 4).trans rfl; have hcz10_5 : w9.cell? ⟨g0, 5, none⟩ = some (.int .i64 0) := (blk_cell K0.out 5).trans rfl; have hcz10_6 : w9.cell? ⟨g0, 6, none⟩ = some (.bool false) := (blk_cell K0.out 6).trans rfl; have hcz10_7 : w9.cell? ⟨g0, 7, none⟩ = some (.int .i64 0) := (blk_cell K0.out 7).trans rfl; have hcz10_8 : w9.cell? ⟨g0, 8, none⟩ = some (.int .i64 0) := (blk_cell K0.out 8).trans rfl; have hfz10_0 := blk_frozen K0.out 0; have hfz10_1 := blk_frozen K0.out 1; have hfz10_2 := blk_frozen K0.out 2; have hfz10_3 := blk_frozen K0.out 3; have hfz10_4 := blk_frozen K0.out 4; have hfz10_5 := blk_frozen K0.out 5; have hfz10_6 := blk_frozen K0.out 6; have hfz10_7 := blk_frozen K0.out 7; have hfz10_8 := blk_frozen K0.out 8) | ((with_reducible refine gate_callee (f := 50) rfl ?_); refine goesL_ (some 13) rfl rfl Try.func50 (by kernel_rfl) rfl #[.agg #[.int .i64 ((rd_T50 l0 x7_1).f0.f0), .int .i64 ((rd_T50 l0 x7_1).f0.f1), .int .i64 ((rd_T50 l0 x7_1).f0.f2), .int .i64 ((rd_T50 l0 x7_1).f0.f3), .int .i64 ((rd_T50 l0 x7_1).f0.f4), .int .i64 ((rd_T50 l0 x7_1).f1), .bool ((rd_T50 l0 x7_1).f2), .int .i64 ((rd_T50 l0 x7_1).f3), .int .i64 ((rd_T50 l0 x7_1).f4)]] rfl (by (try simp only [List.map_toArray, List.map_cons, List.map_nil]); first | done | rfl | (simp only [List.length_drop, List.length_take]; rfl)) ?_; (with_reducible refine (entry_May.calls ((rd_T50 l0 x7_1).f0.f0) ((rd_T50 l0 x7_1).f0.f1) ((rd_T50 l0 x7_1).f0.f2) ((rd_T50 l0 x7_1).f0.f3) ((rd_T50 l0 x7_1).f0.f4) ((rd_T50 l0 x7_1).f1) ((rd_T50 l0 x7_1).f2) ((rd_T50 l0 x7_1).f3) ((rd_T50 l0 x7_1).f4) true _ A5.out).mono ?_); rintro e w11 ⟨rfl, hb⟩; refine ⟨_, rfl, ?_⟩; have n0_ := Aside0.mk (blk_below (g := g0) (o := .cells #[.int .i64 ((rd_T50 l0 x7_1).f0.f0), .int .i64 ((rd_T50 l0 x7_1).f0.f1), .int .i64 ((rd_T50 l0 x7_1).f0.f2), .int .i64 ((rd_T50 l0 x7_1).f0.f3), .int .i64 ((rd_T50 l0 x7_1).f0.f4), .int .i64 ((rd_T50 l0 x7_1).f1), .bool ((rd_T50 l0 x7_1).f2), .int .i64 ((rd_T50 l0 x7_1).f3), .int .i64 ((rd_T50 l0 x7_1).f4)] 50 (0, 0)) (by (with_reducible repeat (first | refine blk_drewN ?_ _ | refine blk_drew ?_ | refine blk_alloc ?_ _)); refine blk_put (cs := #[.int .i64 ((rd_T50 l0 x7_1).f0.f0), .int .i64 ((rd_T50 l0 x7_1).f0.f1), .int .i64 ((rd_T50 l0 x7_1).f0.f2), .int .i64 ((rd_T50 l0 x7_1).f0.f3), .int .i64 ((rd_T50 l0 x7_1).f0.f4), .int .i64 ((rd_T50 l0 x7_1).f1), .bool ((rd_T50 l0 x7_1).f2), .int .i64 ((rd_T50 l0 x7_1).f3), .int .i64 0]) ?_ 8 _ rfl; (with_reducible repeat (first | refine blk_drewN ?_ _ | refine blk_drew ?_ | refine blk_alloc ?_ _)); refine blk_put (cs := #[.int .i64 ((rd_T50 l0 x7_1).f0.f0), .int .i64 ((rd_T50 l0 x7_1).f0.f1), .int .i64 ((rd_T50 l0 x7_1).f0.f2), .int .i64 ((rd_T50 l0 x7_1).f0.f3), .int .i64 ((rd_T50 l0 x7_1).f0.f4), .int .i64 ((rd_T50 l0 x7_1).f1), .bool ((rd_T50 l0 x7_1).f2), .int .i64 0, .int .i64 0]) ?_ 7 _ rfl; (with_reducible repeat (first | refine blk_drewN ?_ _ | refine blk_drew ?_ | refine blk_alloc ?_ _)); refine blk_put (cs := #[.int .i64 ((rd_T50 l0 x7_1).f0.f0), .int .i64 ((rd_T50 l0 x7_1).f0.f1), .int .i64 ((rd_T50 l0 x7_1).f0.f2), .int .i64 ((rd_T50 l0 x7_1).f0.f3), .int .i64 ((rd_T50 l0 x7_1).f0.f4), .int .i64 ((rd_T50 l0 x7_1).f1), .bool false, .int .i64 0, .int .i64 0]) ?_ 6 _ rfl; (with_reducible repeat (first | refine blk_drewN ?_ _ | refine blk_drew ?_ | refine blk_alloc ?_ _)); refine blk_put (cs := #[.int .i64 ((rd_T50 l0 x7_1).f0.f0), .int .i64 ((rd_T50 l0 x7_1).f0.f1), .int .i64 ((rd_T50 l0 x7_1).f0.f2), .int .i64 ((rd_T50 l0 x7_1).f0.f3), .int .i64 ((rd_T50 l0 x7_1).f0.f4), .int .i64 0, .bool false, .int .i64 0, .int .i64 0]) ?_ 5 _ rfl; (with_reducible repeat (first | refine blk_drewN ?_ _ | refine blk_drew ?_ | refine blk_alloc ?_ _)); refine blk_put (cs := #[.int .i64 ((rd_T50 l0 x7_1).f0.f0), .int .i64 ((rd_T50 l0 x7_1).f0.f1), .int .i64 ((rd_T50 l0 x7_1).f0.f2), .int .i64 ((rd_T50 l0 x7_1).f0.f3), .int .i64 0, .int .i64 0, .bool false, .int .i64 0, .int .i64 0]) ?_ 4 _ rfl; (with_reducible repeat (first | refine blk_drewN ?_ _ | refine blk_drew ?_ | refine blk_alloc ?_ _)); refine blk_put (cs := #[.int .i64 ((rd_T50 l0 x7_1).f0.f0), .int .i64 ((rd_T50 l0 x7_1).f0.f1), .int .i64 ((rd_T50 l0 x7_1).f0.f2), .int .i64 0, .int .i64 0, .int .i64 0, .bool false, .int .i64 0, .int .i64 0]) ?_ 3 _ rfl; (with_reducible repeat (first | refine blk_drewN ?_ _ | refine blk_drew ?_ | refine blk_alloc ?_ _)); refine blk_put (cs := #[.int .i64 ((rd_T50 l0 x7_1).f0.f0), .int .i64 ((rd_T50 l0 x7_1).f0.f1), .int .i64 0, .int .i64 0, .int .i64 0, .int .i64 0, .bool false, .int .i64 0, .int .i64 0]) ?_ 2 _ rfl; (with_reducible repeat (first | refine blk_drewN ?_ _ | refine blk_drew ?_ | refine blk_alloc ?_ _)); refine blk_put (cs := #[.int .i64 ((rd_T50 l0 x7_1).f0.f0), .int .i64 0, .int .i64 0, .int .i64 0, .int .i64 0, .int .i64 0, .bool false, .int .i64 0, .int .i64 0]) ?_ 1 _ rfl; (with_reducible repeat (first | refine blk_drewN ?_ _ | refine blk_drew ?_ | refine blk_alloc ?_ _)); refine blk_put (cs := #[.int .i64 0, .int .i64 0, .int .i64 0, .int .i64 0, .int .i64 0, .int .i64 0, .bool false, .int .i64 0, .int .i64 0]) ?_ 0 _ rfl; (with_reducible repeat (first | refine blk_drewN ?_ _ | refine blk_drew ?_ | refine blk_alloc ?_ _)); exact K0.out) hb); have n1_ := Aside0.mk (below_step (by repeat (first | (with_reducible first | exact HB.out | apply below_alloc | apply pw_below_drewN | apply below_drew1 | refine below_set ?_ E0.out) | exact HB.out)) hb); clear K0; clear HB; have K0 := n0_; have HB := n1_; clear n0_ n1_; (try clear hb); (try clear hb2); (try clear hk); (try clear hi); have hcz12_0 : w11.cell? ⟨g0, 0, none⟩ = some (.int .i64 ((rd_T50 l0 x7_1).f0.f0)) := (blk_cell K0.out 0).trans rfl; have hcz12_1 : w11.cell? ⟨g0, 1, none⟩ = some (.int .i64 ((rd_T50 l0 x7_1).f0.f1)) := (blk_cell K0.out 1).trans rfl; have hcz12_2 : w11.cell? ⟨g0, 2, none⟩ = some (.int .i64 ((rd_T50 l0 x7_1).f0.f2)) := (blk_cell K0.out 2).trans rfl; have hcz12_3 : w11.cell? ⟨g0, 3, none⟩ = some (.int .i64 ((rd_T50 l0 x7_1).f0.f3)) := (blk_cell K0.out 3).trans rfl; have hcz12_4 : w11.cell? ⟨g0, 4, none⟩ = some (.int .i64 ((rd_T50 l0 x7_1).f0.f4)) := (blk_cell K0.out 4).trans rfl; have hcz12_5 : w11.cell? ⟨g0, 5, none⟩ = some (.int .i64 ((rd_T50 l0 x7_1).f1)) := (blk_cell K0.out 5).trans rfl; have hcz12_6 : w11.cell? ⟨g0, 6, none⟩ = some (.bool ((rd_T50 l0 x7_1).f2)) := (blk_cell K0.out 6).trans rfl; have hcz12_7 : w11.cell? ⟨g0, 7, none⟩ = some (.int .i64 ((rd_T50 l0 x7_1).f3)) := (blk_cell K0.out 7).trans rfl; have hcz12_8 : w11.cell? ⟨g0, 8, none⟩ = some (.int .i64 ((rd_T50 l0 x7_1).f4)) := (blk_cell K0.out 8).trans rfl; have hfz12_0 := blk_frozen K0.out 0; have hfz12_1 := blk_frozen K0.out 1; have hfz12_2 := blk_frozen K0.out 2; have hfz12_3 := blk_frozen K0.out 3; have hfz12_4 := blk_frozen K0.out 4; have hfz12_5 := blk_frozen K0.out 5; have hfz12_6 := blk_frozen K0.out 6; have hfz12_7 := blk_frozen K0.out 7; have hfz12_8 := blk_frozen K0.out 8) | (go_at_call 51; (with_reducible refine (cache_at.calls _ _ l0 ((rd_T50 l0 x7_1).f0.f0) ((rd_T50 l0 x7_1).f0.f1) ((rd_T50 l0 x7_1).f0.f2) ((rd_T50 l0 x7_1).f0.f3) ((rd_T50 l0 x7_1).f0.f4) t142 _ ?side1 ?side2 A7.out).mono ?_); (case side1 => repeat (first | exact (Kd.C_below HR0.out HB.out) | (with_reducible refine Kd.C_alloc ?_ _) | (with_reducible refine Kd.C_drewN ?_ _) | (with_reducible refine Kd.C_drew ?_))); (case side2 => exact HC0.out); rintro e w13 ⟨rfl, hb⟩; have n0_ := Aside0.mk (blk_below (g := g0) (o := .cells #[.int .i64 ((rd_T50 l0 x7_1).f0.f0), .int .i64 ((rd_T50 l0 x7_1).f0.f1), .int .i64 ((rd_T50 l0 x7_1).f0.f2), .int .i64 ((rd_T50 l0 x7_1).f0.f3), .int .i64 ((rd_T50 l0 x7_1).f0.f4), .int .i64 ((rd_T50 l0 x7_1).f1), .bool ((rd_T50 l0 x7_1).f2), .int .i64 ((rd_T50 l0 x7_1).f3), .int .i64 ((rd_T50 l0 x7_1).f4)] 50 (0, 0)) (by (with_reducible repeat (first | refine blk_drewN ?_ _ | refine blk_drew ?_ | refine blk_alloc ?_ _)); exact K0.out) hb); have n1_ := Aside0.mk (below_step (by repeat (first | (with_reducible first | exact HB.out | apply below_alloc | apply pw_below_drewN | apply below_drew1 | refine below_set ?_ E0.out) | exact HB.out)) hb); clear K0; clear HB; have K0 := n0_; have HB := n1_; clear n0_ n1_; (try clear hb); (try clear hb2); (try clear hk); (try clear hi)))
        go_roundg k1
        case measure => have := HK1.out; omega
        case rel => exact ⟨(wrap64 (x7_1 + 1)), (by first | rfl | (simp; done) | (simp [*]; done)), H', ⟨by have := HK1.out; omega⟩, ⟨by repeat (first | (with_reducible first | exact HB.out | apply below_alloc | apply pw_below_drewN | apply below_drew1 | refine below_set ?_ E0.out) | exact HB.out)⟩⟩
       ·rw [if_neg c8] at H
        have c8b0 : (t142 == x7_1) = false := beq_eq_false_iff_ne.mpr c8
        have c8b1 : (t142 != x7_1) = true := bne_iff_ne.mpr c8
        obtain rfl := Option.some.inj H
        have p139 : 0 ≤ (x7_1 : Int) := of_decide_eq_true (by first | (with_reducible assumption) | assumption)
        have q139 : x7_1 < (l0.length : Int) := of_decide_eq_true (by first | (with_reducible assumption) | assumption)
        obtain ⟨ad139, e139, hx139_0, hx139_1, hx139_2, hx139_3, hx139_4, hx139_5, hx139_6, hx139_7, hx139_8⟩ := at_T50 HR0.out x7_1 p139 q139
        cases e139
        replace hx139_0 := (HB.out.cell (World.block_lt_of_cell? w _ hx139_0)).trans hx139_0
        replace hx139_1 := (HB.out.cell (World.block_lt_of_cell? w _ hx139_1)).trans hx139_1
        replace hx139_2 := (HB.out.cell (World.block_lt_of_cell? w _ hx139_2)).trans hx139_2
        replace hx139_3 := (HB.out.cell (World.block_lt_of_cell? w _ hx139_3)).trans hx139_3
        replace hx139_4 := (HB.out.cell (World.block_lt_of_cell? w _ hx139_4)).trans hx139_4
        replace hx139_5 := (HB.out.cell (World.block_lt_of_cell? w _ hx139_5)).trans hx139_5
        replace hx139_6 := (HB.out.cell (World.block_lt_of_cell? w _ hx139_6)).trans hx139_6
        replace hx139_7 := (HB.out.cell (World.block_lt_of_cell? w _ hx139_7)).trans hx139_7
        replace hx139_8 := (HB.out.cell (World.block_lt_of_cell? w _ hx139_8)).trans hx139_8
        replace p139 := eq_true p139
        replace q139 := eq_true q139
        go_wp2_with (first | ((with_reducible refine gate_dst (N := 4) rfl ?_); refine box_event ?hg (N := 4) ?hd (cs := #[.int .i64 0, .int .i64 0, .int .i64 0, .int .i64 0, .int .i64 0, .int .i64 0, .bool false, .int .i64 0, .int .i64 0]) (t := 50) ?hr ?_; (case hd => rfl); (case hg => rfl); (case hr => first | (go_simp; done) | (go_simp; rfl)); intro g0 hg w14 hbox hb; have n0_ := Aside0.mk (below_step (by repeat (first | (with_reducible first | exact HB.out | apply below_alloc | apply pw_below_drewN | apply below_drew1) | exact HB.out)) hb); have n1_ := Aside0.mk (hbox); have n2_ := Aside0.mk ((by rw [hg]; exact (below_size (by repeat (first | (with_reducible first | exact HB.out | apply below_alloc | apply pw_below_drewN | apply below_drew1) | exact HB.out))) : w.heap.size ≤ g0)); have n3_ := Aside0.mk ((by rw [hg]; exact (below_size (by repeat (first | (with_reducible first | exact HB.out | apply below_alloc | apply pw_below_drewN | apply below_drew1) | exact HB.out))) : w.heap.size ≤ g0)); clear HB; have HB := n0_; have K0 := n1_; have G0 := n2_; have E0 := n3_; clear n0_ n1_ n2_ n3_; clear hb hbox hg; have hcz15_0 : w14.cell? ⟨g0, 0, none⟩ = some (.int .i64 0) := (blk_cell K0.out 0).trans rfl; have hcz15_1 : w14.cell? ⟨g0, 1, none⟩ = some (.int .i64 0) := (blk_cell K0.out 1).trans rfl; have hcz15_2 : w14.cell? ⟨g0, 2, none⟩ = some (.int .i64 0) := (blk_cell K0.out 2).trans rfl; have hcz15_3 : w14.cell? ⟨g0, 3, none⟩ = some (.int .i64 0) := (blk_cell K0.out 3).trans rfl; have hcz15_4 : w14.cell? ⟨g0, 4, none⟩ = some (.int .i64 0) := (blk_cell K0.out 4).trans rfl; have hcz15_5 : w14.cell? ⟨g0, 5, none⟩ = some (.int .i64 0) := (blk_cell K0.out 5).trans rfl; have hcz15_6 : w14.cell? ⟨g0, 6, none⟩ = some (.bool false) := (blk_cell K0.out 6).trans rfl; have hcz15_7 : w14.cell? ⟨g0, 7, none⟩ = some (.int .i64 0) := (blk_cell K0.out 7).trans rfl; have hcz15_8 : w14.cell? ⟨g0, 8, none⟩ = some (.int .i64 0) := (blk_cell K0.out 8).trans rfl; have hfz15_0 := blk_frozen K0.out 0; have hfz15_1 := blk_frozen K0.out 1; have hfz15_2 := blk_frozen K0.out 2; have hfz15_3 := blk_frozen K0.out 3; have hfz15_4 := blk_frozen K0.out 4; have hfz15_5 := blk_frozen K0.out 5; have hfz15_6 := blk_frozen K0.out 6; have hfz15_7 := blk_frozen K0.out 7; have hfz15_8 := blk_frozen K0.out 8) | ((with_reducible refine gate_callee (f := 50) rfl ?_); refine goesL_ (some 13) rfl rfl Try.func50 (by kernel_rfl) rfl #[.agg #[.int .i64 ((rd_T50 l0 x7_1).f0.f0), .int .i64 ((rd_T50 l0 x7_1).f0.f1), .int .i64 ((rd_T50 l0 x7_1).f0.f2), .int .i64 ((rd_T50 l0 x7_1).f0.f3), .int .i64 ((rd_T50 l0 x7_1).f0.f4), .int .i64 ((rd_T50 l0 x7_1).f1), .bool ((rd_T50 l0 x7_1).f2), .int .i64 ((rd_T50 l0 x7_1).f3), .int .i64 ((rd_T50 l0 x7_1).f4)]] rfl (by (try simp only [List.map_toArray, List.map_cons, List.map_nil]); first | done | rfl | (simp only [List.length_drop, List.length_take]; rfl)) ?_; (with_reducible refine (entry_May.calls ((rd_T50 l0 x7_1).f0.f0) ((rd_T50 l0 x7_1).f0.f1) ((rd_T50 l0 x7_1).f0.f2) ((rd_T50 l0 x7_1).f0.f3) ((rd_T50 l0 x7_1).f0.f4) ((rd_T50 l0 x7_1).f1) ((rd_T50 l0 x7_1).f2) ((rd_T50 l0 x7_1).f3) ((rd_T50 l0 x7_1).f4) true _ A5.out).mono ?_); rintro e w16 ⟨rfl, hb⟩; refine ⟨_, rfl, ?_⟩; have n0_ := Aside0.mk (blk_below (g := g0) (o := .cells #[.int .i64 ((rd_T50 l0 x7_1).f0.f0), .int .i64 ((rd_T50 l0 x7_1).f0.f1), .int .i64 ((rd_T50 l0 x7_1).f0.f2), .int .i64 ((rd_T50 l0 x7_1).f0.f3), .int .i64 ((rd_T50 l0 x7_1).f0.f4), .int .i64 ((rd_T50 l0 x7_1).f1), .bool ((rd_T50 l0 x7_1).f2), .int .i64 ((rd_T50 l0 x7_1).f3), .int .i64 ((rd_T50 l0 x7_1).f4)] 50 (0, 0)) (by (with_reducible repeat (first | refine blk_drewN ?_ _ | refine blk_drew ?_ | refine blk_alloc ?_ _)); refine blk_put (cs := #[.int .i64 ((rd_T50 l0 x7_1).f0.f0), .int .i64 ((rd_T50 l0 x7_1).f0.f1), .int .i64 ((rd_T50 l0 x7_1).f0.f2), .int .i64 ((rd_T50 l0 x7_1).f0.f3), .int .i64 ((rd_T50 l0 x7_1).f0.f4), .int .i64 ((rd_T50 l0 x7_1).f1), .bool ((rd_T50 l0 x7_1).f2), .int .i64 ((rd_T50 l0 x7_1).f3), .int .i64 0]) ?_ 8 _ rfl; (with_reducible repeat (first | refine blk_drewN ?_ _ | refine blk_drew ?_ | refine blk_alloc ?_ _)); refine blk_put (cs := #[.int .i64 ((rd_T50 l0 x7_1).f0.f0), .int .i64 ((rd_T50 l0 x7_1).f0.f1), .int .i64 ((rd_T50 l0 x7_1).f0.f2), .int .i64 ((rd_T50 l0 x7_1).f0.f3), .int .i64 ((rd_T50 l0 x7_1).f0.f4), .int .i64 ((rd_T50 l0 x7_1).f1), .bool ((rd_T50 l0 x7_1).f2), .int .i64 0, .int .i64 0]) ?_ 7 _ rfl; (with_reducible repeat (first | refine blk_drewN ?_ _ | refine blk_drew ?_ | refine blk_alloc ?_ _)); refine blk_put (cs := #[.int .i64 ((rd_T50 l0 x7_1).f0.f0), .int .i64 ((rd_T50 l0 x7_1).f0.f1), .int .i64 ((rd_T50 l0 x7_1).f0.f2), .int .i64 ((rd_T50 l0 x7_1).f0.f3), .int .i64 ((rd_T50 l0 x7_1).f0.f4), .int .i64 ((rd_T50 l0 x7_1).f1), .bool false, .int .i64 0, .int .i64 0]) ?_ 6 _ rfl; (with_reducible repeat (first | refine blk_drewN ?_ _ | refine blk_drew ?_ | refine blk_alloc ?_ _)); refine blk_put (cs := #[.int .i64 ((rd_T50 l0 x7_1).f0.f0), .int .i64 ((rd_T50 l0 x7_1).f0.f1), .int .i64 ((rd_T50 l0 x7_1).f0.f2), .int .i64 ((rd_T50 l0 x7_1).f0.f3), .int .i64 ((rd_T50 l0 x7_1).f0.f4), .int .i64 0, .bool false, .int .i64 0, .int .i64 0]) ?_ 5 _ rfl; (with_reducible repeat (first | refine blk_drewN ?_ _ | refine blk_drew ?_ | refine blk_alloc ?_ _)); refine blk_put (cs := #[.int .i64 ((rd_T50 l0 x7_1).f0.f0), .int .i64 ((rd_T50 l0 x7_1).f0.f1), .int .i64 ((rd_T50 l0 x7_1).f0.f2), .int .i64 ((rd_T50 l0 x7_1).f0.f3), .int .i64 0, .int .i64 0, .bool false, .int .i64 0, .int .i64 0]) ?_ 4 _ rfl; (with_reducible repeat (first | refine blk_drewN ?_ _ | refine blk_drew ?_ | refine blk_alloc ?_ _)); refine blk_put (cs := #[.int .i64 ((rd_T50 l0 x7_1).f0.f0), .int .i64 ((rd_T50 l0 x7_1).f0.f1), .int .i64 ((rd_T50 l0 x7_1).f0.f2), .int .i64 0, .int .i64 0, .int .i64 0, .bool false, .int .i64 0, .int .i64 0]) ?_ 3 _ rfl; (with_reducible repeat (first | refine blk_drewN ?_ _ | refine blk_drew ?_ | refine blk_alloc ?_ _)); refine blk_put (cs := #[.int .i64 ((rd_T50 l0 x7_1).f0.f0), .int .i64 ((rd_T50 l0 x7_1).f0.f1), .int .i64 0, .int .i64 0, .int .i64 0, .int .i64 0, .bool false, .int .i64 0, .int .i64 0]) ?_ 2 _ rfl; (with_reducible repeat (first | refine blk_drewN ?_ _ | refine blk_drew ?_ | refine blk_alloc ?_ _)); refine blk_put (cs := #[.int .i64 ((rd_T50 l0 x7_1).f0.f0), .int .i64 0, .int .i64 0, .int .i64 0, .int .i64 0, .int .i64 0, .bool false, .int .i64 0, .int .i64 0]) ?_ 1 _ rfl; (with_reducible repeat (first | refine blk_drewN ?_ _ | refine blk_drew ?_ | refine blk_alloc ?_ _)); refine blk_put (cs := #[.int .i64 0, .int .i64 0, .int .i64 0, .int .i64 0, .int .i64 0, .int .i64 0, .bool false, .int .i64 0, .int .i64 0]) ?_ 0 _ rfl; (with_reducible repeat (first | refine blk_drewN ?_ _ | refine blk_drew ?_ | refine blk_alloc ?_ _)); exact K0.out) hb); have n1_ := Aside0.mk (below_step (by repeat (first | (with_reducible first | exact HB.out | apply below_alloc | apply pw_below_drewN | apply below_drew1 | refine below_set ?_ E0.out) | exact HB.out)) hb); clear K0; clear HB; have K0 := n0_; have HB := n1_; clear n0_ n1_; (try clear hb); (try clear hb2); (try clear hk); (try clear hi); have hcz17_0 : w16.cell? ⟨g0, 0, none⟩ = some (.int .i64 ((rd_T50 l0 x7_1).f0.f0)) := (blk_cell K0.out 0).trans rfl; have hcz17_1 : w16.cell? ⟨g0, 1, none⟩ = some (.int .i64 ((rd_T50 l0 x7_1).f0.f1)) := (blk_cell K0.out 1).trans rfl; have hcz17_2 : w16.cell? ⟨g0, 2, none⟩ = some (.int .i64 ((rd_T50 l0 x7_1).f0.f2)) := (blk_cell K0.out 2).trans rfl; have hcz17_3 : w16.cell? ⟨g0, 3, none⟩ = some (.int .i64 ((rd_T50 l0 x7_1).f0.f3)) := (blk_cell K0.out 3).trans rfl; have hcz17_4 : w16.cell? ⟨g0, 4, none⟩ = some (.int .i64 ((rd_T50 l0 x7_1).f0.f4)) := (blk_cell K0.out 4).trans rfl; have hcz17_5 : w16.cell? ⟨g0, 5, none⟩ = some (.int .i64 ((rd_T50 l0 x7_1).f1)) := (blk_cell K0.out 5).trans rfl; have hcz17_6 : w16.cell? ⟨g0, 6, none⟩ = some (.bool ((rd_T50 l0 x7_1).f2)) := (blk_cell K0.out 6).trans rfl; have hcz17_7 : w16.cell? ⟨g0, 7, none⟩ = some (.int .i64 ((rd_T50 l0 x7_1).f3)) := (blk_cell K0.out 7).trans rfl; have hcz17_8 : w16.cell? ⟨g0, 8, none⟩ = some (.int .i64 ((rd_T50 l0 x7_1).f4)) := (blk_cell K0.out 8).trans rfl; have hfz17_0 := blk_frozen K0.out 0; have hfz17_1 := blk_frozen K0.out 1; have hfz17_2 := blk_frozen K0.out 2; have hfz17_3 := blk_frozen K0.out 3; have hfz17_4 := blk_frozen K0.out 4; have hfz17_5 := blk_frozen K0.out 5; have hfz17_6 := blk_frozen K0.out 6; have hfz17_7 := blk_frozen K0.out 7; have hfz17_8 := blk_frozen K0.out 8) | (go_at_call 51; (with_reducible refine (cache_at.calls _ _ l0 ((rd_T50 l0 x7_1).f0.f0) ((rd_T50 l0 x7_1).f0.f1) ((rd_T50 l0 x7_1).f0.f2) ((rd_T50 l0 x7_1).f0.f3) ((rd_T50 l0 x7_1).f0.f4) t142 _ ?side1 ?side2 A7.out).mono ?_); (case side1 => repeat (first | exact (Kd.C_below HR0.out HB.out) | (with_reducible refine Kd.C_alloc ?_ _) | (with_reducible refine Kd.C_drewN ?_ _) | (with_reducible refine Kd.C_drew ?_))); (case side2 => exact HC0.out); rintro e w18 ⟨rfl, hb⟩; have n0_ := Aside0.mk (blk_below (g := g0) (o := .cells #[.int .i64 ((rd_T50 l0 x7_1).f0.f0), .int .i64 ((rd_T50 l0 x7_1).f0.f1), .int .i64 ((rd_T50 l0 x7_1).f0.f2), .int .i64 ((rd_T50 l0 x7_1).f0.f3), .int .i64 ((rd_T50 l0 x7_1).f0.f4), .int .i64 ((rd_T50 l0 x7_1).f1), .bool ((rd_T50 l0 x7_1).f2), .int .i64 ((rd_T50 l0 x7_1).f3), .int .i64 ((rd_T50 l0 x7_1).f4)] 50 (0, 0)) (by (with_reducible repeat (first | refine blk_drewN ?_ _ | refine blk_drew ?_ | refine blk_alloc ?_ _)); exact K0.out) hb); have n1_ := Aside0.mk (below_step (by repeat (first | (with_reducible first | exact HB.out | apply below_alloc | apply pw_below_drewN | apply below_drew1 | refine below_set ?_ E0.out) | exact HB.out)) hb); clear K0; clear HB; have K0 := n0_; have HB := n1_; clear n0_ n1_; (try clear hb); (try clear hb2); (try clear hk); (try clear hi)))
        go_ret
        exact ⟨by first | rfl | (simp [errW_none, errW_some] <;> rfl) | (simp [*, errW_none, errW_some] <;> rfl), by repeat (first | (with_reducible first | exact HB.out | apply below_alloc | apply pw_below_drewN | apply below_drew1 | refine below_set ?_ E0.out) | exact HB.out)⟩
      ·replace c6 := Bool.eq_false_iff.mpr c6
       subst c6
       have H1 : (some false) = some r := by rw [if_neg (show ¬ (false = true) by decide)] at H; exact H
       clear H
       have H := H1
       clear H1
       obtain rfl := Option.some.inj H
       have p139 : 0 ≤ (x7_1 : Int) := of_decide_eq_true (by first | (with_reducible assumption) | assumption)
       have q139 : x7_1 < (l0.length : Int) := of_decide_eq_true (by first | (with_reducible assumption) | assumption)
       obtain ⟨ad139, e139, hx139_0, hx139_1, hx139_2, hx139_3, hx139_4, hx139_5, hx139_6, hx139_7, hx139_8⟩ := at_T50 HR0.out x7_1 p139 q139
       cases e139
       replace hx139_0 := (HB.out.cell (World.block_lt_of_cell? w _ hx139_0)).trans hx139_0
       replace hx139_1 := (HB.out.cell (World.block_lt_of_cell? w _ hx139_1)).trans hx139_1
       replace hx139_2 := (HB.out.cell (World.block_lt_of_cell? w _ hx139_2)).trans hx139_2
       replace hx139_3 := (HB.out.cell (World.block_lt_of_cell? w _ hx139_3)).trans hx139_3
       replace hx139_4 := (HB.out.cell (World.block_lt_of_cell? w _ hx139_4)).trans hx139_4
       replace hx139_5 := (HB.out.cell (World.block_lt_of_cell? w _ hx139_5)).trans hx139_5
       replace hx139_6 := (HB.out.cell (World.block_lt_of_cell? w _ hx139_6)).trans hx139_6
       replace hx139_7 := (HB.out.cell (World.block_lt_of_cell? w _ hx139_7)).trans hx139_7
       replace hx139_8 := (HB.out.cell (World.block_lt_of_cell? w _ hx139_8)).trans hx139_8
       replace p139 := eq_true p139
       replace q139 := eq_true q139
       go_wp2_with (first | ((with_reducible refine gate_dst (N := 4) rfl ?_); refine box_event ?hg (N := 4) ?hd (cs := #[.int .i64 0, .int .i64 0, .int .i64 0, .int .i64 0, .int .i64 0, .int .i64 0, .bool false, .int .i64 0, .int .i64 0]) (t := 50) ?hr ?_; (case hd => rfl); (case hg => rfl); (case hr => first | (go_simp; done) | (go_simp; rfl)); intro g0 hg w19 hbox hb; have n0_ := Aside0.mk (below_step (by repeat (first | (with_reducible first | exact HB.out | apply below_alloc | apply pw_below_drewN | apply below_drew1) | exact HB.out)) hb); have n1_ := Aside0.mk (hbox); have n2_ := Aside0.mk ((by rw [hg]; exact (below_size (by repeat (first | (with_reducible first | exact HB.out | apply below_alloc | apply pw_below_drewN | apply below_drew1) | exact HB.out))) : w.heap.size ≤ g0)); have n3_ := Aside0.mk ((by rw [hg]; exact (below_size (by repeat (first | (with_reducible first | exact HB.out | apply below_alloc | apply pw_below_drewN | apply below_drew1) | exact HB.out))) : w.heap.size ≤ g0)); clear HB; have HB := n0_; have K0 := n1_; have G0 := n2_; have E0 := n3_; clear n0_ n1_ n2_ n3_; clear hb hbox hg; have hcz20_0 : w19.cell? ⟨g0, 0, none⟩ = some (.int .i64 0) := (blk_cell K0.out 0).trans rfl; have hcz20_1 : w19.cell? ⟨g0, 1, none⟩ = some (.int .i64 0) := (blk_cell K0.out 1).trans rfl; have hcz20_2 : w19.cell? ⟨g0, 2, none⟩ = some (.int .i64 0) := (blk_cell K0.out 2).trans rfl; have hcz20_3 : w19.cell? ⟨g0, 3, none⟩ = some (.int .i64 0) := (blk_cell K0.out 3).trans rfl; have hcz20_4 : w19.cell? ⟨g0, 4, none⟩ = some (.int .i64 0) := (blk_cell K0.out 4).trans rfl; have hcz20_5 : w19.cell? ⟨g0, 5, none⟩ = some (.int .i64 0) := (blk_cell K0.out 5).trans rfl; have hcz20_6 : w19.cell? ⟨g0, 6, none⟩ = some (.bool false) := (blk_cell K0.out 6).trans rfl; have hcz20_7 : w19.cell? ⟨g0, 7, none⟩ = some (.int .i64 0) := (blk_cell K0.out 7).trans rfl; have hcz20_8 : w19.cell? ⟨g0, 8, none⟩ = some (.int .i64 0) := (blk_cell K0.out 8).trans rfl; have hfz20_0 := blk_frozen K0.out 0; have hfz20_1 := blk_frozen K0.out 1; have hfz20_2 := blk_frozen K0.out 2; have hfz20_3 := blk_frozen K0.out 3; have hfz20_4 := blk_frozen K0.out 4; have hfz20_5 := blk_frozen K0.out 5; have hfz20_6 := blk_frozen K0.out 6; have hfz20_7 := blk_frozen K0.out 7; have hfz20_8 := blk_frozen K0.out 8) | ((with_reducible refine gate_callee (f := 50) rfl ?_); refine goesL_ (some 13) rfl rfl Try.func50 (by kernel_rfl) rfl #[.agg #[.int .i64 ((rd_T50 l0 x7_1).f0.f0), .int .i64 ((rd_T50 l0 x7_1).f0.f1), .int .i64 ((rd_T50 l0 x7_1).f0.f2), .int .i64 ((rd_T50 l0 x7_1).f0.f3), .int .i64 ((rd_T50 l0 x7_1).f0.f4), .int .i64 ((rd_T50 l0 x7_1).f1), .bool ((rd_T50 l0 x7_1).f2), .int .i64 ((rd_T50 l0 x7_1).f3), .int .i64 ((rd_T50 l0 x7_1).f4)]] rfl (by (try simp only [List.map_toArray, List.map_cons, List.map_nil]); first | done | rfl | (simp only [List.length_drop, List.length_take]; rfl)) ?_; (with_reducible refine (entry_May.calls ((rd_T50 l0 x7_1).f0.f0) ((rd_T50 l0 x7_1).f0.f1) ((rd_T50 l0 x7_1).f0.f2) ((rd_T50 l0 x7_1).f0.f3) ((rd_T50 l0 x7_1).f0.f4) ((rd_T50 l0 x7_1).f1) ((rd_T50 l0 x7_1).f2) ((rd_T50 l0 x7_1).f3) ((rd_T50 l0 x7_1).f4) false _ A5.out).mono ?_); rintro e w21 ⟨rfl, hb⟩; refine ⟨_, rfl, ?_⟩; have n0_ := Aside0.mk (blk_below (g := g0) (o := .cells #[.int .i64 ((rd_T50 l0 x7_1).f0.f0), .int .i64 ((rd_T50 l0 x7_1).f0.f1), .int .i64 ((rd_T50 l0 x7_1).f0.f2), .int .i64 ((rd_T50 l0 x7_1).f0.f3), .int .i64 ((rd_T50 l0 x7_1).f0.f4), .int .i64 ((rd_T50 l0 x7_1).f1), .bool ((rd_T50 l0 x7_1).f2), .int .i64 ((rd_T50 l0 x7_1).f3), .int .i64 ((rd_T50 l0 x7_1).f4)] 50 (0, 0)) (by (with_reducible repeat (first | refine blk_drewN ?_ _ | refine blk_drew ?_ | refine blk_alloc ?_ _)); refine blk_put (cs := #[.int .i64 ((rd_T50 l0 x7_1).f0.f0), .int .i64 ((rd_T50 l0 x7_1).f0.f1), .int .i64 ((rd_T50 l0 x7_1).f0.f2), .int .i64 ((rd_T50 l0 x7_1).f0.f3), .int .i64 ((rd_T50 l0 x7_1).f0.f4), .int .i64 ((rd_T50 l0 x7_1).f1), .bool ((rd_T50 l0 x7_1).f2), .int .i64 ((rd_T50 l0 x7_1).f3), .int .i64 0]) ?_ 8 _ rfl; (with_reducible repeat (first | refine blk_drewN ?_ _ | refine blk_drew ?_ | refine blk_alloc ?_ _)); refine blk_put (cs := #[.int .i64 ((rd_T50 l0 x7_1).f0.f0), .int .i64 ((rd_T50 l0 x7_1).f0.f1), .int .i64 ((rd_T50 l0 x7_1).f0.f2), .int .i64 ((rd_T50 l0 x7_1).f0.f3), .int .i64 ((rd_T50 l0 x7_1).f0.f4), .int .i64 ((rd_T50 l0 x7_1).f1), .bool ((rd_T50 l0 x7_1).f2), .int .i64 0, .int .i64 0]) ?_ 7 _ rfl; (with_reducible repeat (first | refine blk_drewN ?_ _ | refine blk_drew ?_ | refine blk_alloc ?_ _)); refine blk_put (cs := #[.int .i64 ((rd_T50 l0 x7_1).f0.f0), .int .i64 ((rd_T50 l0 x7_1).f0.f1), .int .i64 ((rd_T50 l0 x7_1).f0.f2), .int .i64 ((rd_T50 l0 x7_1).f0.f3), .int .i64 ((rd_T50 l0 x7_1).f0.f4), .int .i64 ((rd_T50 l0 x7_1).f1), .bool false, .int .i64 0, .int .i64 0]) ?_ 6 _ rfl; (with_reducible repeat (first | refine blk_drewN ?_ _ | refine blk_drew ?_ | refine blk_alloc ?_ _)); refine blk_put (cs := #[.int .i64 ((rd_T50 l0 x7_1).f0.f0), .int .i64 ((rd_T50 l0 x7_1).f0.f1), .int .i64 ((rd_T50 l0 x7_1).f0.f2), .int .i64 ((rd_T50 l0 x7_1).f0.f3), .int .i64 ((rd_T50 l0 x7_1).f0.f4), .int .i64 0, .bool false, .int .i64 0, .int .i64 0]) ?_ 5 _ rfl; (with_reducible repeat (first | refine blk_drewN ?_ _ | refine blk_drew ?_ | refine blk_alloc ?_ _)); refine blk_put (cs := #[.int .i64 ((rd_T50 l0 x7_1).f0.f0), .int .i64 ((rd_T50 l0 x7_1).f0.f1), .int .i64 ((rd_T50 l0 x7_1).f0.f2), .int .i64 ((rd_T50 l0 x7_1).f0.f3), .int .i64 0, .int .i64 0, .bool false, .int .i64 0, .int .i64 0]) ?_ 4 _ rfl; (with_reducible repeat (first | refine blk_drewN ?_ _ | refine blk_drew ?_ | refine blk_alloc ?_ _)); refine blk_put (cs := #[.int .i64 ((rd_T50 l0 x7_1).f0.f0), .int .i64 ((rd_T50 l0 x7_1).f0.f1), .int .i64 ((rd_T50 l0 x7_1).f0.f2), .int .i64 0, .int .i64 0, .int .i64 0, .bool false, .int .i64 0, .int .i64 0]) ?_ 3 _ rfl; (with_reducible repeat (first | refine blk_drewN ?_ _ | refine blk_drew ?_ | refine blk_alloc ?_ _)); refine blk_put (cs := #[.int .i64 ((rd_T50 l0 x7_1).f0.f0), .int .i64 ((rd_T50 l0 x7_1).f0.f1), .int .i64 0, .int .i64 0, .int .i64 0, .int .i64 0, .bool false, .int .i64 0, .int .i64 0]) ?_ 2 _ rfl; (with_reducible repeat (first | refine blk_drewN ?_ _ | refine blk_drew ?_ | refine blk_alloc ?_ _)); refine blk_put (cs := #[.int .i64 ((rd_T50 l0 x7_1).f0.f0), .int .i64 0, .int .i64 0, .int .i64 0, .int .i64 0, .int .i64 0, .bool false, .int .i64 0, .int .i64 0]) ?_ 1 _ rfl; (with_reducible repeat (first | refine blk_drewN ?_ _ | refine blk_drew ?_ | refine blk_alloc ?_ _)); refine blk_put (cs := #[.int .i64 0, .int .i64 0, .int .i64 0, .int .i64 0, .int .i64 0, .int .i64 0, .bool false, .int .i64 0, .int .i64 0]) ?_ 0 _ rfl; (with_reducible repeat (first | refine blk_drewN ?_ _ | refine blk_drew ?_ | refine blk_alloc ?_ _)); exact K0.out) hb); have n1_ := Aside0.mk (below_step (by repeat (first | (with_reducible first | exact HB.out | apply below_alloc | apply pw_below_drewN | apply below_drew1 | refine below_set ?_ E0.out) | exact HB.out)) hb); clear K0; clear HB; have K0 := n0_; have HB := n1_; clear n0_ n1_; (try clear hb); (try clear hb2); (try clear hk); (try clear hi)))
       go_ret
       exact ⟨by first | rfl | (simp [errW_none, errW_some] <;> rfl) | (simp [*, errW_none, errW_some] <;> rfl), by repeat (first | (with_reducible first | exact HB.out | apply below_alloc | apply pw_below_drewN | apply below_drew1 | refine below_set ?_ E0.out) | exact HB.out)⟩
     ·rw [if_neg c4] at H
      exact absurd H (by simp)
    ·rw [if_neg c3] at H
     exact absurd H (by simp)
   ·rw [if_neg c2] at H
    have c2b0 : decide (x7_1 < (l0.length : Int)) = false := decide_eq_false c2
    clear c2
    obtain rfl := Option.some.inj H
    go_wp2
    go_ret
    exact ⟨by first | rfl | (simp [errW_none, errW_some] <;> rfl) | (simp [*, errW_none, errW_some] <;> rfl), by repeat (first | (with_reducible first | exact HB.out | apply below_alloc | apply pw_below_drewN | apply below_drew1) | exact HB.out)⟩

end Go.Proofs.Ytlapbhgkmmeeoaa.PSpares
end
section
/- Contracts: what calls of these functions of the program do, each as a plain function; written by a program of this session. -/
namespace Go.Proofs.Ytlapbhgkmmeeoaa.PSpares
open Go.RowKit Go.Proofs.YtlapbhgkmmeeoaaW.PrintWords Go.Proofs.YtlapbhgkmmeeoaaW.PrintLast Go.Proofs.YtlapbhgkmmeeoaaW.PrintMore
attribute [local go_sem] max2_int min2_int max_two min_two max_three min_three max_four min_four   -- for this text's walks alone
set_option linter.unusedVariables false
set_option linter.unusedSimpArgs false

/-! ### spare_May: function 16, by hand -/
/-- A node that lies in a block, and what its slices lead to. -/
structure NodeAt (w : World) (g : Nat) (a0 a1 : Int) (A2 : Option Addr) (c2 : Nat) (l2 : List S53) (A3 : Option Addr) (c3 : Nat) (l3 : List S86) (A4 : Option Addr) (c4 : Nat) (l4 : List S91) (A5 : Option Addr) (c5 : Nat) (l5 : List S50) (a6 : Int) : Prop where
 blk : w.heap[g]? = some (.cells #[.int .i64 a0, .int .i64 a1, .slice A2 l2.length c2, .slice A3 l3.length c3, .slice A4 l4.length c4, .slice A5 l5.length c5, .int .i64 a6] 29 (0, 0))
 r2 : Kd.C k53 w A2 l2.length l2
 q2 : l2.length ≤ c2
 r3 : Kd.C k86 w A3 l3.length l3
 q3 : l3.length ≤ c3
 r4 : Kd.C k91 w A4 l4.length l4
 q4 : l4.length ≤ c4
 r5 : Kd.C k50 w A5 l5.length l5
 q5 : l5.length ≤ c5
theorem NodeAt.below {w : World} {g : Nat} {a0 a1 : Int} {A2 : Option Addr} {c2 : Nat} {l2 : List S53} {A3 : Option Addr} {c3 : Nat} {l3 : List S86} {A4 : Option Addr} {c4 : Nat} {l4 : List S91} {A5 : Option Addr} {c5 : Nat} {l5 : List S50} {a6 : Int} {w1 : World} (h : NodeAt w g a0 a1 A2 c2 l2 A3 c3 l3 A4 c4 l4 A5 c5 l5 a6) (hb : Below w.heap.size w w1) : NodeAt w1 g a0 a1 A2 c2 l2 A3 c3 l3 A4 c4 l4 A5 c5 l5 a6 :=
 ⟨blk_below h.blk hb, Kd.C_below h.r2 hb, h.q2, Kd.C_below h.r3 hb, h.q3, Kd.C_below h.r4 hb, h.q4, Kd.C_below h.r5 hb, h.q5⟩
def spare_May.f (k : Nat) (a0 a1 : Int) (l2 : List S53) (l3 : List S86) (l4 : List S91) (l5 : List S50) (a6 : Int) : Option Bool := (conf_May.f a1 l2).bind fun t1 => if t1 = true then (report_Site.f a0).bind fun t2 => (if t2 = true then (health_All.f k l3 4).bind fun t3 => (if t3 = true then (view_May.f k l4).bind fun t4 => (if t4 = true then cache_May.f k l5 else some false) else some false) else some false) else some false
theorem spare_May.mono : ∀ a0 a1 l2 l3 l4 l5 a6 k, LeO (spare_May.f k a0 a1 l2 l3 l4 l5 a6) (spare_May.f (k + 1) a0 a1 l2 l3 l4 l5 a6) := by
 intro a0 a1 l2 l3 l4 l5 a6 k
 unfold spare_May.f
 refine LeO.bind (LeO.refl _) (fun t => ?_)
 split
 ·refine LeO.bind (LeO.refl _) (fun t => ?_)
  split
  ·refine LeO.bind (health_All.mono _ _ _) (fun t => ?_)
   split
   ·refine LeO.bind (view_May.mono _ _) (fun t => ?_)
    split
    ·exact cache_May.mono _ _
    ·exact LeO.refl _
   ·exact LeO.refl _
  ·exact LeO.refl _
 ·exact LeO.refl _
set_option maxHeartbeats 8000000 in
set_option maxRecDepth 100000 in
theorem spare_May.at_ (k g : Nat) (a0 a1 : Int) (A2 : Option Addr) (c2 : Nat) (l2 : List S53) (A3 : Option Addr) (c3 : Nat) (l3 : List S86) (A4 : Option Addr) (c4 : Nat) (l4 : List S91) (A5 : Option Addr) (c5 : Nat) (l5 : List S50) (a6 : Int) (r : Bool) (w : World) (hN : NodeAt w g a0 a1 A2 c2 l2 A3 c3 l3 A4 c4 l4 A5 c5 l5 a6) (h : spare_May.f k a0 a1 l2 l3 l4 l5 a6 = some r) :
  Calls Try.prog 16 #[.pointer (some ⟨g, 0, none⟩)] w fun e w' => e = .returned (.bool r) ∧ Below w.heap.size w w' := by
 have HN := Aside0.mk hN
 have HB := Aside0.mk (Below.refl w.heap.size w)
 have x0 : w.cell? ⟨g, 0, none⟩ = some (.int .i64 a0) := (blk_cell hN.blk 0).trans rfl
 have x1 : w.cell? ⟨g, 1, none⟩ = some (.int .i64 a1) := (blk_cell hN.blk 1).trans rfl
 have x2 : w.cell? ⟨g, 2, none⟩ = some (.slice A2 l2.length c2) := (blk_cell hN.blk 2).trans rfl
 have x3 : w.cell? ⟨g, 3, none⟩ = some (.slice A3 l3.length c3) := (blk_cell hN.blk 3).trans rfl
 have x4 : w.cell? ⟨g, 4, none⟩ = some (.slice A4 l4.length c4) := (blk_cell hN.blk 4).trans rfl
 have x5 : w.cell? ⟨g, 5, none⟩ = some (.slice A5 l5.length c5) := (blk_cell hN.blk 5).trans rfl
 clear hN
 obtain ⟨t1, h1, h⟩ := Option.bind_eq_some_iff.mp h
 replace h1 := Aside0.mk h1
 cases t1
 ·obtain rfl : false = r := Option.some.inj h
  clear h
  go_enter Try.func16, Try.ntmps16
  go_wp2_with (first | (go_at_call 33; refine (conf_May.calls a1 _ _ l2 false _ HN.out.r2 HN.out.q2 h1.out).mono ?_; rintro e w1 ⟨rfl, hb⟩; replace x0 := pw_cell_below hb x0; replace x1 := pw_cell_below hb x1; replace x2 := pw_cell_below hb x2; replace x3 := pw_cell_below hb x3; replace x4 := pw_cell_below hb x4; replace x5 := pw_cell_below hb x5; replace HN := Aside0.mk (HN.out.below hb); replace HB := Aside0.mk (below_step HB.out hb); clear hb))
  go_ret
  exact ⟨rfl, HB.out⟩
 ·rw [if_pos rfl] at h
  obtain ⟨t2, h2, h⟩ := Option.bind_eq_some_iff.mp h
  replace h2 := Aside0.mk h2
  cases t2
  ·obtain rfl : false = r := Option.some.inj h
   clear h
   go_enter Try.func16, Try.ntmps16
   go_wp2_with (first | (go_at_call 33; refine (conf_May.calls a1 _ _ l2 true _ HN.out.r2 HN.out.q2 h1.out).mono ?_; rintro e w1 ⟨rfl, hb⟩; replace x0 := pw_cell_below hb x0; replace x1 := pw_cell_below hb x1; replace x2 := pw_cell_below hb x2; replace x3 := pw_cell_below hb x3; replace x4 := pw_cell_below hb x4; replace x5 := pw_cell_below hb x5; replace HN := Aside0.mk (HN.out.below hb); replace HB := Aside0.mk (below_step HB.out hb); clear hb) | (go_at_call 34; refine (report_Site.calls a0 false _ h2.out).mono ?_; rintro e w2 ⟨rfl, hn⟩; have hb := Go.Proofs.Ytlapbhgkmmeeoaa.Hand.hk_drawn hn; clear hn; replace x0 := pw_cell_below hb x0; replace x1 := pw_cell_below hb x1; replace x2 := pw_cell_below hb x2; replace x3 := pw_cell_below hb x3; replace x4 := pw_cell_below hb x4; replace x5 := pw_cell_below hb x5; replace HN := Aside0.mk (HN.out.below hb); replace HB := Aside0.mk (below_step HB.out hb); clear hb))
   go_ret
   exact ⟨rfl, HB.out⟩
  ·rw [if_pos rfl] at h
   obtain ⟨t3, h3, h⟩ := Option.bind_eq_some_iff.mp h
   replace h3 := Aside0.mk h3
   cases t3
   ·obtain rfl : false = r := Option.some.inj h
    clear h
    go_enter Try.func16, Try.ntmps16
    go_wp2_with (first | (go_at_call 33; refine (conf_May.calls a1 _ _ l2 true _ HN.out.r2 HN.out.q2 h1.out).mono ?_; rintro e w1 ⟨rfl, hb⟩; replace x0 := pw_cell_below hb x0; replace x1 := pw_cell_below hb x1; replace x2 := pw_cell_below hb x2; replace x3 := pw_cell_below hb x3; replace x4 := pw_cell_below hb x4; replace x5 := pw_cell_below hb x5; replace HN := Aside0.mk (HN.out.below hb); replace HB := Aside0.mk (below_step HB.out hb); clear hb) | (go_at_call 34; refine (report_Site.calls a0 true _ h2.out).mono ?_; rintro e w2 ⟨rfl, hn⟩; have hb := Go.Proofs.Ytlapbhgkmmeeoaa.Hand.hk_drawn hn; clear hn; replace x0 := pw_cell_below hb x0; replace x1 := pw_cell_below hb x1; replace x2 := pw_cell_below hb x2; replace x3 := pw_cell_below hb x3; replace x4 := pw_cell_below hb x4; replace x5 := pw_cell_below hb x5; replace HN := Aside0.mk (HN.out.below hb); replace HB := Aside0.mk (below_step HB.out hb); clear hb) | (go_at_call 35; refine (health_All.calls k _ _ l3 4 false _ HN.out.r3 HN.out.q3 h3.out).mono ?_; rintro e w3 ⟨rfl, hb⟩; replace x0 := pw_cell_below hb x0; replace x1 := pw_cell_below hb x1; replace x2 := pw_cell_below hb x2; replace x3 := pw_cell_below hb x3; replace x4 := pw_cell_below hb x4; replace x5 := pw_cell_below hb x5; replace HN := Aside0.mk (HN.out.below hb); replace HB := Aside0.mk (below_step HB.out hb); clear hb))
    go_ret
    exact ⟨rfl, HB.out⟩
   ·rw [if_pos rfl] at h
    obtain ⟨t4, h4, h⟩ := Option.bind_eq_some_iff.mp h
    replace h4 := Aside0.mk h4
    cases t4
    ·obtain rfl : false = r := Option.some.inj h
     clear h
     go_enter Try.func16, Try.ntmps16
     go_wp2_with (first | (go_at_call 33; refine (conf_May.calls a1 _ _ l2 true _ HN.out.r2 HN.out.q2 h1.out).mono ?_; rintro e w1 ⟨rfl, hb⟩; replace x0 := pw_cell_below hb x0; replace x1 := pw_cell_below hb x1; replace x2 := pw_cell_below hb x2; replace x3 := pw_cell_below hb x3; replace x4 := pw_cell_below hb x4; replace x5 := pw_cell_below hb x5; replace HN := Aside0.mk (HN.out.below hb); replace HB := Aside0.mk (below_step HB.out hb); clear hb) | (go_at_call 34; refine (report_Site.calls a0 true _ h2.out).mono ?_; rintro e w2 ⟨rfl, hn⟩; have hb := Go.Proofs.Ytlapbhgkmmeeoaa.Hand.hk_drawn hn; clear hn; replace x0 := pw_cell_below hb x0; replace x1 := pw_cell_below hb x1; replace x2 := pw_cell_below hb x2; replace x3 := pw_cell_below hb x3; replace x4 := pw_cell_below hb x4; replace x5 := pw_cell_below hb x5; replace HN := Aside0.mk (HN.out.below hb); replace HB := Aside0.mk (below_step HB.out hb); clear hb) | (go_at_call 35; refine (health_All.calls k _ _ l3 4 true _ HN.out.r3 HN.out.q3 h3.out).mono ?_; rintro e w3 ⟨rfl, hb⟩; replace x0 := pw_cell_below hb x0; replace x1 := pw_cell_below hb x1; replace x2 := pw_cell_below hb x2; replace x3 := pw_cell_below hb x3; replace x4 := pw_cell_below hb x4; replace x5 := pw_cell_below hb x5; replace HN := Aside0.mk (HN.out.below hb); replace HB := Aside0.mk (below_step HB.out hb); clear hb) | (go_at_call 36; refine (view_May.calls k _ _ l4 false _ HN.out.r4 HN.out.q4 h4.out).mono ?_; rintro e w4 ⟨rfl, hb⟩; replace x0 := pw_cell_below hb x0; replace x1 := pw_cell_below hb x1; replace x2 := pw_cell_below hb x2; replace x3 := pw_cell_below hb x3; replace x4 := pw_cell_below hb x4; replace x5 := pw_cell_below hb x5; replace HN := Aside0.mk (HN.out.below hb); replace HB := Aside0.mk (below_step HB.out hb); clear hb))
     go_ret
     exact ⟨rfl, HB.out⟩
    ·rw [if_pos rfl] at h
     have h5 := Aside0.mk h
     clear h
     go_enter Try.func16, Try.ntmps16
     go_wp2_with (first | (go_at_call 33; refine (conf_May.calls a1 _ _ l2 true _ HN.out.r2 HN.out.q2 h1.out).mono ?_; rintro e w1 ⟨rfl, hb⟩; replace x0 := pw_cell_below hb x0; replace x1 := pw_cell_below hb x1; replace x2 := pw_cell_below hb x2; replace x3 := pw_cell_below hb x3; replace x4 := pw_cell_below hb x4; replace x5 := pw_cell_below hb x5; replace HN := Aside0.mk (HN.out.below hb); replace HB := Aside0.mk (below_step HB.out hb); clear hb) | (go_at_call 34; refine (report_Site.calls a0 true _ h2.out).mono ?_; rintro e w2 ⟨rfl, hn⟩; have hb := Go.Proofs.Ytlapbhgkmmeeoaa.Hand.hk_drawn hn; clear hn; replace x0 := pw_cell_below hb x0; replace x1 := pw_cell_below hb x1; replace x2 := pw_cell_below hb x2; replace x3 := pw_cell_below hb x3; replace x4 := pw_cell_below hb x4; replace x5 := pw_cell_below hb x5; replace HN := Aside0.mk (HN.out.below hb); replace HB := Aside0.mk (below_step HB.out hb); clear hb) | (go_at_call 35; refine (health_All.calls k _ _ l3 4 true _ HN.out.r3 HN.out.q3 h3.out).mono ?_; rintro e w3 ⟨rfl, hb⟩; replace x0 := pw_cell_below hb x0; replace x1 := pw_cell_below hb x1; replace x2 := pw_cell_below hb x2; replace x3 := pw_cell_below hb x3; replace x4 := pw_cell_below hb x4; replace x5 := pw_cell_below hb x5; replace HN := Aside0.mk (HN.out.below hb); replace HB := Aside0.mk (below_step HB.out hb); clear hb) | (go_at_call 36; refine (view_May.calls k _ _ l4 true _ HN.out.r4 HN.out.q4 h4.out).mono ?_; rintro e w4 ⟨rfl, hb⟩; replace x0 := pw_cell_below hb x0; replace x1 := pw_cell_below hb x1; replace x2 := pw_cell_below hb x2; replace x3 := pw_cell_below hb x3; replace x4 := pw_cell_below hb x4; replace x5 := pw_cell_below hb x5; replace HN := Aside0.mk (HN.out.below hb); replace HB := Aside0.mk (below_step HB.out hb); clear hb) | (go_at_call 37; refine (cache_May.calls k _ _ l5 r _ HN.out.r5 HN.out.q5 h5.out).mono ?_; rintro e w5 ⟨rfl, hb⟩; replace x0 := pw_cell_below hb x0; replace x1 := pw_cell_below hb x1; replace x2 := pw_cell_below hb x2; replace x3 := pw_cell_below hb x3; replace x4 := pw_cell_below hb x4; replace x5 := pw_cell_below hb x5; replace HN := Aside0.mk (HN.out.below hb); replace HB := Aside0.mk (below_step HB.out hb); clear hb))
     go_ret
     exact ⟨rfl, HB.out⟩


/-! ### conf_Site: function 17, by hand -/
set_option maxHeartbeats 4000000 in
set_option maxRecDepth 100000 in
theorem conf_Site.no (g : Nat) (A : Option Addr) (c n : Nat) (i : Int) (hi : i < 0 ∨ (n : Int) ≤ i) (w : World) (h1 : w.cell? ⟨g, 1, none⟩ = some (.slice A n c)) :
  Calls Try.prog 17 #[.pointer (some ⟨g, 0, none⟩), .int .i64 i] w fun e w' => e = .returned (.tuple #[.agg #[.int .i64 0, .bool false, .int .i64 0, .slice none 0 0], .bool false]) ∧ Below w.heap.size w w' := by
 have hu := Try.underlying53
 have h1' : ∀ o, (w.alloc o).cell? ⟨g, 1, none⟩ = some (.slice A n c) := fun o => pw_cell_below ((Below.refl _ _).alloc (Nat.le_refl _) o) h1
 by_cases h0 : i < 0
 ·clear hi
  go_enter Try.func17, Try.ntmps17
  go_wp2
  exact bodyPost_ret (v := .tuple #[.agg #[.int .i64 0, .bool false, .int .i64 0, .slice none 0 0], .bool false]) (by simp [results, Try.results17, go_sem]) rfl ⟨rfl, by repeat (first | exact Below.refl _ _ | exact (Below.refl _ _).alloc (Nat.le_refl _) _ | refine Below.setCell ?_ (by simp) _ | refine pw_below_drewN ?_ _)⟩
 ·have h2 : (n : Int) ≤ i := by omega
  clear hi
  go_enter Try.func17, Try.ntmps17
  go_wp2
  exact bodyPost_ret (v := .tuple #[.agg #[.int .i64 0, .bool false, .int .i64 0, .slice none 0 0], .bool false]) (by simp [results, Try.results17, go_sem]) rfl ⟨rfl, by repeat (first | exact Below.refl _ _ | exact (Below.refl _ _).alloc (Nat.le_refl _) _ | refine Below.setCell ?_ (by simp) _ | refine pw_below_drewN ?_ _)⟩
set_option maxHeartbeats 4000000 in
set_option maxRecDepth 100000 in
theorem conf_Site.yes (g : Nat) (A : Option Addr) (c : Nat) (l : List S53) (i : Nat) (x : S53) (hx : l[i]? = some x) (w : World) (h1 : w.cell? ⟨g, 1, none⟩ = some (.slice A l.length c)) (hr : Kd.C k53 w A l.length l) :
  Calls Try.prog 17 #[.pointer (some ⟨g, 0, none⟩), .int .i64 (i : Int)] w fun e w' => Aside0 (∃ A3 c3, e = .returned (.tuple #[.agg #[.int .i64 x.f0, .bool x.f1, .int .i64 x.f2, .slice A3 x.f3.length c3], .bool true]) ∧ x.f3.length ≤ c3 ∧ Kd.C k83 w A3 x.f3.length x.f3 ∧ Below w.heap.size w w') := by
 have hl := hr.2.1
 obtain ⟨hi, hx'⟩ := List.getElem?_eq_some_iff.1 hx
 obtain ⟨ad, A3, c3, e, hx0, hx1, hx2, hx3, l3, g3⟩ := at_T53 hr (i : Int) (by omega) (by omega)
 subst e
 have er : rd_T53 l (i : Int) = x := by simp [rd_T53, hi, hx']
 rw [er] at hx0 hx1 hx2 hx3 l3 g3
 rw [Int.toNat_natCast] at hx0 hx1 hx2 hx3
 have G := Aside0.mk (And.intro l3 g3)
 clear l3 g3 hr er hx hx'
 have hu := Try.underlying53
 have h1' : ∀ o, (w.alloc o).cell? ⟨g, 1, none⟩ = some (.slice (some ad) l.length c) := fun o => pw_cell_below ((Below.refl _ _).alloc (Nat.le_refl _) o) h1
 have y0 : ∀ o, (w.alloc o).cell? _ = _ := fun o => pw_cell_below ((Below.refl _ _).alloc (Nat.le_refl _) o) hx0
 have y1 : ∀ o, (w.alloc o).cell? _ = _ := fun o => pw_cell_below ((Below.refl _ _).alloc (Nat.le_refl _) o) hx1
 have y2 : ∀ o, (w.alloc o).cell? _ = _ := fun o => pw_cell_below ((Below.refl _ _).alloc (Nat.le_refl _) o) hx2
 have y3 : ∀ o, (w.alloc o).cell? _ = _ := fun o => pw_cell_below ((Below.refl _ _).alloc (Nat.le_refl _) o) hx3
 clear hx0 hx1 hx2 hx3
 go_enter Try.func17, Try.ntmps17
 go_wp2
 exact bodyPost_ret (v := .tuple #[.agg #[.int .i64 x.f0, .bool x.f1, .int .i64 x.f2, .slice A3 x.f3.length c3], .bool true]) (by simp [results, Try.results17, go_sem]) rfl
  (Aside0.mk ⟨A3, c3, rfl, G.out.1, G.out.2, by repeat (first | exact Below.refl _ _ | exact (Below.refl _ _).alloc (Nat.le_refl _) _ | refine Below.setCell ?_ (by simp) _ | refine pw_below_drewN ?_ _)⟩)


end Go.Proofs.Ytlapbhgkmmeeoaa.PSpares
end
section
/- Contracts: what calls of these functions of the program do, each as a plain function; written by a program of this session. -/
namespace Go.Proofs.Ytlapbhgkmmeeoaa.PSpares
open Go.RowKit Go.Proofs.YtlapbhgkmmeeoaaW.PrintWords Go.Proofs.YtlapbhgkmmeeoaaW.PrintLast Go.Proofs.YtlapbhgkmmeeoaaW.PrintMore
attribute [local go_sem] max2_int min2_int max_two min_two max_three min_three max_four min_four   -- for this text's walks alone
set_option linter.unusedVariables false
set_option linter.unusedSimpArgs false

/-! ### cand_add: function 38 -/
def cand_add.f (l0 : List (S70)) (a1 : Int) (a2 : Int) (a3 : Bool) (a4_0 : Bool) (a4_1 : Int) : Option ((List (S70))) := if a4_0 = true then (if a3 = true then (some l0) else (if a2 ≤ 0 then (some l0) else (if l0.length < 8796093022208 then (some (l0 ++ [(⟨a1, a2⟩ : S70)])) else (none)))) else (some l0)
set_option maxHeartbeats 8000000 in
set_option maxRecDepth 100000 in
theorem cand_add.calls (P0_ : Nat → Prop) (u9000_ : Value) (l0 : List (S70)) (a1 : Int) (a2 : Int) (a3 : Bool) (a4_0 : Bool) (a4_1 : Int) (r : List (S70)) (w0 w : World) (hB : Below w0.heap.size w0 w) (ho0 : Kd.R k70 70 w w0.heap.size P0_ u9000_ l0) (h : cand_add.f l0 a1 a2 a3 a4_0 a4_1 = some r) :
  Calls Try.prog 38 #[u9000_, .int .i64 a1, .int .i64 a2, .bool a3, .agg #[.bool a4_0, .int .i64 a4_1]] w fun e w' => ∃ v0_ : Value, e = .returned (v0_) ∧ Kd.R k70 70 w' w0.heap.size (fun k_ => (P0_ k_ ∨ w.heap.size ≤ k_)) v0_ r ∧ Below w0.heap.size w0 w' ∧ Kept w w' (fun k_ => P0_ k_) := by
 have hu86 := Try.underlying86
 have hu70 := Try.underlying70
 have O0 := Aside0.mk (show Kd.R k70 70 w w0.heap.size (fun k_ => (P0_ k_ ∨ w.heap.size ≤ k_)) u9000_ l0 from Kd.R_mono ho0 (fun k_ hk => (.inl hk)))
 have HK := Aside0.mk (Kept.refl w (fun k_ => P0_ k_))
 have HW0 := Aside0.mk hB.size
 have HB := Aside0.mk hB
 clear hB
 have H : (if a4_0 = true then (if a3 = true then (some l0) else (if a2 ≤ 0 then (some l0) else (if l0.length < 8796093022208 then (some (l0 ++ [(⟨a1, a2⟩ : S70)])) else (none)))) else (some l0)) = some r := h
 clear h
 by_cases c6 : a4_0 = true
 ·subst c6
  have H1 : (if a3 = true then (some l0) else (if a2 ≤ 0 then (some l0) else (if l0.length < 8796093022208 then (some (l0 ++ [(⟨a1, a2⟩ : S70)])) else (none)))) = some r := by rw [if_pos rfl] at H; exact H
  clear H
  have H := H1
  clear H1
  by_cases c7 : a3 = true
  ·subst c7
   have H1 : (some l0) = some r := by rw [if_pos rfl] at H; exact H
   clear H
   have H := H1
   clear H1
   obtain rfl := Option.some.inj H
   go_enter Try.func38, Try.ntmps38
   go_wp2_with (first | ((with_reducible refine gate_dst (N := 9) rfl ?_); refine box_event ?hg (N := 9) ?hd (cs := #[.bool true, .int .i64 a4_1]) (t := 86) ?hr ?_; (case hd => rfl); (case hg => rfl); (case hr => first | (go_simp; done) | (go_simp; rfl)); intro g0 hg w8 hbox hb; have n0_ := Aside0.mk (Kd.R_below (by (with_reducible repeat (first | apply Kd.R_alloc | apply Kd.R_drewN | apply Kd.R_drew)); exact O0.out) hb); have n1_ := Aside0.mk (Kept.below (S := (fun k_ => P0_ k_)) (by repeat (first | (with_reducible first | exact HK.out | apply Kept.alloc | apply Kept.drewN | apply Kept.drew) | exact HK.out)) hb); have n2_ := Aside0.mk (below_step (by repeat (first | (with_reducible first | exact HB.out | apply below_alloc | apply pw_below_drewN | apply below_drew1) | exact HB.out)) hb); have n3_ := Aside0.mk (hbox); have n4_ := Aside0.mk ((by rw [hg]; exact (by first | exact HK.out.1 | exact (show Kept w _ (fun k_ => P0_ k_) from by repeat (first | (with_reducible first | exact HK.out | apply Kept.alloc | apply Kept.drewN | apply Kept.drew) | exact HK.out)).1) : w.heap.size ≤ g0)); have n5_ := Aside0.mk ((by rw [hg]; exact (below_size (by repeat (first | (with_reducible first | exact HB.out | apply below_alloc | apply pw_below_drewN | apply below_drew1) | exact HB.out))) : w0.heap.size ≤ g0)); clear O0; clear HK; clear HB; have O0 := n0_; have HK := n1_; have HB := n2_; have K0 := n3_; have G0 := n4_; have E0 := n5_; clear n0_ n1_ n2_ n3_ n4_ n5_; clear hb hbox hg; have hcz9_0 : w8.cell? ⟨g0, 0, none⟩ = some (.bool true) := (blk_cell K0.out 0).trans rfl; have hcz9_1 : w8.cell? ⟨g0, 1, none⟩ = some (.int .i64 a4_1) := (blk_cell K0.out 1).trans rfl; have hfz9_0 := blk_frozen K0.out 0; have hfz9_1 := blk_frozen K0.out 1))
   go_ret
   exact ⟨_, by first | rfl | (simp [errW_none, errW_some] <;> rfl) | (simp [*, errW_none, errW_some] <;> rfl), by (with_reducible repeat (first | apply Kd.R_alloc | apply Kd.R_drewN | apply Kd.R_drew)); exact O0.out, by repeat (first | (with_reducible first | exact HB.out | apply below_alloc | apply pw_below_drewN | apply below_drew1 | refine below_set ?_ E0.out) | exact HB.out), by repeat (first | (with_reducible first | exact HK.out | apply Kept.alloc | apply Kept.drewN | apply Kept.drew | refine Kept.setCell ?_ (.inr G0.out) _) | exact HK.out)⟩
  ·replace c7 := Bool.eq_false_iff.mpr c7
   subst c7
   have H1 : (if a2 ≤ 0 then (some l0) else (if l0.length < 8796093022208 then (some (l0 ++ [(⟨a1, a2⟩ : S70)])) else (none))) = some r := by rw [if_neg (show ¬ (false = true) by decide)] at H; exact H
   clear H
   have H := H1
   clear H1
   by_cases c10 : a2 ≤ 0
   ·rw [if_pos c10] at H
    have c10b0 : decide (a2 ≤ 0) = true := decide_eq_true c10
    clear c10
    obtain rfl := Option.some.inj H
    go_enter Try.func38, Try.ntmps38
    go_wp2_with (first | ((with_reducible refine gate_dst (N := 9) rfl ?_); refine box_event ?hg (N := 9) ?hd (cs := #[.bool true, .int .i64 a4_1]) (t := 86) ?hr ?_; (case hd => rfl); (case hg => rfl); (case hr => first | (go_simp; done) | (go_simp; rfl)); intro g0 hg w11 hbox hb; have n0_ := Aside0.mk (Kd.R_below (by (with_reducible repeat (first | apply Kd.R_alloc | apply Kd.R_drewN | apply Kd.R_drew)); exact O0.out) hb); have n1_ := Aside0.mk (Kept.below (S := (fun k_ => P0_ k_)) (by repeat (first | (with_reducible first | exact HK.out | apply Kept.alloc | apply Kept.drewN | apply Kept.drew) | exact HK.out)) hb); have n2_ := Aside0.mk (below_step (by repeat (first | (with_reducible first | exact HB.out | apply below_alloc | apply pw_below_drewN | apply below_drew1) | exact HB.out)) hb); have n3_ := Aside0.mk (hbox); have n4_ := Aside0.mk ((by rw [hg]; exact (by first | exact HK.out.1 | exact (show Kept w _ (fun k_ => P0_ k_) from by repeat (first | (with_reducible first | exact HK.out | apply Kept.alloc | apply Kept.drewN | apply Kept.drew) | exact HK.out)).1) : w.heap.size ≤ g0)); have n5_ := Aside0.mk ((by rw [hg]; exact (below_size (by repeat (first | (with_reducible first | exact HB.out | apply below_alloc | apply pw_below_drewN | apply below_drew1) | exact HB.out))) : w0.heap.size ≤ g0)); clear O0; clear HK; clear HB; have O0 := n0_; have HK := n1_; have HB := n2_; have K0 := n3_; have G0 := n4_; have E0 := n5_; clear n0_ n1_ n2_ n3_ n4_ n5_; clear hb hbox hg; have hcz12_0 : w11.cell? ⟨g0, 0, none⟩ = some (.bool true) := (blk_cell K0.out 0).trans rfl; have hcz12_1 : w11.cell? ⟨g0, 1, none⟩ = some (.int .i64 a4_1) := (blk_cell K0.out 1).trans rfl; have hfz12_0 := blk_frozen K0.out 0; have hfz12_1 := blk_frozen K0.out 1))
    go_ret
    exact ⟨_, by first | rfl | (simp [errW_none, errW_some] <;> rfl) | (simp [*, errW_none, errW_some] <;> rfl), by (with_reducible repeat (first | apply Kd.R_alloc | apply Kd.R_drewN | apply Kd.R_drew)); exact O0.out, by repeat (first | (with_reducible first | exact HB.out | apply below_alloc | apply pw_below_drewN | apply below_drew1 | refine below_set ?_ E0.out) | exact HB.out), by repeat (first | (with_reducible first | exact HK.out | apply Kept.alloc | apply Kept.drewN | apply Kept.drew | refine Kept.setCell ?_ (.inr G0.out) _) | exact HK.out)⟩
   ·rw [if_neg c10] at H
    have c10b0 : decide (a2 ≤ 0) = false := decide_eq_false c10
    clear c10
    by_cases c13 : l0.length < 8796093022208
    ·rw [if_pos c13] at H
     have LMc13 := Aside0.mk c13
     clear c13
     obtain ⟨y144, hy144⟩ : ∃ y_ : List (S70), y_ = (l0 ++ [(⟨a1, a2⟩ : S70)]) := ⟨_, rfl⟩
     replace H : (some y144) = some r := by first | (rw [hy144]; with_reducible exact H) | (have H2_ := (Option.bind_some _ _).symm.trans H; rw [hy144]; with_reducible exact H2_) | (have H2_ := (Option.bind_some _ _).symm.trans H; with_reducible exact H2_) | with_reducible exact H | (rw [hy144]; exact H) | exact H
     have Ny144 := Aside0.mk hy144
     clear hy144
     obtain rfl := Option.some.inj H
     go_enter Try.func38, Try.ntmps38
     go_wp2_with (first | ((with_reducible refine gate_dst (N := 9) rfl ?_); refine box_event ?hg (N := 9) ?hd (cs := #[.bool true, .int .i64 a4_1]) (t := 86) ?hr ?_; (case hd => rfl); (case hg => rfl); (case hr => first | (go_simp; done) | (go_simp; rfl)); intro g0 hg w14 hbox hb; have n0_ := Aside0.mk (Kd.R_below (by (with_reducible repeat (first | apply Kd.R_alloc | apply Kd.R_drewN | apply Kd.R_drew)); exact O0.out) hb); have n1_ := Aside0.mk (Kept.below (S := (fun k_ => P0_ k_)) (by repeat (first | (with_reducible first | exact HK.out | apply Kept.alloc | apply Kept.drewN | apply Kept.drew) | exact HK.out)) hb); have n2_ := Aside0.mk (below_step (by repeat (first | (with_reducible first | exact HB.out | apply below_alloc | apply pw_below_drewN | apply below_drew1) | exact HB.out)) hb); have n3_ := Aside0.mk (hbox); have n4_ := Aside0.mk ((by rw [hg]; exact (by first | exact HK.out.1 | exact (show Kept w _ (fun k_ => P0_ k_) from by repeat (first | (with_reducible first | exact HK.out | apply Kept.alloc | apply Kept.drewN | apply Kept.drew) | exact HK.out)).1) : w.heap.size ≤ g0)); have n5_ := Aside0.mk ((by rw [hg]; exact (below_size (by repeat (first | (with_reducible first | exact HB.out | apply below_alloc | apply pw_below_drewN | apply below_drew1) | exact HB.out))) : w0.heap.size ≤ g0)); clear O0; clear HK; clear HB; have O0 := n0_; have HK := n1_; have HB := n2_; have K0 := n3_; have G0 := n4_; have E0 := n5_; clear n0_ n1_ n2_ n3_ n4_ n5_; clear hb hbox hg; have hcz15_0 : w14.cell? ⟨g0, 0, none⟩ = some (.bool true) := (blk_cell K0.out 0).trans rfl; have hcz15_1 : w14.cell? ⟨g0, 1, none⟩ = some (.int .i64 a4_1) := (blk_cell K0.out 1).trans rfl; have hfz15_0 := blk_frozen K0.out 0; have hfz15_1 := blk_frozen K0.out 1) | ((with_reducible refine gate_builtin (b := .append) (xs := #[.tmp 22, .tmp 26]) rfl ?_); at_builtin; refine Kd.R_append k70 (w0 := w0) w0.heap.size rfl (.tmp 22) (.tmp 26) 36 70 (.agg #[(.int .i64 0), (.int .i64 0)]) 16 rfl Try.underlying36 info70 rfl (by decide) (by omega) u9000_ l0 (⟨a1, a2⟩ : S70) [.int .i64 a1, .int .i64 a2] (fun k_ => (P0_ k_ ∨ w.heap.size ≤ k_)) (fun _ => False) rfl rfl ?aP (fun _ hk => hk.elim) ?aF ?aO ?aB ?aS ?aL ?_; (case aP => exact k70_mkM _ _ _ (⟨a1, a2⟩ : S70)); (case aB => exact (by repeat (first | (with_reducible first | exact HB.out | apply below_alloc | apply pw_below_drewN | apply below_drew1 | refine below_set ?_ E0.out) | exact HB.out))); (case aF => exact (fun k_ hk => (.inr (Nat.le_trans (by first | exact HK.out.1 | exact (show Kept w _ (fun k_ => P0_ k_) from by repeat (first | (with_reducible first | exact HK.out | apply Kept.alloc | apply Kept.drewN | apply Kept.drew | refine Kept.setCell ?_ (.inr G0.out) _) | exact HK.out)).1) hk)))); (case aO => exact (by (with_reducible repeat (first | apply Kd.R_alloc | apply Kd.R_drewN | apply Kd.R_drew)); exact O0.out)); (case aS => exact (below_size (by repeat (first | (with_reducible first | exact HB.out | apply below_alloc | apply pw_below_drewN | apply below_drew1 | refine below_set ?_ E0.out) | exact HB.out)))); (case aL => have := LMc13.out; omega); intro v145 w16 ho hb hg hat; rw [← Ny144.out] at ho; have n0_ := Aside0.mk (blk_grown (g := g0) (o := .cells #[.bool true, .int .i64 a4_1] 86 (0, 0)) (by (with_reducible repeat (first | refine blk_drewN ?_ _ | refine blk_drew ?_ | refine blk_alloc ?_ _)); exact K0.out) hg (Kd.R_ne O0.out K0.out (by decide))); have n1_ := Aside0.mk (hb); have n2_ := Aside0.mk (Kept.of_grown (S := (fun k_ => P0_ k_)) hg (by repeat (first | (with_reducible first | exact HK.out | apply Kept.alloc | apply Kept.drewN | apply Kept.drew | refine Kept.setCell ?_ (.inr G0.out) _) | exact HK.out)) (fun k_ e_ => (O0.out.1 k_ e_))); have n3_ := Aside0.mk (ho); clear K0; clear HB; clear HK; clear O0; have K0 := n0_; have HB := n1_; have HK := n2_; have O1 := n3_; clear n0_ n1_ n2_ n3_; clear ho hb hg hat))
     go_ret
     exact ⟨_, by first | rfl | (simp [errW_none, errW_some] <;> rfl) | (simp [*, errW_none, errW_some] <;> rfl), by (with_reducible repeat (first | apply Kd.R_alloc | apply Kd.R_drewN | apply Kd.R_drew)); exact O1.out, by repeat (first | (with_reducible first | exact HB.out | apply below_alloc | apply pw_below_drewN | apply below_drew1 | refine below_set ?_ E0.out) | exact HB.out), by repeat (first | (with_reducible first | exact HK.out | apply Kept.alloc | apply Kept.drewN | apply Kept.drew | refine Kept.setCell ?_ (.inr G0.out) _) | exact HK.out)⟩
    ·rw [if_neg c13] at H
     exact absurd H (by simp)
 ·replace c6 := Bool.eq_false_iff.mpr c6
  subst c6
  have H1 : (some l0) = some r := by rw [if_neg (show ¬ (false = true) by decide)] at H; exact H
  clear H
  have H := H1
  clear H1
  obtain rfl := Option.some.inj H
  go_enter Try.func38, Try.ntmps38
  go_wp2_with (first | ((with_reducible refine gate_dst (N := 9) rfl ?_); refine box_event ?hg (N := 9) ?hd (cs := #[.bool false, .int .i64 a4_1]) (t := 86) ?hr ?_; (case hd => rfl); (case hg => rfl); (case hr => first | (go_simp; done) | (go_simp; rfl)); intro g0 hg w17 hbox hb; have n0_ := Aside0.mk (Kd.R_below (by (with_reducible repeat (first | apply Kd.R_alloc | apply Kd.R_drewN | apply Kd.R_drew)); exact O0.out) hb); have n1_ := Aside0.mk (Kept.below (S := (fun k_ => P0_ k_)) (by repeat (first | (with_reducible first | exact HK.out | apply Kept.alloc | apply Kept.drewN | apply Kept.drew) | exact HK.out)) hb); have n2_ := Aside0.mk (below_step (by repeat (first | (with_reducible first | exact HB.out | apply below_alloc | apply pw_below_drewN | apply below_drew1) | exact HB.out)) hb); have n3_ := Aside0.mk (hbox); have n4_ := Aside0.mk ((by rw [hg]; exact (by first | exact HK.out.1 | exact (show Kept w _ (fun k_ => P0_ k_) from by repeat (first | (with_reducible first | exact HK.out | apply Kept.alloc | apply Kept.drewN | apply Kept.drew) | exact HK.out)).1) : w.heap.size ≤ g0)); have n5_ := Aside0.mk ((by rw [hg]; exact (below_size (by repeat (first | (with_reducible first | exact HB.out | apply below_alloc | apply pw_below_drewN | apply below_drew1) | exact HB.out))) : w0.heap.size ≤ g0)); clear O0; clear HK; clear HB; have O0 := n0_; have HK := n1_; have HB := n2_; have K0 := n3_; have G0 := n4_; have E0 := n5_; clear n0_ n1_ n2_ n3_ n4_ n5_; clear hb hbox hg; have hcz18_0 : w17.cell? ⟨g0, 0, none⟩ = some (.bool false) := (blk_cell K0.out 0).trans rfl; have hcz18_1 : w17.cell? ⟨g0, 1, none⟩ = some (.int .i64 a4_1) := (blk_cell K0.out 1).trans rfl; have hfz18_0 := blk_frozen K0.out 0; have hfz18_1 := blk_frozen K0.out 1))
  go_ret
  exact ⟨_, by first | rfl | (simp [errW_none, errW_some] <;> rfl) | (simp [*, errW_none, errW_some] <;> rfl), by (with_reducible repeat (first | apply Kd.R_alloc | apply Kd.R_drewN | apply Kd.R_drew)); exact O0.out, by repeat (first | (with_reducible first | exact HB.out | apply below_alloc | apply pw_below_drewN | apply below_drew1 | refine below_set ?_ E0.out) | exact HB.out), by repeat (first | (with_reducible first | exact HK.out | apply Kept.alloc | apply Kept.drewN | apply Kept.drew | refine Kept.setCell ?_ (.inr G0.out) _) | exact HK.out)⟩

end Go.Proofs.Ytlapbhgkmmeeoaa.PSpares
end
section
/- Contracts: what calls of these functions of the program do, each as a plain function; written by a program of this session. -/
namespace Go.Proofs.Ytlapbhgkmmeeoaa.PSpares
open Go.RowKit Go.Proofs.YtlapbhgkmmeeoaaW.PrintWords Go.Proofs.YtlapbhgkmmeeoaaW.PrintLast Go.Proofs.YtlapbhgkmmeeoaaW.PrintMore
attribute [local go_sem] max2_int min2_int max_two min_two max_three min_three max_four min_four   -- for this text's walks alone
set_option linter.unusedVariables false
set_option linter.unusedSimpArgs false

/-! ### cand_Backs: function 18, by hand -/
def mayC (v : Int) (l : List S53) : Bool := l.all siteOk && decide (0 ≤ v ∧ v ≤ 1048576) && decide (l.length ≤ 3)
def allB (l : List S86) (n : Int) : Bool := l.all (fun h => healthOk h.f0 h.f1) && (l.length : Int) == n
def addOne (out : List S70) (i : Int) (b : S83) (h : S86) : List S70 := if h.f0 = true ∧ b.f1 = false ∧ 0 < b.f0 then out ++ [⟨i, b.f0⟩] else out
def picked (bs : List S83) (hs : List S86) : Nat → List S70
 | 0 => []
 | i + 1 => addOne (picked bs hs i) (i : Int) (rd_T83 bs (i : Int)) (rd_T86 hs (i : Int))
def cand_Backs.ok (a0_0 : Int) (l0_1 : List S53) (a1 : Int) (l1 : List S86) : Bool := mayC a0_0 l0_1 && (allB l1 4 && decide (0 ≤ a1 ∧ a1 < (l0_1.length : Int)))
def cand_Backs.f (a0_0 : Int) (l0_1 : List S53) (a1 : Int) (l1 : List S86) : Option (List S70 × Int) := some (if cand_Backs.ok a0_0 l0_1 a1 l1 = true then (picked (rd_T53 l0_1 a1).f3 l1 (rd_T53 l0_1 a1).f3.length, 0) else ([], 1300))
theorem picked_len (bs : List S83) (hs : List S86) (i : Nat) : (picked bs hs i).length ≤ i := by
 induction i with
 | zero => exact Nat.le_refl _
 | succ i ih =>
  unfold picked addOne
  split
  ·rw [List.length_append]; simp; omega
  ·omega
theorem add_one (out : List S70) (i : Int) (b : S83) (h : S86) (hl : out.length < 8796093022208) : cand_add.f out i b.f0 b.f1 h.f0 h.f1 = some (addOne out i b h) := by
  unfold cand_add.f addOne
  cases h.f0 <;> cases b.f1 <;> by_cases hb : b.f0 ≤ 0
  all_goals first
    | (simp [hb, hl]; try omega)
    | (have h2 : 0 < b.f0 := by omega
       simp [h2, hl, show ¬ b.f0 ≤ 0 by omega])
theorem all_loop (x0 l : List S86) (n : Int) (hl : l.length ≤ 9223372036854775807) (d : Nat) : ∀ (k i : Nat), l.length - i ≤ d → d < k → i ≤ l.length → health_All.l0 k x0 n l (l.length : Int) (i : Int) = some ((l.drop i).all (fun h => healthOk h.f0 h.f1) && (x0.length : Int) == n) := by
 induction d with
 | zero =>
  intro k i hd hk hi
  obtain ⟨k, rfl⟩ : ∃ m, k = m + 1 := ⟨k - 1, by omega⟩
  simp only [health_All.l0]
  rw [if_neg (by omega), List.drop_of_length_le (by omega)]; rfl
 | succ d ih =>
  intro k i hd hk hi
  obtain ⟨k, rfl⟩ : ∃ m, k = m + 1 := ⟨k - 1, by omega⟩
  simp only [health_All.l0]
  by_cases h : (i : Int) < (l.length : Int)
  ·have hlt : i < l.length := by omega
   have e : rd_T86 l (i : Int) = l[i] := by simp [rd_T86, hlt]
   rw [if_pos h, if_pos (show (0 : Int) ≤ (i : Int) by omega), if_pos h, e, List.drop_eq_getElem_cons hlt, List.all_cons, show wrap64 ((i : Int) + 1) = (i : Int) + 1 by unfold wrap64; omega]
   unfold health_May.f
   cases hh : healthOk l[i].f0 l[i].f1
   ·simp
   ·simp only [Option.bind_some, if_true, Bool.true_and]
    exact ih k (i + 1) (by omega) (by omega) (by omega)
  ·rw [if_neg h, List.drop_of_length_le (by omega)]; rfl
theorem all_f (l : List S86) (n : Int) (hl : l.length ≤ 9223372036854775807) : health_All.f (l.length + 2) l n = some (allB l n) := by
 have := all_loop l l n hl l.length (l.length + 2) 0 (by omega) (by omega) (by omega)
 exact this
set_option maxHeartbeats 8000000 in
set_option maxRecDepth 100000 in
theorem cand_Backs.calls (a0_0 : Int) (A0_1 : Option Addr) (c0_1 : Nat) (l0_1 : List S53) (a1 : Int) (A1 : Option Addr) (c1 : Nat) (l1 : List S86) (r1 : List S70) (r2 : Int) (w : World) (hr0_1 : Kd.C k53 w A0_1 l0_1.length l0_1) (hc0_1 : l0_1.length ≤ c0_1) (hr1 : Kd.C k86 w A1 l1.length l1) (hc1 : l1.length ≤ c1) (h : cand_Backs.f a0_0 l0_1 a1 l1 = some (r1, r2)) :
    Calls Try.prog 18 #[.agg #[.int .i64 a0_0, .slice A0_1 l0_1.length c0_1], .int .i64 a1, .slice A1 l1.length c1] w fun e w' => ∃ v0_ : Value, e = .returned (.tuple #[v0_, .int .i64 r2]) ∧ Kd.R k70 70 w' w.heap.size (fun _ => True) v0_ r1 ∧ Below w.heap.size w w' := by
  have H := Aside0.mk (Option.some.inj h)
  clear h
  have hl1 := hr1.2.1
  have hu := Try.underlying53
  have hu2 := Try.underlying24
  have hu3 := Try.underlying83
  have hu4 := Try.underlying86
  have hmay := Aside0.mk (fun (b : Bool) (hb : mayC a0_0 l0_1 = b) (W : World) (hW : Below w.heap.size w W) => conf_May.calls a0_0 A0_1 c0_1 l0_1 b W (Kd.C_below hr0_1 hW) hc0_1 (by unfold conf_May.f; rw [← hb]; rfl))
  have hall := Aside0.mk (fun (b : Bool) (hb : allB l1 4 = b) (W : World) (hW : Below w.heap.size w W) => health_All.calls (l1.length + 2) A1 c1 l1 4 b W (Kd.C_below hr1 hW) hc1 (by rw [all_f l1 4 (by omega), hb]))
  have hcc := Aside0.mk (fun (W : World) (hb : Below w.heap.size w W) => Kd.C_below hr0_1 hb)
  have hbb := Aside0.mk ((Below.refl w.heap.size w).alloc (Nat.le_refl _) (.cells #[.int .i64 a0_0, .slice A0_1 l0_1.length c0_1] 24))
  have hrow := Aside0.mk (fun (i : Nat) (h : i < l1.length) => at_T86 hr1 (i : Int) (by omega) (by omega))
  by_cases hin : 0 ≤ a1 ∧ a1 < (l0_1.length : Int)
  · obtain ⟨i, rfl⟩ := Int.eq_ofNat_of_zero_le hin.1
    have hi : i < l0_1.length := by omega
    obtain ⟨x, hx⟩ : ∃ x, l0_1[i]? = some x := ⟨l0_1[i], by simp [hi]⟩
    have er : rd_T53 l0_1 (i : Int) = x := by
      obtain ⟨_, hx'⟩ := List.getElem?_eq_some_iff.1 hx
      simp [rd_T53, hi, hx']
    have hxm : mayC a0_0 l0_1 = true → x.f3.length ≤ 4 := by
      intro hm
      unfold mayC at hm; simp only [Bool.and_eq_true, decide_eq_true_eq] at hm
      obtain ⟨_, hx'⟩ := List.getElem?_eq_some_iff.1 hx
      have := List.all_eq_true.1 hm.1.1 x (hx' ▸ List.getElem_mem hi)
      unfold siteOk at this; simp only [Bool.and_eq_true, decide_eq_true_eq] at this; exact this.2
    have HS := Aside0.mk (conf_Site.yes w.heap.size A0_1 c0_1 l0_1 i x hx)
    have HR := Aside0.mk (show (if (mayC a0_0 l0_1 && allB l1 4) = true then (picked x.f3 l1 x.f3.length, (0 : Int)) else ([], 1300)) = (r1, r2) by
      rw [← H.out]; unfold cand_Backs.ok; rw [decide_eq_true hin, Bool.and_true, er])
    clear hr0_1 hc0_1 er hin hi hx H hr1 hc1
    go_enter Try.func18, Try.ntmps18
    go_wp2_with fail
    refine (HS.out _ (by simp) (hcc.out _ hbb.out)).mono ?_
    rintro e w1 ⟨A3, c3, rfl, l3, g3, hb1⟩
    have b0 : w1.cell? ⟨w.heap.size, 0, none⟩ = some (.int .i64 a0_0) := (hb1.cell (p := ⟨w.heap.size, 0, none⟩) (by simp)).trans (by simp)
    have b1 : w1.cell? ⟨w.heap.size, 1, none⟩ = some (.slice A0_1 l0_1.length c0_1) := (hb1.cell (p := ⟨w.heap.size, 1, none⟩) (by simp)).trans (by simp)
    have hw1 := Aside0.mk (hbb.out.trans (hb1.mono (by simp)))
    have q0 : ∀ o, (w1.alloc o).cell? ⟨w.heap.size, 0, none⟩ = some (.int .i64 a0_0) := fun o => pw_cell_below ((Below.refl _ _).alloc (Nat.le_refl _) o) b0
    have q1 : ∀ o, (w1.alloc o).cell? ⟨w.heap.size, 1, none⟩ = some (.slice A0_1 l0_1.length c0_1) := fun o => pw_cell_below ((Below.refl _ _).alloc (Nat.le_refl _) o) b1
    have hs1 := Aside0.mk hw1.out.size
    have G3 := Aside0.mk (And.intro l3 (Kd.C_below g3 hb1))
    clear b0 b1 hb1 l3 g3
    have hR := Aside0.mk (fun W => Kd.R_nil k70 70 W w1.heap.size (fun _ => True))
    cases hm : mayC a0_0 l0_1
    · have HM := Aside0.mk hm
      clear hm hxm
      have e := HR.out
      rw [HM.out] at e
      injection e with e1 e2
      subst e1
      subst e2
      go_wp2_with first
        | (go_at_call 33; refine (hmay.out false HM.out _ (hw1.out.alloc hs1.out _)).mono ?_; rintro e w2 ⟨rfl, hb2⟩; have hw2 := Aside0.mk (below_step (hw1.out.alloc hs1.out _) hb2))
      go_ret2
      exact ⟨_, rfl, Kd.R_nil _ _ _ _ _, hw2.out⟩
    · have hxl := Aside0.mk (hxm hm)
      have HM := Aside0.mk hm
      clear hm hxm
      cases ha : allB l1 4
      · have HA := Aside0.mk ha
        clear ha
        have e := HR.out
        rw [HM.out, HA.out] at e
        injection e with e1 e2
        subst e1
        subst e2
        go_wp2_with first
          | (go_at_call 33; refine (hmay.out true HM.out _ (hw1.out.alloc hs1.out _)).mono ?_; rintro e w2 ⟨rfl, hb2⟩; have hw2 := Aside0.mk (below_step (hw1.out.alloc hs1.out _) hb2))
          | (go_at_call 35; refine (hall.out false HA.out _ hw2.out).mono ?_; rintro e w3 ⟨rfl, hb3⟩; replace hw2 := Aside0.mk (below_step hw2.out hb3))
        go_ret2
        exact ⟨_, rfl, Kd.R_nil _ _ _ _ _, hw2.out⟩
      · have HA := Aside0.mk ha
        have h4 : l1.length = 4 := by unfold allB at ha; simp only [Bool.and_eq_true, beq_iff_eq] at ha; omega
        have H4 := Aside0.mk h4
        clear ha h4
        have e := HR.out
        rw [HM.out, HA.out] at e
        injection e with e1 e2
        subst e1
        subst e2
        go_wp2_with first
          | (go_at_call 33; refine (hmay.out true HM.out _ (hw1.out.alloc hs1.out _)).mono ?_; rintro e w2 ⟨rfl, hb2⟩; have hw2 := Aside0.mk (below_step (below_alloc (Below.refl w1.heap.size w1) _) hb2); have s0 : w2.cell? ⟨w1.heap.size, 3, none⟩ = some (.slice A3 x.f3.length c3) := pw_cell_below hb2 (by simp))
          | (go_at_call 35; refine (hall.out true HA.out _ (hw1.out.trans (hw2.out.mono hs1.out))).mono ?_; rintro e w3 ⟨rfl, hb3⟩; replace hw2 := Aside0.mk (below_step hw2.out hb3); replace s0 := pw_cell_below hb3 s0)
        clear s0 q0 q1 hb2 hb3
        go_loopw [10, 33] (fun out v wr => ∃ i : Nat, v = .int .i64 i ∧ i ≤ x.f3.length ∧ Aside0 (Kd.R k70 70 wr w1.heap.size (fun _ => True) out (picked x.f3 l1 i)) ∧ Aside0 (Below w1.heap.size w1 wr)) (fun _ v _ => x.f3.length - (intOf v).toNat)
        case atStart => exact ⟨0, rfl, Nat.zero_le _, ⟨hR.out _⟩, hw2⟩
        case round =>
          clear hw2
          obtain ⟨i, rfl, hi, HO, HB⟩ := hrel
          by_cases hlt : i < x.f3.length
          · have hi4 : i < l1.length := by have := hxl.out; have := H4.out; omega
            obtain ⟨ad3, e3, hy0, hy1⟩ := at_T83 (Kd.C_below G3.out.2 HB.out) (i : Int) (by omega) (by omega)
            obtain ⟨ad1, e1, hz0, hz1⟩ := hrow.out i hi4
            subst e3
            subst e1
            rw [Int.toNat_natCast] at hy0 hy1 hz0 hz1
            replace hz0 := pw_cell_below (hw1.out.trans (HB.out.mono hs1.out)) hz0
            replace hz1 := pw_cell_below (hw1.out.trans (HB.out.mono hs1.out)) hz1
            go_wp2_with fail
            obtain ⟨W, hW⟩ : ∃ W, W = wr.alloc (.cells #[.int .i64 (rd_T83 x.f3 (i : Int)).f0, .bool (rd_T83 x.f3 (i : Int)).f1] 83) := ⟨_, rfl⟩
            have hbW : Below wr.heap.size wr W := hW ▸ below_alloc (Below.refl _ _) _
            have HOW := Aside0.mk (Kd.R_below HO.out hbW)
            have HBW := Aside0.mk (below_step HB.out hbW)
            replace hz0 := pw_cell_below hbW hz0
            replace hz1 := pw_cell_below hbW hz1
            have v0 : W.cell? ⟨wr.heap.size, 0, none⟩ = some (.int .i64 (rd_T83 x.f3 (i : Int)).f0) := by rw [hW]; simp
            have v1 : W.cell? ⟨wr.heap.size, 1, none⟩ = some (.bool (rd_T83 x.f3 (i : Int)).f1) := by rw [hW]; simp
            rw [← hW]
            clear hW hbW hy0 hy1
            go_still_tail 10, (by kernel_rfl)
            change wpList _ _ _ _ _ W.drew
            obtain ⟨W2, hW2⟩ : ∃ W2, W2 = W.drew := ⟨_, rfl⟩
            have O0 := Aside0.mk (show Kd.R k70 70 W2 w1.heap.size (fun _ => True) _ (picked x.f3 l1 i) from hW2 ▸ Kd.R_drew HOW.out)
            have HB2 := Aside0.mk (show Below w1.heap.size w1 W2 from hW2 ▸ below_drew1 HBW.out)
            have HL := Aside0.mk (show (picked x.f3 l1 i).length < 8796093022208 by have := picked_len x.f3 l1 i; have := hxl.out; omega)
            rw [← hW2]
            clear hW2
            go_wp2_with first
              | (go_at_call 38; refine (cand_add.calls (fun _ => True) _ (picked x.f3 l1 i) (i : Int) (rd_T83 x.f3 (i : Int)).f0 (rd_T83 x.f3 (i : Int)).f1 (rd_T86 l1 (i : Int)).f0 (rd_T86 l1 (i : Int)).f1 _ w1 W2 HB2.out O0.out (add_one _ _ _ _ HL.out)).mono ?_; rintro e w4 ⟨v4, rfl, ho4, hb4, hk4⟩; have O1 := Aside0.mk ho4; have HB4 := Aside0.mk hb4; clear ho4 hb4 hk4)
            go_roundw
            case rel => exact ⟨i + 1, by go_num, by omega, ⟨Kd.R_mono O1.out (fun _ _ => trivial)⟩, HB4⟩
            case measure => simp [intOf]; omega
          · have hie : i = x.f3.length := by omega
            subst hie
            go_wp2_with fail
            go_ret2
            exact ⟨_, rfl, Kd.R_lower HO.out hs1.out, hw1.out.trans (HB.out.mono hs1.out)⟩
  · have hin2 : a1 < 0 ∨ (l0_1.length : Int) ≤ a1 := by omega
    have HR := Aside0.mk (show (([], 1300) : List S70 × Int) = (r1, r2) by
      rw [← H.out]; unfold cand_Backs.ok; rw [decide_eq_false hin, Bool.and_false, Bool.and_false]; rfl)
    have HS := Aside0.mk (conf_Site.no w.heap.size A0_1 c0_1 l0_1.length a1 hin2)
    clear hr0_1 hc0_1 hin hin2 H hr1 hc1
    have e := HR.out
    injection e with e1 e2
    subst e1
    subst e2
    go_enter Try.func18, Try.ntmps18
    go_wp2_with fail
    refine (HS.out _ (by simp)).mono ?_
    rintro e w1 ⟨rfl, hb1⟩
    have b0 : w1.cell? ⟨w.heap.size, 0, none⟩ = some (.int .i64 a0_0) := (hb1.cell (p := ⟨w.heap.size, 0, none⟩) (by simp)).trans (by simp)
    have b1 : w1.cell? ⟨w.heap.size, 1, none⟩ = some (.slice A0_1 l0_1.length c0_1) := (hb1.cell (p := ⟨w.heap.size, 1, none⟩) (by simp)).trans (by simp)
    have hw1 := Aside0.mk (hbb.out.trans (hb1.mono (by simp)))
    have q0 : ∀ o, (w1.alloc o).cell? ⟨w.heap.size, 0, none⟩ = some (.int .i64 a0_0) := fun o => pw_cell_below ((Below.refl _ _).alloc (Nat.le_refl _) o) b0
    have q1 : ∀ o, (w1.alloc o).cell? ⟨w.heap.size, 1, none⟩ = some (.slice A0_1 l0_1.length c0_1) := fun o => pw_cell_below ((Below.refl _ _).alloc (Nat.le_refl _) o) b1
    have hs1 := Aside0.mk hw1.out.size
    clear b0 b1 hb1
    cases hm : mayC a0_0 l0_1
    · have HM := Aside0.mk hm
      clear hm
      go_wp2_with first
        | (go_at_call 33; refine (hmay.out false HM.out _ (hw1.out.alloc hs1.out _)).mono ?_; rintro e w2 ⟨rfl, hb2⟩; have hw2 := Aside0.mk (below_step (hw1.out.alloc hs1.out _) hb2))
      go_ret2
      exact ⟨_, rfl, Kd.R_nil _ _ _ _ _, hw2.out⟩
    · have HM := Aside0.mk hm
      clear hm
      cases ha : allB l1 4
      all_goals
        have HA := Aside0.mk ha
        clear ha
        go_wp2_with first
          | (go_at_call 33; refine (hmay.out true HM.out _ (hw1.out.alloc hs1.out _)).mono ?_; rintro e w2 ⟨rfl, hb2⟩; have hw2 := Aside0.mk (below_step (hw1.out.alloc hs1.out _) hb2))
          | (go_at_call 35; refine (hall.out _ HA.out _ hw2.out).mono ?_; rintro e w3 ⟨rfl, hb3⟩; replace hw2 := Aside0.mk (below_step hw2.out hb3))
        go_ret2
        exact ⟨_, rfl, Kd.R_nil _ _ _ _ _, hw2.out⟩


end Go.Proofs.Ytlapbhgkmmeeoaa.PSpares
end
section
/- Contracts: what calls of these functions of the program do, each as a plain function; written by a program of this session. -/
namespace Go.Proofs.Ytlapbhgkmmeeoaa.PSpares
open Go.RowKit Go.Proofs.YtlapbhgkmmeeoaaW.PrintWords Go.Proofs.YtlapbhgkmmeeoaaW.PrintLast Go.Proofs.YtlapbhgkmmeeoaaW.PrintMore
attribute [local go_sem] max2_int min2_int max_two min_two max_three min_three max_four min_four   -- for this text's walks alone
set_option linter.unusedVariables false
set_option linter.unusedSimpArgs false

/-! ### spare_Load: function 19, by hand -/
def loadN (l : List S50) : Int := ((l.filter (fun p => !p.f2)).length : Int)
theorem spare_Load.hide {P : Program} {c : Code} {Q : Exit → Act → World → Prop} {a : Act} {w : World} (R : World → Prop) (h : R w) (k : ∀ w', R w' → c.wp P Q a w') : c.wp P Q a w := k w h
theorem spare_Load.tk (l : List S50) (x : Int) (h0 : 0 ≤ x) (h1 : x < (l.length : Int)) : l.take (x.toNat + 1) = l.take x.toNat ++ [rd_T50 l x] := by
 have hl : x.toNat < l.length := by omega
 rw [List.take_add_one, List.getElem?_eq_getElem hl]
 unfold rd_T50
 simp [List.getD, List.getElem?_eq_getElem hl]
set_option maxHeartbeats 8000000 in
set_option maxRecDepth 100000 in
theorem spare_Load.at_ (g : Nat) (a0 a1 : Int) (A2 : Option Addr) (c2 : Nat) (l2 : List S53) (A3 : Option Addr) (c3 : Nat) (l3 : List S86) (A4 : Option Addr) (c4 : Nat) (l4 : List S91) (A5 : Option Addr) (c5 : Nat) (l5 : List S50) (a6 : Int) (w : World) (hN : NodeAt w g a0 a1 A2 c2 l2 A3 c3 l3 A4 c4 l4 A5 c5 l5 a6) :
  Calls Try.prog 19 #[.pointer (some ⟨g, 0, none⟩)] w fun e w' => e = .returned (.int .i64 (loadN l5)) ∧ Below w.heap.size w w' := by
 have hu := Try.underlying50
 have HN := Aside0.mk hN
 have HL := Aside0.mk hN.r5.2.1
 have x5 : w.cell? ⟨g, 5, none⟩ = some (.slice A5 l5.length c5) := (blk_cell hN.blk 5).trans rfl
 clear hN
 go_enter Try.func19, Try.ntmps19
 go_wp2_with fail
 go_loopg [3, 11] (l5.length + 1) (fun kq v3 v11 w' => ∃ (x : Int), v11 = .int .i64 x ∧ v3 = .int .i64 (loadN (l5.take x.toNat)) ∧ Aside0 (0 ≤ x ∧ x ≤ (l5.length : Int) ∧ (kq : Int) + x = l5.length + 1) ∧ Aside0 (Below w.heap.size w w'))
 case atStart => exact ⟨0, rfl, rfl, ⟨by omega⟩, ⟨Below.refl _ _⟩⟩
 case round =>
  obtain ⟨x, rfl, rfl, HX, HB⟩ := hrel
  cases gk with
  | zero => have := HX.out; omega
  | succ k1 =>
   by_cases c3 : x < (l5.length : Int)
   ·have c3b := decide_eq_true c3
    have p1 : 0 ≤ x := HX.out.1
    have p1b := decide_eq_true p1
    obtain ⟨ad, ea, hx0, hx1, hx2, hx3, hx4, hx5, hx6, hx7, hx8⟩ := at_T50 HN.out.r5 x p1 c3
    cases ea
    replace hx0 := (HB.out.cell (World.block_lt_of_cell? w _ hx0)).trans hx0
    replace hx1 := (HB.out.cell (World.block_lt_of_cell? w _ hx1)).trans hx1
    replace hx2 := (HB.out.cell (World.block_lt_of_cell? w _ hx2)).trans hx2
    replace hx3 := (HB.out.cell (World.block_lt_of_cell? w _ hx3)).trans hx3
    replace hx4 := (HB.out.cell (World.block_lt_of_cell? w _ hx4)).trans hx4
    replace hx5 := (HB.out.cell (World.block_lt_of_cell? w _ hx5)).trans hx5
    replace hx6 := (HB.out.cell (World.block_lt_of_cell? w _ hx6)).trans hx6
    replace hx7 := (HB.out.cell (World.block_lt_of_cell? w _ hx7)).trans hx7
    replace hx8 := (HB.out.cell (World.block_lt_of_cell? w _ hx8)).trans hx8
    have HS := Aside0.mk (spare_Load.tk l5 x p1 c3)
    have HC3 := Aside0.mk c3
    have p1' := eq_true p1
    have c3' := eq_true c3
    obtain ⟨p, hp⟩ : ∃ p_, p_ = rd_T50 l5 x := ⟨_, rfl⟩
    rw [← hp] at hx0 hx1 hx2 hx3 hx4 hx5 hx6 hx7 hx8 HS
    clear hp
    go_upto_region 5 with ((with_reducible refine gate_dst (N := 5) rfl ?_); refine box_event ?hg (N := 5) ?hd (cs := #[.int .i64 0, .int .i64 0, .int .i64 0, .int .i64 0, .int .i64 0, .int .i64 0, .bool false, .int .i64 0, .int .i64 0]) (t := 50) ?hr ?_; (case hd => rfl); (case hg => rfl); (case hr => first | (go_simp; done) | (go_simp; rfl)); intro gb hg wb hbox hb; have HW := Aside0.mk hb; have G := Aside0.mk (Nat.le_of_eq hg.symm : wr.heap.size ≤ gb); have Zb := Aside0.mk hbox; clear hb hbox hg; have z0 : wb.cell? ⟨gb, 0, none⟩ = some (.int .i64 0) := (blk_cell Zb.out 0).trans rfl; have y0 := blk_frozen Zb.out 0; have z1 : wb.cell? ⟨gb, 1, none⟩ = some (.int .i64 0) := (blk_cell Zb.out 1).trans rfl; have y1 := blk_frozen Zb.out 1; have z2 : wb.cell? ⟨gb, 2, none⟩ = some (.int .i64 0) := (blk_cell Zb.out 2).trans rfl; have y2 := blk_frozen Zb.out 2; have z3 : wb.cell? ⟨gb, 3, none⟩ = some (.int .i64 0) := (blk_cell Zb.out 3).trans rfl; have y3 := blk_frozen Zb.out 3; have z4 : wb.cell? ⟨gb, 4, none⟩ = some (.int .i64 0) := (blk_cell Zb.out 4).trans rfl; have y4 := blk_frozen Zb.out 4; have z5 : wb.cell? ⟨gb, 5, none⟩ = some (.int .i64 0) := (blk_cell Zb.out 5).trans rfl; have y5 := blk_frozen Zb.out 5; have z6 : wb.cell? ⟨gb, 6, none⟩ = some (.bool false) := (blk_cell Zb.out 6).trans rfl; have y6 := blk_frozen Zb.out 6; have z7 : wb.cell? ⟨gb, 7, none⟩ = some (.int .i64 0) := (blk_cell Zb.out 7).trans rfl; have y7 := blk_frozen Zb.out 7; have z8 : wb.cell? ⟨gb, 8, none⟩ = some (.int .i64 0) := (blk_cell Zb.out 8).trans rfl; have y8 := blk_frozen Zb.out 8; skip)
    refine spare_Load.hide (fun W => Below wr.heap.size wr W ∧ W.heap[gb]? = some (.cells #[.int .i64 p.f0.f0, .int .i64 p.f0.f1, .int .i64 p.f0.f2, .int .i64 p.f0.f3, .int .i64 p.f0.f4, .int .i64 p.f1, .bool p.f2, .int .i64 p.f3, .int .i64 p.f4] 50 (0, 0))) ⟨by with_reducible repeat (first | exact HW.out | refine below_set ?_ G.out), by refine blk_put (cs := #[.int .i64 p.f0.f0, .int .i64 p.f0.f1, .int .i64 p.f0.f2, .int .i64 p.f0.f3, .int .i64 p.f0.f4, .int .i64 p.f1, .bool p.f2, .int .i64 p.f3, .int .i64 0]) ?_ 8 _ rfl; refine blk_put (cs := #[.int .i64 p.f0.f0, .int .i64 p.f0.f1, .int .i64 p.f0.f2, .int .i64 p.f0.f3, .int .i64 p.f0.f4, .int .i64 p.f1, .bool p.f2, .int .i64 0, .int .i64 0]) ?_ 7 _ rfl; refine blk_put (cs := #[.int .i64 p.f0.f0, .int .i64 p.f0.f1, .int .i64 p.f0.f2, .int .i64 p.f0.f3, .int .i64 p.f0.f4, .int .i64 p.f1, .bool false, .int .i64 0, .int .i64 0]) ?_ 6 _ rfl; refine blk_put (cs := #[.int .i64 p.f0.f0, .int .i64 p.f0.f1, .int .i64 p.f0.f2, .int .i64 p.f0.f3, .int .i64 p.f0.f4, .int .i64 0, .bool false, .int .i64 0, .int .i64 0]) ?_ 5 _ rfl; refine blk_put (cs := #[.int .i64 p.f0.f0, .int .i64 p.f0.f1, .int .i64 p.f0.f2, .int .i64 p.f0.f3, .int .i64 0, .int .i64 0, .bool false, .int .i64 0, .int .i64 0]) ?_ 4 _ rfl; refine blk_put (cs := #[.int .i64 p.f0.f0, .int .i64 p.f0.f1, .int .i64 p.f0.f2, .int .i64 0, .int .i64 0, .int .i64 0, .bool false, .int .i64 0, .int .i64 0]) ?_ 3 _ rfl; refine blk_put (cs := #[.int .i64 p.f0.f0, .int .i64 p.f0.f1, .int .i64 0, .int .i64 0, .int .i64 0, .int .i64 0, .bool false, .int .i64 0, .int .i64 0]) ?_ 2 _ rfl; refine blk_put (cs := #[.int .i64 p.f0.f0, .int .i64 0, .int .i64 0, .int .i64 0, .int .i64 0, .int .i64 0, .bool false, .int .i64 0, .int .i64 0]) ?_ 1 _ rfl; refine blk_put (cs := #[.int .i64 0, .int .i64 0, .int .i64 0, .int .i64 0, .int .i64 0, .int .i64 0, .bool false, .int .i64 0, .int .i64 0]) ?_ 0 _ rfl; exact Zb.out⟩ ?_
    intro w6 ⟨hb, hz⟩
    replace HB := Aside0.mk (below_step HB.out hb)
    have b6 : w6.cell? ⟨gb, 6, none⟩ = some (.bool p.f2) := (blk_cell hz 6).trans rfl
    clear hb hz HW G Zb z0 y0 z1 y1 z2 y2 z3 y3 z4 y4 z5 y5 z6 y6 z7 y7 z8 y8 hx0 hx1 hx2 hx3 hx4 hx5 hx6 hx7 hx8
    obtain ⟨v, hv, HV⟩ : ∃ v, p.f2 = v ∧ Aside0 (p.f2 = v) := ⟨_, rfl, ⟨rfl⟩⟩
    rw [hv] at b6
    clear hv
    have HD := Aside0.mk (show (l5.take x.toNat).length ≤ x.toNat from List.length_take_le _ _)
    have HF := Aside0.mk (List.length_filter_le (fun p => !p.f2) (l5.take x.toNat))
    cases v
    ·go_wp2_with fail
     go_roundg k1
     case measure => have := HX.out; omega
     case rel =>
      have h1 := HX.out
      have h2 := HC3.out
      have h3 := HL.out
      have hw : wrap64 (x + 1) = x + 1 := by unfold wrap64; omega
      have h5 : (x + 1).toNat = x.toNat + 1 := by omega
      refine ⟨x + 1, by rw [hw], ?_, ⟨by omega⟩, HB⟩
      have hl : loadN (l5.take (x + 1).toNat) = loadN (l5.take x.toNat) + 1 := by
       unfold loadN
       rw [h5, HS.out, List.filter_append, List.length_append]
       simp [HV.out]
      have h6 := HD.out
      have h7 := HF.out
      rw [hl]
      unfold loadN
      rw [show wrap64 (((l5.take x.toNat).filter (fun p => !p.f2)).length + 1 : Int) = ((l5.take x.toNat).filter (fun p => !p.f2)).length + 1 by unfold wrap64; omega]
    ·go_wp2_with fail
     go_roundg k1
     case measure => have := HX.out; omega
     case rel =>
      have h1 := HX.out
      have h2 := HC3.out
      have h3 := HL.out
      have hw : wrap64 (x + 1) = x + 1 := by unfold wrap64; omega
      have h5 : (x + 1).toNat = x.toNat + 1 := by omega
      refine ⟨x + 1, by rw [hw], ?_, ⟨by omega⟩, HB⟩
      have hl : loadN (l5.take (x + 1).toNat) = loadN (l5.take x.toNat) := by
       unfold loadN
       rw [h5, HS.out, List.filter_append, List.length_append]
       simp [HV.out]
      rw [hl]
   ·have c3b := decide_eq_false c3
    have HE : x = (l5.length : Int) := by have := HX.out; omega
    subst HE
    have HT := Aside0.mk (show l5.take (l5.length : Int).toNat = l5 by rw [Int.toNat_natCast, List.take_length])
    go_wp2_with fail
    go_ret
    exact ⟨rfl, HB.out⟩


end Go.Proofs.Ytlapbhgkmmeeoaa.PSpares
end
section
/- Contracts: what calls of these functions of the program do, each as a plain function; written by a program of this session. -/
namespace Go.Proofs.Ytlapbhgkmmeeoaa.PSpares
open Go.RowKit Go.Proofs.YtlapbhgkmmeeoaaW.PrintWords Go.Proofs.YtlapbhgkmmeeoaaW.PrintLast Go.Proofs.YtlapbhgkmmeeoaaW.PrintMore
attribute [local go_sem] max2_int min2_int max_two min_two max_three min_three max_four min_four   -- for this text's walks alone
set_option linter.unusedVariables false
set_option linter.unusedSimpArgs false

/-! ### spare_Full: function 6, by hand -/
set_option maxHeartbeats 4000000 in
set_option maxRecDepth 100000 in
theorem conf_Site.no1 (g : Nat) (A : Option Addr) (c n : Nat) (i : Int) (hi : i < 0 ∨ (n : Int) ≤ i) (w : World) (h1 : w.cell? ⟨g, 2, none⟩ = some (.slice A n c)) :
  Calls Try.prog 17 #[.pointer (some ⟨g, 1, none⟩), .int .i64 i] w fun e w' => e = .returned (.tuple #[.agg #[.int .i64 0, .bool false, .int .i64 0, .slice none 0 0], .bool false]) ∧ Below w.heap.size w w' := by
 have hu := Try.underlying53
 have h1' : ∀ o, (w.alloc o).cell? ⟨g, 2, none⟩ = some (.slice A n c) := fun o => pw_cell_below ((Below.refl _ _).alloc (Nat.le_refl _) o) h1
 by_cases h0 : i < 0
 ·clear hi
  go_enter Try.func17, Try.ntmps17
  go_wp2
  exact bodyPost_ret (v := .tuple #[.agg #[.int .i64 0, .bool false, .int .i64 0, .slice none 0 0], .bool false]) (by simp [results, Try.results17, go_sem]) rfl ⟨rfl, by repeat (first | exact Below.refl _ _ | exact (Below.refl _ _).alloc (Nat.le_refl _) _ | refine Below.setCell ?_ (by simp) _ | refine pw_below_drewN ?_ _)⟩
 ·have h2 : (n : Int) ≤ i := by omega
  clear hi
  go_enter Try.func17, Try.ntmps17
  go_wp2
  exact bodyPost_ret (v := .tuple #[.agg #[.int .i64 0, .bool false, .int .i64 0, .slice none 0 0], .bool false]) (by simp [results, Try.results17, go_sem]) rfl ⟨rfl, by repeat (first | exact Below.refl _ _ | exact (Below.refl _ _).alloc (Nat.le_refl _) _ | refine Below.setCell ?_ (by simp) _ | refine pw_below_drewN ?_ _)⟩
set_option maxHeartbeats 4000000 in
set_option maxRecDepth 100000 in
theorem conf_Site.yes1 (g : Nat) (A : Option Addr) (c : Nat) (l : List S53) (i : Nat) (x : S53) (hx : l[i]? = some x) (w : World) (h1 : w.cell? ⟨g, 2, none⟩ = some (.slice A l.length c)) (hr : Kd.C k53 w A l.length l) :
  Calls Try.prog 17 #[.pointer (some ⟨g, 1, none⟩), .int .i64 (i : Int)] w fun e w' => Aside0 (∃ A3 c3, e = .returned (.tuple #[.agg #[.int .i64 x.f0, .bool x.f1, .int .i64 x.f2, .slice A3 x.f3.length c3], .bool true]) ∧ x.f3.length ≤ c3 ∧ Kd.C k83 w A3 x.f3.length x.f3 ∧ Below w.heap.size w w') := by
 have hl := hr.2.1
 obtain ⟨hi, hx'⟩ := List.getElem?_eq_some_iff.1 hx
 obtain ⟨ad, A3, c3, e, hx0, hx1, hx2, hx3, l3, g3⟩ := at_T53 hr (i : Int) (by omega) (by omega)
 subst e
 have er : rd_T53 l (i : Int) = x := by simp [rd_T53, hi, hx']
 rw [er] at hx0 hx1 hx2 hx3 l3 g3
 rw [Int.toNat_natCast] at hx0 hx1 hx2 hx3
 have G := Aside0.mk (And.intro l3 g3)
 clear l3 g3 hr er hx hx'
 have hu := Try.underlying53
 have h1' : ∀ o, (w.alloc o).cell? ⟨g, 2, none⟩ = some (.slice (some ad) l.length c) := fun o => pw_cell_below ((Below.refl _ _).alloc (Nat.le_refl _) o) h1
 have y0 : ∀ o, (w.alloc o).cell? _ = _ := fun o => pw_cell_below ((Below.refl _ _).alloc (Nat.le_refl _) o) hx0
 have y1 : ∀ o, (w.alloc o).cell? _ = _ := fun o => pw_cell_below ((Below.refl _ _).alloc (Nat.le_refl _) o) hx1
 have y2 : ∀ o, (w.alloc o).cell? _ = _ := fun o => pw_cell_below ((Below.refl _ _).alloc (Nat.le_refl _) o) hx2
 have y3 : ∀ o, (w.alloc o).cell? _ = _ := fun o => pw_cell_below ((Below.refl _ _).alloc (Nat.le_refl _) o) hx3
 clear hx0 hx1 hx2 hx3
 go_enter Try.func17, Try.ntmps17
 go_wp2
 exact bodyPost_ret (v := .tuple #[.agg #[.int .i64 x.f0, .bool x.f1, .int .i64 x.f2, .slice A3 x.f3.length c3], .bool true]) (by simp [results, Try.results17, go_sem]) rfl
  (Aside0.mk ⟨A3, c3, rfl, G.out.1, G.out.2, by repeat (first | exact Below.refl _ _ | exact (Below.refl _ _).alloc (Nat.le_refl _) _ | refine Below.setCell ?_ (by simp) _ | refine pw_below_drewN ?_ _)⟩)
def spare_Full.f (k : Nat) (a0 a1 : Int) (l2 : List S53) (l3 : List S86) (l4 : List S91) (l5 : List S50) (a6 : Int) : Option (Bool × Int) := (spare_May.f k a0 a1 l2 l3 l4 l5 a6).bind fun m => if m = true then (cand_Backs.f a1 l2 a0 l3).bind fun bt => (if 0 ≤ a0 then (if a0 < (l2.length : Int) then (if (rd_T53 l2 a0).f1 = true then some (true, 0) else (if bt.1.length = 0 then some (true, 0) else some (decide (loadN l5 ≥ (rd_T53 l2 a0).f2), 0))) else some (true, 0)) else some (true, 0)) else some (false, 1700)
theorem spare_Full.mono : ∀ a0 a1 l2 l3 l4 l5 a6 k, LeO (spare_Full.f k a0 a1 l2 l3 l4 l5 a6) (spare_Full.f (k + 1) a0 a1 l2 l3 l4 l5 a6) := by
 intro a0 a1 l2 l3 l4 l5 a6 k
 unfold spare_Full.f
 refine LeO.bind (spare_May.mono _ _ _ _ _ _ _ _) (fun t => ?_)
 split
 ·exact LeO.refl _
 ·exact LeO.refl _
theorem spare_Full.hide {P : Program} {c : Code} {Q : Exit → Act → World → Prop} {a : Act} {w : World} (R : World → Prop) (h : R w) (k : ∀ w', R w' → c.wp P Q a w') : c.wp P Q a w := k w h
set_option maxHeartbeats 8000000 in
set_option maxRecDepth 100000 in
theorem spare_Full.calls (k : Nat) (a0 a1 : Int) (A2 : Option Addr) (c2 : Nat) (l2 : List S53) (A3 : Option Addr) (c3 : Nat) (l3 : List S86) (A4 : Option Addr) (c4 : Nat) (l4 : List S91) (A5 : Option Addr) (c5 : Nat) (l5 : List S50) (a6 : Int) (r1 : Bool) (r2 : Int) (w : World) (hr2 : Kd.C k53 w A2 l2.length l2) (hc2 : l2.length ≤ c2) (hr3 : Kd.C k86 w A3 l3.length l3) (hc3 : l3.length ≤ c3) (hr4 : Kd.C k91 w A4 l4.length l4) (hc4 : l4.length ≤ c4) (hr5 : Kd.C k50 w A5 l5.length l5) (hc5 : l5.length ≤ c5) (h : spare_Full.f k a0 a1 l2 l3 l4 l5 a6 = some (r1, r2)) :
  Calls Try.prog 6 #[.agg #[.int .i64 a0, .int .i64 a1, .slice A2 l2.length c2, .slice A3 l3.length c3, .slice A4 l4.length c4, .slice A5 l5.length c5, .int .i64 a6]] w fun e w' => e = .returned (.tuple #[.bool r1, .int .i64 r2]) ∧ Below w.heap.size w w' := by
 have hb : Below w.heap.size w (w.alloc (Obj.cells #[.int .i64 a0, .int .i64 a1, .slice A2 l2.length c2, .slice A3 l3.length c3, .slice A4 l4.length c4, .slice A5 l5.length c5, .int .i64 a6] 29)) := below_alloc (Below.refl _ _) _
 have HN := Aside0.mk (show NodeAt (w.alloc (Obj.cells #[.int .i64 a0, .int .i64 a1, .slice A2 l2.length c2, .slice A3 l3.length c3, .slice A4 l4.length c4, .slice A5 l5.length c5, .int .i64 a6] 29)) w.heap.size a0 a1 A2 c2 l2 A3 c3 l3 A4 c4 l4 A5 c5 l5 a6 from ⟨blk_new _ _, Kd.C_below hr2 hb, hc2, Kd.C_below hr3 hb, hc3, Kd.C_below hr4 hb, hc4, Kd.C_below hr5 hb, hc5⟩)
 have x0 : (w.alloc (Obj.cells #[.int .i64 a0, .int .i64 a1, .slice A2 l2.length c2, .slice A3 l3.length c3, .slice A4 l4.length c4, .slice A5 l5.length c5, .int .i64 a6] 29)).cell? ⟨w.heap.size, 0, none⟩ = some (.int .i64 a0) := by simp
 have x1 : (w.alloc (Obj.cells #[.int .i64 a0, .int .i64 a1, .slice A2 l2.length c2, .slice A3 l3.length c3, .slice A4 l4.length c4, .slice A5 l5.length c5, .int .i64 a6] 29)).cell? ⟨w.heap.size, 1, none⟩ = some (.int .i64 a1) := by simp
 have x2 : (w.alloc (Obj.cells #[.int .i64 a0, .int .i64 a1, .slice A2 l2.length c2, .slice A3 l3.length c3, .slice A4 l4.length c4, .slice A5 l5.length c5, .int .i64 a6] 29)).cell? ⟨w.heap.size, 2, none⟩ = some (.slice A2 l2.length c2) := by simp
 have x3 : (w.alloc (Obj.cells #[.int .i64 a0, .int .i64 a1, .slice A2 l2.length c2, .slice A3 l3.length c3, .slice A4 l4.length c4, .slice A5 l5.length c5, .int .i64 a6] 29)).cell? ⟨w.heap.size, 3, none⟩ = some (.slice A3 l3.length c3) := by simp
 have x4 : (w.alloc (Obj.cells #[.int .i64 a0, .int .i64 a1, .slice A2 l2.length c2, .slice A3 l3.length c3, .slice A4 l4.length c4, .slice A5 l5.length c5, .int .i64 a6] 29)).cell? ⟨w.heap.size, 4, none⟩ = some (.slice A4 l4.length c4) := by simp
 have x5 : (w.alloc (Obj.cells #[.int .i64 a0, .int .i64 a1, .slice A2 l2.length c2, .slice A3 l3.length c3, .slice A4 l4.length c4, .slice A5 l5.length c5, .int .i64 a6] 29)).cell? ⟨w.heap.size, 5, none⟩ = some (.slice A5 l5.length c5) := by simp
 have x6 : (w.alloc (Obj.cells #[.int .i64 a0, .int .i64 a1, .slice A2 l2.length c2, .slice A3 l3.length c3, .slice A4 l4.length c4, .slice A5 l5.length c5, .int .i64 a6] 29)).cell? ⟨w.heap.size, 6, none⟩ = some (.int .i64 a6) := by simp
 have R5 := Aside0.mk (And.intro hr2 (And.intro hr3 (And.intro hr4 hr5)))
 have HB := Aside0.mk hb
 clear hb hr2 hc2 hr3 hc3 hr4 hc4 hr5 hc5
 obtain ⟨m, hm, h⟩ := Option.bind_eq_some_iff.mp h
 replace hm := Aside0.mk hm
 cases m
 ·obtain ⟨rfl, rfl⟩ : false = r1 ∧ 1700 = r2 := by simpa using h
  clear h
  go_enter Try.func6, Try.ntmps6
  go_wp2_with (go_at_call 16; refine (spare_May.at_ k _ a0 a1 _ _ _ _ _ _ _ _ _ _ _ _ a6 false _ HN.out hm.out).mono ?_; rintro e w1 ⟨rfl, hb⟩; replace x0 := pw_cell_below hb x0; replace x1 := pw_cell_below hb x1; replace x2 := pw_cell_below hb x2; replace x3 := pw_cell_below hb x3; replace x4 := pw_cell_below hb x4; replace x5 := pw_cell_below hb x5; replace x6 := pw_cell_below hb x6; replace HN := Aside0.mk (HN.out.below hb); replace HB := Aside0.mk (below_step HB.out hb); clear hb)
  go_ret2
  exact ⟨rfl, HB.out⟩
 ·rw [if_pos rfl] at h
  obtain ⟨⟨bl, be⟩, hbk, h⟩ := Option.bind_eq_some_iff.mp h
  replace hbk := Aside0.mk hbk
  by_cases hin : 0 ≤ a0 ∧ a0 < (l2.length : Int)
  ·obtain ⟨i, rfl⟩ := Int.eq_ofNat_of_zero_le hin.1
   have hlt : i < l2.length := by omega
   obtain ⟨x, hx⟩ : ∃ x, l2[i]? = some x := ⟨l2[i], by simp [hlt]⟩
   rw [if_pos hin.1, if_pos hin.2, show rd_T53 l2 (i : Int) = x by simp [rd_T53, hx]] at h
   have HX := Aside0.mk hx
   clear hin hlt hx
   have h' := Aside0.mk h
   clear h
   go_enter Try.func6, Try.ntmps6
   go_upto_region 4 with (first | (go_at_call 16; refine (spare_May.at_ k _ (i : Int) a1 _ _ _ _ _ _ _ _ _ _ _ _ a6 true _ HN.out hm.out).mono ?_; rintro e w1 ⟨rfl, hb⟩; replace x0 := pw_cell_below hb x0; replace x1 := pw_cell_below hb x1; replace x2 := pw_cell_below hb x2; replace x3 := pw_cell_below hb x3; replace x4 := pw_cell_below hb x4; replace x5 := pw_cell_below hb x5; replace x6 := pw_cell_below hb x6; replace HN := Aside0.mk (HN.out.below hb); replace HB := Aside0.mk (below_step HB.out hb); clear hb) | (go_at_call 17; refine (conf_Site.yes1 w.heap.size _ _ l2 i x HX.out _ x2 HN.out.r2).mono ?_; rintro e w2 he; obtain ⟨A9, c9, rfl, _, _, hb⟩ := he.out; replace x0 := pw_cell_below hb x0; replace x1 := pw_cell_below hb x1; replace x2 := pw_cell_below hb x2; replace x3 := pw_cell_below hb x3; replace x4 := pw_cell_below hb x4; replace x5 := pw_cell_below hb x5; replace x6 := pw_cell_below hb x6; replace HN := Aside0.mk (HN.out.below hb); replace HB := Aside0.mk (below_step HB.out hb); clear hb) | ((with_reducible refine gate_dst (N := 4) rfl ?_); refine box_event ?hg (N := 4) ?hd (cs := #[.int .i64 0, .bool false, .int .i64 0, .slice none 0 0]) (t := 53) ?hr ?_; (case hd => rfl); (case hg => rfl); (case hr => first | (go_simp; done) | (go_simp; rfl)); intro gs hg w3 hbox hb; have HW := Aside0.mk hb; have G := Aside0.mk (Nat.le_of_eq hg.symm : w2.heap.size ≤ gs); have Zb := Aside0.mk hbox; clear hb hbox hg; have z0 : w3.cell? ⟨gs, 0, none⟩ = some (.int .i64 0) := (blk_cell Zb.out 0).trans rfl; have y0 := blk_frozen Zb.out 0; have z1 : w3.cell? ⟨gs, 1, none⟩ = some (.bool false) := (blk_cell Zb.out 1).trans rfl; have y1 := blk_frozen Zb.out 1; have z2 : w3.cell? ⟨gs, 2, none⟩ = some (.int .i64 0) := (blk_cell Zb.out 2).trans rfl; have y2 := blk_frozen Zb.out 2; have z3 : w3.cell? ⟨gs, 3, none⟩ = some (.slice none 0 0) := (blk_cell Zb.out 3).trans rfl; have y3 := blk_frozen Zb.out 3; skip))
   refine spare_Full.hide (fun W => Below w2.heap.size w2 W ∧ W.heap[gs]? = some (.cells #[.int .i64 x.f0, .bool x.f1, .int .i64 x.f2, .slice A9 x.f3.length c9] 53 (0, 0)) ∧ gs ≠ w.heap.size) ⟨by with_reducible repeat (first | exact HW.out | refine below_set ?_ G.out), by refine blk_put (cs := #[.int .i64 x.f0, .bool x.f1, .int .i64 x.f2, .slice none 0 0]) ?_ 3 _ rfl; refine blk_put (cs := #[.int .i64 x.f0, .bool x.f1, .int .i64 0, .slice none 0 0]) ?_ 2 _ rfl; refine blk_put (cs := #[.int .i64 x.f0, .bool false, .int .i64 0, .slice none 0 0]) ?_ 1 _ rfl; refine blk_put (cs := #[.int .i64 0, .bool false, .int .i64 0, .slice none 0 0]) ?_ 0 _ rfl; exact Zb.out, by have h1 := G.out; have h2 := World.block_lt_of_cell? _ _ x0; simp only [] at h2; omega⟩ ?_
   intro w4 ⟨hb, hz, hne⟩
   replace x0 := pw_cell_below hb x0; replace x1 := pw_cell_below hb x1; replace x2 := pw_cell_below hb x2; replace x3 := pw_cell_below hb x3; replace x4 := pw_cell_below hb x4; replace x5 := pw_cell_below hb x5; replace x6 := pw_cell_below hb x6; replace HN := Aside0.mk (HN.out.below hb); replace HB := Aside0.mk (below_step HB.out hb)
   have BZ := Aside0.mk hz
   have HNE := Aside0.mk hne
   clear hb hz hne HW G Zb z0 y0 z1 y1 z2 y2 z3 y3
   go_upto_region 5 with (go_at_call 18; refine (cand_Backs.calls a1 _ _ l2 (i : Int) _ _ l3 bl be _ HN.out.r2 HN.out.q2 HN.out.r3 HN.out.q3 hbk.out).mono ?_; rintro e w5 ⟨v5, rfl, ho, hb⟩; obtain ⟨A5_, n5_, rfl⟩ := Kd.R_slice ho; replace BZ := Aside0.mk (blk_below BZ.out hb); clear ho; replace x0 := pw_cell_below hb x0; replace x1 := pw_cell_below hb x1; replace x2 := pw_cell_below hb x2; replace x3 := pw_cell_below hb x3; replace x4 := pw_cell_below hb x4; replace x5 := pw_cell_below hb x5; replace x6 := pw_cell_below hb x6; replace HN := Aside0.mk (HN.out.below hb); replace HB := Aside0.mk (below_step HB.out hb); clear hb)
   have b1 : w5.cell? ⟨gs, 1, none⟩ = some (.bool x.f1) := (blk_cell BZ.out 1).trans rfl
   have b2 : w5.cell? ⟨gs, 2, none⟩ = some (.int .i64 x.f2) := (blk_cell BZ.out 2).trans rfl
   have h := h'.out
   clear h'
   obtain ⟨d, hd⟩ : ∃ d, x.f1 = d := ⟨_, rfl⟩
   have bz := BZ.out
   rw [hd] at b1 h bz
   replace BZ := Aside0.mk bz
   replace hd := Aside0.mk hd
   clear bz
   clear x0 x1 x2 x3 x4 x5 x6
   cases d
   ·rw [if_neg (by decide)] at h
    by_cases hn : bl.length = 0
    ·rw [if_pos hn] at h
     obtain ⟨rfl, rfl⟩ : true = r1 ∧ 0 = r2 := by simpa using h
     have e1 : ((bl.length : Int) == 0) = true := by rw [hn]; rfl
     have e2 : (bl.length == 0) = true := by rw [hn]; rfl
     have e3 : decide ((bl.length : Int) = 0) = true := by rw [hn]; rfl
     replace hn := Aside0.mk hn
     clear h
     go_quiet (fail)
     go_wp2_with fail
     go_ret2
     exact ⟨rfl, by first | exact HB.out | exact pw_below_drewN HB.out _⟩
    ·rw [if_neg hn] at h
     obtain ⟨hr, rfl⟩ : decide (loadN l5 ≥ x.f2) = r1 ∧ 0 = r2 := by simpa using h
     have e1 : ((bl.length : Int) == 0) = false := beq_eq_false_iff_ne.2 (by omega)
     have e2 : (bl.length == 0) = false := by simpa using hn
     have e3 : decide ((bl.length : Int) = 0) = false := decide_eq_false (by omega)
     have HR := Aside0.mk hr
     replace hn := Aside0.mk hn
     clear h hr
     go_region_held3 (fun w' => w'.cell? ⟨gs, 1, none⟩ = some (.bool false) ∧ w'.cell? ⟨gs, 2, none⟩ = some (.int .i64 x.f2)) (first | exact ⟨b1, b2⟩ | go_keep) ((go_at_call 19; refine (spare_Load.at_ w.heap.size (i : Int) a1 _ _ _ _ _ _ _ _ _ _ _ _ a6 _ (by first | exact HN.out | exact HN.out.below (below_drew1 (Below.refl _ _)))).mono ?_; rintro e w6 ⟨rfl, hb⟩; have hb2 : Below w5.heap.size w5 w6 := below_step (by first | exact Below.refl _ _ | exact below_drew1 (Below.refl _ _)) hb; have BW := Aside0.mk hb2; clear b1 b2; have b1 : w6.cell? ⟨gs, 1, none⟩ = some (.bool false) := (blk_cell (blk_below BZ.out hb2) 1).trans rfl; have b2 : w6.cell? ⟨gs, 2, none⟩ = some (.int .i64 x.f2) := (blk_cell (blk_below BZ.out hb2) 2).trans rfl; clear hb hb2))
     go_wp2_with fail
     go_ret2
     exact ⟨by rw [← HR.out]; first | rfl | (simp; done), by first | exact below_step HB.out BW.out | exact pw_below_drewN (below_step HB.out BW.out) _⟩
   ·rw [if_pos rfl] at h
    obtain ⟨rfl, rfl⟩ : true = r1 ∧ 0 = r2 := by simpa using h
    clear h
    go_quiet (fail)
    go_wp2_with fail
    go_ret2
    exact ⟨rfl, by first | exact HB.out | exact pw_below_drewN HB.out _⟩
  ·have hin2 : a0 < 0 ∨ (l2.length : Int) ≤ a0 := by omega
   obtain ⟨rfl, rfl⟩ : true = r1 ∧ 0 = r2 := by
    by_cases h0 : 0 ≤ a0
    ·rw [if_pos h0, if_neg (by omega)] at h
     simpa using h
    ·rw [if_neg h0] at h
     simpa using h
   have HI := Aside0.mk hin2
   clear hin hin2 h
   go_enter Try.func6, Try.ntmps6
   go_upto_region 4 with (first | (go_at_call 16; refine (spare_May.at_ k _ a0 a1 _ _ _ _ _ _ _ _ _ _ _ _ a6 true _ HN.out hm.out).mono ?_; rintro e w1 ⟨rfl, hb⟩; replace x0 := pw_cell_below hb x0; replace x1 := pw_cell_below hb x1; replace x2 := pw_cell_below hb x2; replace x3 := pw_cell_below hb x3; replace x4 := pw_cell_below hb x4; replace x5 := pw_cell_below hb x5; replace x6 := pw_cell_below hb x6; replace HN := Aside0.mk (HN.out.below hb); replace HB := Aside0.mk (below_step HB.out hb); clear hb) | (go_at_call 17; refine (conf_Site.no1 w.heap.size _ _ _ a0 HI.out _ x2).mono ?_; rintro e w2 ⟨rfl, hb⟩; replace x0 := pw_cell_below hb x0; replace x1 := pw_cell_below hb x1; replace x2 := pw_cell_below hb x2; replace x3 := pw_cell_below hb x3; replace x4 := pw_cell_below hb x4; replace x5 := pw_cell_below hb x5; replace x6 := pw_cell_below hb x6; replace HN := Aside0.mk (HN.out.below hb); replace HB := Aside0.mk (below_step HB.out hb); clear hb) | ((with_reducible refine gate_dst (N := 4) rfl ?_); refine box_event ?hg (N := 4) ?hd (cs := #[.int .i64 0, .bool false, .int .i64 0, .slice none 0 0]) (t := 53) ?hr ?_; (case hd => rfl); (case hg => rfl); (case hr => first | (go_simp; done) | (go_simp; rfl)); intro gs hg w3 hbox hb; have HW := Aside0.mk hb; have G := Aside0.mk (Nat.le_of_eq hg.symm : w2.heap.size ≤ gs); have Zb := Aside0.mk hbox; clear hb hbox hg; have z0 : w3.cell? ⟨gs, 0, none⟩ = some (.int .i64 0) := (blk_cell Zb.out 0).trans rfl; have y0 := blk_frozen Zb.out 0; have z1 : w3.cell? ⟨gs, 1, none⟩ = some (.bool false) := (blk_cell Zb.out 1).trans rfl; have y1 := blk_frozen Zb.out 1; have z2 : w3.cell? ⟨gs, 2, none⟩ = some (.int .i64 0) := (blk_cell Zb.out 2).trans rfl; have y2 := blk_frozen Zb.out 2; have z3 : w3.cell? ⟨gs, 3, none⟩ = some (.slice none 0 0) := (blk_cell Zb.out 3).trans rfl; have y3 := blk_frozen Zb.out 3; skip))
   refine spare_Full.hide (fun W => Below w2.heap.size w2 W ∧ W.heap[gs]? = some (.cells #[.int .i64 0, .bool false, .int .i64 0, .slice none 0 0] 53 (0, 0)) ∧ gs ≠ w.heap.size) ⟨by with_reducible repeat (first | exact HW.out | refine below_set ?_ G.out), by refine blk_put (cs := #[.int .i64 0, .bool false, .int .i64 0, .slice none 0 0]) ?_ 3 _ rfl; refine blk_put (cs := #[.int .i64 0, .bool false, .int .i64 0, .slice none 0 0]) ?_ 2 _ rfl; refine blk_put (cs := #[.int .i64 0, .bool false, .int .i64 0, .slice none 0 0]) ?_ 1 _ rfl; refine blk_put (cs := #[.int .i64 0, .bool false, .int .i64 0, .slice none 0 0]) ?_ 0 _ rfl; exact Zb.out, by have h1 := G.out; have h2 := World.block_lt_of_cell? _ _ x0; simp only [] at h2; omega⟩ ?_
   intro w4 ⟨hb, hz, hne⟩
   replace x0 := pw_cell_below hb x0; replace x1 := pw_cell_below hb x1; replace x2 := pw_cell_below hb x2; replace x3 := pw_cell_below hb x3; replace x4 := pw_cell_below hb x4; replace x5 := pw_cell_below hb x5; replace x6 := pw_cell_below hb x6; replace HN := Aside0.mk (HN.out.below hb); replace HB := Aside0.mk (below_step HB.out hb)
   have BZ := Aside0.mk hz
   have HNE := Aside0.mk hne
   clear hb hz hne HW G Zb z0 y0 z1 y1 z2 y2 z3 y3
   go_upto_region 5 with (go_at_call 18; refine (cand_Backs.calls a1 _ _ l2 a0 _ _ l3 bl be _ HN.out.r2 HN.out.q2 HN.out.r3 HN.out.q3 hbk.out).mono ?_; rintro e w5 ⟨v5, rfl, ho, hb⟩; obtain ⟨A5_, n5_, rfl⟩ := Kd.R_slice ho; replace BZ := Aside0.mk (blk_below BZ.out hb); clear ho; replace x0 := pw_cell_below hb x0; replace x1 := pw_cell_below hb x1; replace x2 := pw_cell_below hb x2; replace x3 := pw_cell_below hb x3; replace x4 := pw_cell_below hb x4; replace x5 := pw_cell_below hb x5; replace x6 := pw_cell_below hb x6; replace HN := Aside0.mk (HN.out.below hb); replace HB := Aside0.mk (below_step HB.out hb); clear hb)
   clear x0 x1 x2 x3 x4 x5 x6
   go_quiet (fail)
   go_wp2_with fail
   go_ret2
   exact ⟨rfl, by first | exact HB.out | exact pw_below_drewN HB.out _⟩


end Go.Proofs.Ytlapbhgkmmeeoaa.PSpares
end
section
/- Contracts: what calls of these functions of the program do, each as a plain function; written by a program of this session. -/
namespace Go.Proofs.Ytlapbhgkmmeeoaa.PSpares
open Go.RowKit Go.Proofs.YtlapbhgkmmeeoaaW.PrintWords Go.Proofs.YtlapbhgkmmeeoaaW.PrintLast Go.Proofs.YtlapbhgkmmeeoaaW.PrintMore
attribute [local go_sem] max2_int min2_int max_two min_two max_three min_three max_four min_four   -- for this text's walks alone
set_option linter.unusedVariables false
set_option linter.unusedSimpArgs false

/-! ### wharfageref10_ConfMay: function 39 -/
mutual
def wharfageref10_ConfMay.j0 : Nat → Bool → Int → List (S53) → Option (Bool)
 | 0, _, _, _ => none
 | k + 1, x19, x148000, x148001 => if x19 = true then (some false) else (wharfageref10_ConfMay.l0 k 0 x148000 x148001)
def wharfageref10_ConfMay.l0 : Nat → Int → Int → List (S53) → Option (Bool)
 | 0, _, _, _ => none
 | k + 1, x3, x148000, x148001 => if x3 < (x148001.length : Int) then (if 0 ≤ x3 then (if ((rd_T53 x148001 x3).f0) < 0 then (wharfageref10_ConfMay.j2 k x3 true x148000 x148001 ((rd_T53 x148001 x3).f0) ((rd_T53 x148001 x3).f1) ((rd_T53 x148001 x3).f2) ((rd_T53 x148001 x3).f3)) else (if ((rd_T53 x148001 x3).f0) > 16 then (wharfageref10_ConfMay.j2 k x3 true x148000 x148001 ((rd_T53 x148001 x3).f0) ((rd_T53 x148001 x3).f1) ((rd_T53 x148001 x3).f2) ((rd_T53 x148001 x3).f3)) else (if ((rd_T53 x148001 x3).f2) < 0 then (wharfageref10_ConfMay.j2 k x3 true x148000 x148001 ((rd_T53 x148001 x3).f0) ((rd_T53 x148001 x3).f1) ((rd_T53 x148001 x3).f2) ((rd_T53 x148001 x3).f3)) else (if ((rd_T53 x148001 x3).f2) > 8 then (wharfageref10_ConfMay.j2 k x3 true x148000 x148001 ((rd_T53 x148001 x3).f0) ((rd_T53 x148001 x3).f1) ((rd_T53 x148001 x3).f2) ((rd_T53 x148001 x3).f3)) else (wharfageref10_ConfMay.j2 k x3 (decide ((((rd_T53 x148001 x3).f3).length : Int) > 4)) x148000 x148001 ((rd_T53 x148001 x3).f0) ((rd_T53 x148001 x3).f1) ((rd_T53 x148001 x3).f2) ((rd_T53 x148001 x3).f3)))))) else (none)) else (some true)
def wharfageref10_ConfMay.j2 : Nat → Int → Bool → Int → List (S53) → Int → Bool → Int → List (S83) → Option (Bool)
 | 0, _, _, _, _, _, _, _, _ => none
 | k + 1, x3, x55, x148000, x148001, x150000, x150001, x150002, x150003 => if x55 = true then (some false) else (wharfageref10_ConfMay.l1 k x3 0 x148000 x148001 x150000 x150001 x150002 x150003)
def wharfageref10_ConfMay.l1 : Nat → Int → Int → Int → List (S53) → Int → Bool → Int → List (S83) → Option (Bool)
 | 0, _, _, _, _, _, _, _, _ => none
 | k + 1, x3, x5, x148000, x148001, x150000, x150001, x150002, x150003 => if x5 < (x150003.length : Int) then (if 0 ≤ x5 then (if ((rd_T83 x150003 x5).f0) < 0 then (some false) else (if ((rd_T83 x150003 x5).f0) > 16 then (some false) else (wharfageref10_ConfMay.l1 k x3 (wrap64 (x5 + 1)) x148000 x148001 x150000 x150001 x150002 x150003))) else (none)) else (wharfageref10_ConfMay.l0 k (wrap64 (x3 + 1)) x148000 x148001)
end
def wharfageref10_ConfMay.f (k : Nat) (a0_0 : Int) (l0_1 : List (S53)) : Option (Bool) := if a0_0 < 0 then (wharfageref10_ConfMay.j0 k true a0_0 l0_1) else (if a0_0 > 1048576 then (wharfageref10_ConfMay.j0 k true a0_0 l0_1) else (wharfageref10_ConfMay.j0 k (decide ((l0_1.length : Int) > 3)) a0_0 l0_1))
theorem wharfageref10_ConfMay.mono_l : ∀ k, (∀ y0 y1 y2, LeO (wharfageref10_ConfMay.j0 k y0 y1 y2) (wharfageref10_ConfMay.j0 (k + 1) y0 y1 y2)) ∧ (∀ y0 y1 y2, LeO (wharfageref10_ConfMay.l0 k y0 y1 y2) (wharfageref10_ConfMay.l0 (k + 1) y0 y1 y2)) ∧ (∀ y0 y1 y2 y3 y4 y5 y6 y7, LeO (wharfageref10_ConfMay.j2 k y0 y1 y2 y3 y4 y5 y6 y7) (wharfageref10_ConfMay.j2 (k + 1) y0 y1 y2 y3 y4 y5 y6 y7)) ∧ (∀ y0 y1 y2 y3 y4 y5 y6 y7, LeO (wharfageref10_ConfMay.l1 k y0 y1 y2 y3 y4 y5 y6 y7) (wharfageref10_ConfMay.l1 (k + 1) y0 y1 y2 y3 y4 y5 y6 y7))
 | 0 => ⟨fun _ _ _ r h => by simp [wharfageref10_ConfMay.j0] at h, fun _ _ _ r h => by simp [wharfageref10_ConfMay.l0] at h, fun _ _ _ _ _ _ _ _ r h => by simp [wharfageref10_ConfMay.j2] at h, fun _ _ _ _ _ _ _ _ r h => by simp [wharfageref10_ConfMay.l1] at h⟩
 | k + 1 => by
  obtain ⟨ih0, ih1, ih2, ih3⟩ := wharfageref10_ConfMay.mono_l k
  refine ⟨?_, ?_, ?_, ?_⟩
  ·intro y0 y1 y2
   unfold wharfageref10_ConfMay.j0
   repeat' first
   | (with_reducible exact ih0 _ _ _)
   | (with_reducible exact ih1 _ _ _)
   | (with_reducible exact ih2 _ _ _ _ _ _ _ _)
   | (with_reducible exact ih3 _ _ _ _ _ _ _ _)
   | (with_reducible exact LeO.refl _)
   | (with_reducible exact LeO.none _)
   | (with_reducible refine LeO.ite ?_ ?_)
   | (with_reducible refine LeO.bind ?_ (fun _ => ?_))
   | exact ih0 _ _ _
   | exact ih1 _ _ _
   | exact ih2 _ _ _ _ _ _ _ _
   | exact ih3 _ _ _ _ _ _ _ _
   | exact LeO.none _
   | refine LeO.ite ?_ ?_
   | refine LeO.bind ?_ (fun _ => ?_)
  ·intro y0 y1 y2
   unfold wharfageref10_ConfMay.l0
   repeat' first
   | (with_reducible exact ih0 _ _ _)
   | (with_reducible exact ih1 _ _ _)
   | (with_reducible exact ih2 _ _ _ _ _ _ _ _)
   | (with_reducible exact ih3 _ _ _ _ _ _ _ _)
   | (with_reducible exact LeO.refl _)
   | (with_reducible exact LeO.none _)
   | (with_reducible refine LeO.ite ?_ ?_)
   | (with_reducible refine LeO.bind ?_ (fun _ => ?_))
   | exact ih0 _ _ _
   | exact ih1 _ _ _
   | exact ih2 _ _ _ _ _ _ _ _
   | exact ih3 _ _ _ _ _ _ _ _
   | exact LeO.none _
   | refine LeO.ite ?_ ?_
   | refine LeO.bind ?_ (fun _ => ?_)
  ·intro y0 y1 y2 y3 y4 y5 y6 y7
   unfold wharfageref10_ConfMay.j2
   repeat' first
   | (with_reducible exact ih0 _ _ _)
   | (with_reducible exact ih1 _ _ _)
   | (with_reducible exact ih2 _ _ _ _ _ _ _ _)
   | (with_reducible exact ih3 _ _ _ _ _ _ _ _)
   | (with_reducible exact LeO.refl _)
   | (with_reducible exact LeO.none _)
   | (with_reducible refine LeO.ite ?_ ?_)
   | (with_reducible refine LeO.bind ?_ (fun _ => ?_))
   | exact ih0 _ _ _
   | exact ih1 _ _ _
   | exact ih2 _ _ _ _ _ _ _ _
   | exact ih3 _ _ _ _ _ _ _ _
   | exact LeO.none _
   | refine LeO.ite ?_ ?_
   | refine LeO.bind ?_ (fun _ => ?_)
  ·intro y0 y1 y2 y3 y4 y5 y6 y7
   unfold wharfageref10_ConfMay.l1
   repeat' first
   | (with_reducible exact ih0 _ _ _)
   | (with_reducible exact ih1 _ _ _)
   | (with_reducible exact ih2 _ _ _ _ _ _ _ _)
   | (with_reducible exact ih3 _ _ _ _ _ _ _ _)
   | (with_reducible exact LeO.refl _)
   | (with_reducible exact LeO.none _)
   | (with_reducible refine LeO.ite ?_ ?_)
   | (with_reducible refine LeO.bind ?_ (fun _ => ?_))
   | exact ih0 _ _ _
   | exact ih1 _ _ _
   | exact ih2 _ _ _ _ _ _ _ _
   | exact ih3 _ _ _ _ _ _ _ _
   | exact LeO.none _
   | refine LeO.ite ?_ ?_
   | refine LeO.bind ?_ (fun _ => ?_)
theorem wharfageref10_ConfMay.mono : ∀ a0 a1 k, LeO (wharfageref10_ConfMay.f k a0 a1) (wharfageref10_ConfMay.f (k + 1) a0 a1) := by
 intro a0 a1 k
 obtain ⟨ih0, ih1, ih2, ih3⟩ := wharfageref10_ConfMay.mono_l k
 unfold wharfageref10_ConfMay.f
 repeat' first
   | (with_reducible exact ih0 _ _ _)
   | (with_reducible exact ih1 _ _ _)
   | (with_reducible exact ih2 _ _ _ _ _ _ _ _)
   | (with_reducible exact ih3 _ _ _ _ _ _ _ _)
   | (with_reducible exact LeO.refl _)
   | (with_reducible exact LeO.none _)
   | (with_reducible refine LeO.ite ?_ ?_)
   | (with_reducible refine LeO.bind ?_ (fun _ => ?_))
   | exact ih0 _ _ _
   | exact ih1 _ _ _
   | exact ih2 _ _ _ _ _ _ _ _
   | exact ih3 _ _ _ _ _ _ _ _
   | exact LeO.none _
   | refine LeO.ite ?_ ?_
   | refine LeO.bind ?_ (fun _ => ?_)
set_option maxHeartbeats 8000000 in
set_option maxRecDepth 100000 in
theorem wharfageref10_ConfMay.calls (k : Nat) (a0_0 : Int) (A0_1 : Option Addr) (c0_1 : Nat) (l0_1 : List (S53)) (r : Bool) (w : World) (hr0_1 : Kd.C k53 w A0_1 l0_1.length l0_1) (hc0_1 : l0_1.length ≤ c0_1) (h : wharfageref10_ConfMay.f k a0_0 l0_1 = some r) :
  Calls Try.prog 39 #[.agg #[.int .i64 a0_0, .slice A0_1 l0_1.length c0_1]] w fun e w' => e = .returned (.bool r) ∧ Below w.heap.size w w' := by
 have hu24 := Try.underlying24
 have hu53 := Try.underlying53
 have HR0_1 := Aside0.mk hr0_1
 have HC0_1 := Aside0.mk hc0_1
 clear hr0_1 hc0_1
 have HB := Aside0.mk (Below.refl w.heap.size w)
 have H : (if a0_0 < 0 then (wharfageref10_ConfMay.j0 k true a0_0 l0_1) else (if a0_0 > 1048576 then (wharfageref10_ConfMay.j0 k true a0_0 l0_1) else (wharfageref10_ConfMay.j0 k (decide ((l0_1.length : Int) > 3)) a0_0 l0_1))) = some r := h
 clear h
 have HC2 := Aside0.mk H
 clear H
 go_enter Try.func39, Try.ntmps39
 go_upto_region 1 with (first | ((with_reducible refine gate_dst (N := 1) rfl ?_); (try (refine gate_guard (by rfl) ?_; dsimp only)); refine box_event ?hg (N := 1) ?hd (cs := #[.int .i64 a0_0, .slice A0_1 l0_1.length c0_1]) (t := 24) ?hr ?_; (case hd => rfl); (case hg => rfl); (case hr => first | (go_simp; done) | (go_simp; rfl)); intro g1 hg w3 hbox hb; have n0_ := Aside0.mk (below_step (by repeat (first | (with_reducible first | exact HB.out | apply below_alloc | apply pw_below_drewN | apply below_drew1) | exact HB.out)) hb); have n1_ := Aside0.mk (hbox); have n2_ := Aside0.mk ((by rw [hg]; exact (below_size (by repeat (first | (with_reducible first | exact HB.out | apply below_alloc | apply pw_below_drewN | apply below_drew1) | exact HB.out))) : w.heap.size ≤ g1)); have n3_ := Aside0.mk ((by rw [hg]; exact (below_size (by repeat (first | (with_reducible first | exact HB.out | apply below_alloc | apply pw_below_drewN | apply below_drew1) | exact HB.out))) : w.heap.size ≤ g1)); clear HB; have HB := n0_; have K1 := n1_; have G0 := n2_; have E0 := n3_; clear n0_ n1_ n2_ n3_; clear hb hbox hg))
 (try simp only [Act.put, List.setIfInBounds_toArray, List.set_cons_zero, List.set_cons_succ])
 go_cut [19] (fun v19 wc => ∃ (kq : Nat) (x19_1 : Bool), v19 = .bool x19_1 ∧ Aside0 (wharfageref10_ConfMay.j0 kq x19_1 a0_0 l0_1 = some r) ∧ Aside0 (kq ≤ k) ∧ Aside0 (wc.heap[g1]? = some (.cells #[.int .i64 a0_0, (.slice A0_1 l0_1.length c0_1)] 24 (0, 0))) ∧ Aside0 (Below w.heap.size w wc))
 case first =>
  have H := HC2.out
  clear HC2
  by_cases c4 : a0_0 < 0
  ·rw [if_pos c4] at H
   have c4b0 : decide (a0_0 < 0) = true := decide_eq_true c4
   clear c4
   (first | rw [c4b0] | (simp only [i64_w, i32_w]; rw [c4b0]) | skip)
   have H' := Aside0.mk H
   clear H
   have hcz5_0 : w3.cell? ⟨g1, 0, none⟩ = some (.int .i64 a0_0) := (blk_cell K1.out 0).trans rfl
   have hcz5_1 : w3.cell? ⟨g1, 1, none⟩ = some (.slice A0_1 l0_1.length c0_1) := (blk_cell K1.out 1).trans rfl
   have hfz5_0 := blk_frozen K1.out 0
   have hfz5_1 := blk_frozen K1.out 1
   go_wp2
   go_meet
   case rel => exact ⟨_, (true), (by first | rfl | (simp; done) | (simp [*]; done)), H', ⟨by first | omega | exact Nat.le_refl _⟩, ⟨by (with_reducible repeat (first | refine blk_drewN ?_ _ | refine blk_drew ?_ | refine blk_alloc ?_ _)); exact K1.out⟩, ⟨by repeat (first | (with_reducible first | exact HB.out | apply below_alloc | apply pw_below_drewN | apply below_drew1 | refine below_set ?_ E0.out) | exact HB.out)⟩⟩
  ·rw [if_neg c4] at H
   have c4b0 : decide (a0_0 < 0) = false := decide_eq_false c4
   clear c4
   (first | rw [c4b0] | (simp only [i64_w, i32_w]; rw [c4b0]) | skip)
   by_cases c6 : a0_0 > 1048576
   ·rw [if_pos c6] at H
    have c6b0 : decide (1048576 < a0_0) = true := decide_eq_true c6
    clear c6
    have H' := Aside0.mk H
    clear H
    have hcz7_0 : w3.cell? ⟨g1, 0, none⟩ = some (.int .i64 a0_0) := (blk_cell K1.out 0).trans rfl
    have hcz7_1 : w3.cell? ⟨g1, 1, none⟩ = some (.slice A0_1 l0_1.length c0_1) := (blk_cell K1.out 1).trans rfl
    have hfz7_0 := blk_frozen K1.out 0
    have hfz7_1 := blk_frozen K1.out 1
    go_wp2
    go_meet
    case rel => exact ⟨_, (true), (by first | rfl | (simp; done) | (simp [*]; done)), H', ⟨by first | omega | exact Nat.le_refl _⟩, ⟨by (with_reducible repeat (first | refine blk_drewN ?_ _ | refine blk_drew ?_ | refine blk_alloc ?_ _)); exact K1.out⟩, ⟨by repeat (first | (with_reducible first | exact HB.out | apply below_alloc | apply pw_below_drewN | apply below_drew1 | refine below_set ?_ E0.out) | exact HB.out)⟩⟩
   ·rw [if_neg c6] at H
    have c6b0 : decide (1048576 < a0_0) = false := decide_eq_false c6
    clear c6
    have H' := Aside0.mk H
    clear H
    have hcz8_0 : w3.cell? ⟨g1, 0, none⟩ = some (.int .i64 a0_0) := (blk_cell K1.out 0).trans rfl
    have hcz8_1 : w3.cell? ⟨g1, 1, none⟩ = some (.slice A0_1 l0_1.length c0_1) := (blk_cell K1.out 1).trans rfl
    have hfz8_0 := blk_frozen K1.out 0
    have hfz8_1 := blk_frozen K1.out 1
    go_wp2
    go_meet
    case rel => exact ⟨_, (decide ((l0_1.length : Int) > 3)), (by first | rfl | (simp; done) | (simp [*]; done)), H', ⟨by first | omega | exact Nat.le_refl _⟩, ⟨by (with_reducible repeat (first | refine blk_drewN ?_ _ | refine blk_drew ?_ | refine blk_alloc ?_ _)); exact K1.out⟩, ⟨by repeat (first | (with_reducible first | exact HB.out | apply below_alloc | apply pw_below_drewN | apply below_drew1 | refine below_set ?_ E0.out) | exact HB.out)⟩⟩
 case rest =>
  clear HC2
  try clear p2
  try clear c3
  try clear c4
  try clear c4b0
  try clear c6
  try clear c6b0
  try clear hcz5_0
  try clear hcz5_1
  try clear hcz7_0
  try clear hcz7_1
  try clear hcz8_0
  try clear hcz8_1
  try clear hfz5_0
  try clear hfz5_1
  try clear hfz7_0
  try clear hfz7_1
  try clear hfz8_0
  try clear hfz8_1
  obtain ⟨kq, x19_1, rfl, HA, HJ1, K1, HB⟩ := hcut
  cases kq with
  | zero => exact absurd HA.out (by simp [wharfageref10_ConfMay.j0])
  | succ kj1 =>
   have H := HA.out
   clear HA
   simp only [wharfageref10_ConfMay.j0] at H
   by_cases c9 : x19_1 = true
   ·subst c9
    have H1 : (some false) = some r := by rw [if_pos rfl] at H; exact H
    clear H
    have H := H1
    clear H1
    obtain rfl := Option.some.inj H
    go_wp2
    go_ret
    exact ⟨by first | rfl | (simp [errW_none, errW_some] <;> rfl) | (simp [*, errW_none, errW_some] <;> rfl), by repeat (first | (with_reducible first | exact HB.out | apply below_alloc | apply pw_below_drewN | apply below_drew1 | refine below_set ?_ E0.out) | exact HB.out)⟩
   ·replace c9 := Bool.eq_false_iff.mpr c9
    subst c9
    have H1 : (wharfageref10_ConfMay.l0 kj1 0 a0_0 l0_1) = some r := by rw [if_neg (show ¬ (false = true) by decide)] at H; exact H
    clear H
    have H := H1
    clear H1
    have H' := Aside0.mk H
    clear H
    go_wp2
    go_loopg [3] kj1 (fun kq v3 w' => ∃ (x3_2 : Int), v3 = .int .i64 x3_2 ∧ Aside0 (wharfageref10_ConfMay.l0 kq x3_2 a0_0 l0_1 = some r) ∧ Aside0 (kq ≤ kj1) ∧ Aside0 (w'.heap[g1]? = some (.cells #[.int .i64 a0_0, (.slice A0_1 l0_1.length c0_1)] 24 (0, 0))) ∧ Aside0 (Below w.heap.size w w'))
    case atStart => exact ⟨(0), (by first | rfl | (simp; done) | (simp [*]; done)), H', ⟨Nat.le_refl _⟩, ⟨by (with_reducible repeat (first | refine blk_drewN ?_ _ | refine blk_drew ?_ | refine blk_alloc ?_ _)); exact K1.out⟩, ⟨by repeat (first | (with_reducible first | exact HB.out | apply below_alloc | apply pw_below_drewN | apply below_drew1 | refine below_set ?_ E0.out) | exact HB.out)⟩⟩
    case round =>
     clear H'
     try clear p2
     try clear c3
     try clear c4
     try clear c4b0
     try clear c6
     try clear c6b0
     try clear c9
     try clear hcz5_0
     try clear hcz5_1
     try clear hcz7_0
     try clear hcz7_1
     try clear hcz8_0
     try clear hcz8_1
     try clear hfz5_0
     try clear hfz5_1
     try clear hfz7_0
     try clear hfz7_1
     try clear hfz8_0
     try clear hfz8_1
     try clear p2
     obtain ⟨x3_2, rfl, HA, HK2, K1, HB⟩ := hrel
     cases gk with
     | zero => exact absurd HA.out (by simp [wharfageref10_ConfMay.l0])
     | succ k2 =>
      have H := HA.out
      clear HA
      simp only [wharfageref10_ConfMay.l0] at H
      by_cases c10 : x3_2 < (l0_1.length : Int)
      ·rw [if_pos c10] at H
       have c10b0 : decide (x3_2 < (l0_1.length : Int)) = true := decide_eq_true c10
       clear c10
       by_cases c11 : 0 ≤ x3_2
       ·rw [if_pos c11] at H
        have c11b0 : decide (0 ≤ x3_2) = true := decide_eq_true c11
        clear c11
        have HC12 := Aside0.mk H
        clear H
        have hcz13_0 : wr.cell? ⟨g1, 0, none⟩ = some (.int .i64 a0_0) := (blk_cell K1.out 0).trans rfl
        have hcz13_1 : wr.cell? ⟨g1, 1, none⟩ = some (.slice A0_1 l0_1.length c0_1) := (blk_cell K1.out 1).trans rfl
        have hfz13_0 := blk_frozen K1.out 0
        have hfz13_1 := blk_frozen K1.out 1
        have p148 : 0 ≤ (x3_2 : Int) := of_decide_eq_true (by first | (with_reducible assumption) | assumption)
        have q148 : x3_2 < (l0_1.length : Int) := of_decide_eq_true (by first | (with_reducible assumption) | assumption)
        obtain ⟨ad148, A148_3, c148_3, e148, hx148_0, hx148_1, hx148_2, hx148_3, hl148_3, hi148_3⟩ := at_T53 HR0_1.out x3_2 p148 q148
        cases e148
        replace hx148_0 := (HB.out.cell (World.block_lt_of_cell? w _ hx148_0)).trans hx148_0
        replace hx148_1 := (HB.out.cell (World.block_lt_of_cell? w _ hx148_1)).trans hx148_1
        replace hx148_2 := (HB.out.cell (World.block_lt_of_cell? w _ hx148_2)).trans hx148_2
        replace hx148_3 := (HB.out.cell (World.block_lt_of_cell? w _ hx148_3)).trans hx148_3
        have HR148_3 := Aside0.mk hi148_3
        have HC148_3 := Aside0.mk hl148_3
        clear hi148_3 hl148_3
        replace p148 := eq_true p148
        replace q148 := eq_true q148
        go_upto_region 7 with (first | ((with_reducible refine gate_dst (N := 4) rfl ?_); (try (refine gate_guard (by rfl) ?_; dsimp only)); refine box_event ?hg (N := 4) ?hd (cs := #[.int .i64 0, .bool false, .int .i64 0, .slice none 0 0]) (t := 53) ?hr ?_; (case hd => rfl); (case hg => rfl); (case hr => first | (go_simp; done) | (go_simp; rfl)); intro g0 hg w14 hbox hb; have n0_ := Aside0.mk (blk_below (g := g1) (o := .cells #[.int .i64 a0_0, .slice (some ad148) l0_1.length c0_1] 24 (0, 0)) (by (with_reducible repeat (first | refine blk_drewN ?_ _ | refine blk_drew ?_ | refine blk_alloc ?_ _)); exact K1.out) hb); have n1_ := Aside0.mk (below_step (by repeat (first | (with_reducible first | exact HB.out | apply below_alloc | apply pw_below_drewN | apply below_drew1 | refine below_set ?_ E0.out) | exact HB.out)) hb); have n2_ := Aside0.mk (hbox); have n3_ := Aside0.mk ((by rw [hg]; exact (below_size (by repeat (first | (with_reducible first | exact HB.out | apply below_alloc | apply pw_below_drewN | apply below_drew1 | refine below_set ?_ E0.out) | exact HB.out))) : w.heap.size ≤ g0)); have n4_ := Aside0.mk ((by rw [hg]; exact (below_size (by repeat (first | (with_reducible first | exact HB.out | apply below_alloc | apply pw_below_drewN | apply below_drew1 | refine below_set ?_ E0.out) | exact HB.out))) : w.heap.size ≤ g0)); have n5_ := Aside0.mk ((by rw [hg]; exact Nat.ne_of_lt (blk_lt (g := g1) (o := .cells #[.int .i64 a0_0, .slice (some ad148) l0_1.length c0_1] 24 (0, 0)) (by (with_reducible repeat (first | refine blk_drewN ?_ _ | refine blk_drew ?_ | refine blk_alloc ?_ _)); exact K1.out)) : g1 ≠ g0)); have n6_ := Aside0.mk ((by rw [hg]; exact Nat.ne_of_gt (blk_lt (g := g1) (o := .cells #[.int .i64 a0_0, .slice (some ad148) l0_1.length c0_1] 24 (0, 0)) (by (with_reducible repeat (first | refine blk_drewN ?_ _ | refine blk_drew ?_ | refine blk_alloc ?_ _)); exact K1.out)) : g0 ≠ g1)); clear K1; clear HB; have K1 := n0_; have HB := n1_; have K0 := n2_; have G1 := n3_; have E1 := n4_; have N0 := n5_; have N1 := n6_; clear n0_ n1_ n2_ n3_ n4_ n5_ n6_; clear hb hbox hg; have hnb15 := N1.out; have hnc15 := N0.out; have hcz16_0 : w14.cell? ⟨g0, 0, none⟩ = some (.int .i64 0) := (blk_cell K0.out 0).trans rfl; have hcz16_1 : w14.cell? ⟨g0, 1, none⟩ = some (.bool false) := (blk_cell K0.out 1).trans rfl; have hcz16_2 : w14.cell? ⟨g0, 2, none⟩ = some (.int .i64 0) := (blk_cell K0.out 2).trans rfl; have hcz16_3 : w14.cell? ⟨g0, 3, none⟩ = some (.slice none 0 0) := (blk_cell K0.out 3).trans rfl; have hfz16_0 := blk_frozen K0.out 0; have hfz16_1 := blk_frozen K0.out 1; have hfz16_2 := blk_frozen K0.out 2; have hfz16_3 := blk_frozen K0.out 3))
        (try simp only [Act.put, List.setIfInBounds_toArray, List.set_cons_zero, List.set_cons_succ])
        go_cut [55] (fun v55 wc => ∃ (kq : Nat) (x55_11 : Bool), v55 = .bool x55_11 ∧ Aside0 (wharfageref10_ConfMay.j2 kq x3_2 x55_11 a0_0 l0_1 ((rd_T53 l0_1 x3_2).f0) ((rd_T53 l0_1 x3_2).f1) ((rd_T53 l0_1 x3_2).f2) ((rd_T53 l0_1 x3_2).f3) = some r) ∧ Aside0 (kq ≤ k2) ∧ Aside0 (wc.heap[g1]? = some (.cells #[.int .i64 a0_0, (.slice (some ad148) l0_1.length c0_1)] 24 (0, 0))) ∧ Aside0 (wc.heap[g0]? = some (.cells #[.int .i64 ((rd_T53 l0_1 x3_2).f0), .bool ((rd_T53 l0_1 x3_2).f1), .int .i64 ((rd_T53 l0_1 x3_2).f2), (.slice A148_3 ((rd_T53 l0_1 x3_2).f3).length c148_3)] 53 (0, 0))) ∧ Aside0 (Below w.heap.size w wc))
        case first =>
         have H := HC12.out
         clear HC12
         by_cases c17 : ((rd_T53 l0_1 x3_2).f0) < 0
         ·rw [if_pos c17] at H
          have c17b0 : decide (((rd_T53 l0_1 x3_2).f0) < 0) = true := decide_eq_true c17
          clear c17
          (first | rw [c17b0] | (simp only [i64_w, i32_w]; rw [c17b0]) | skip)
          have H' := Aside0.mk H
          clear H
          have hnb18 := N1.out
          have hnc18 := N0.out
          have hcz19_0 : w14.cell? ⟨g0, 0, none⟩ = some (.int .i64 0) := (blk_cell K0.out 0).trans rfl
          have hcz19_1 : w14.cell? ⟨g0, 1, none⟩ = some (.bool false) := (blk_cell K0.out 1).trans rfl
          have hcz19_2 : w14.cell? ⟨g0, 2, none⟩ = some (.int .i64 0) := (blk_cell K0.out 2).trans rfl
          have hcz19_3 : w14.cell? ⟨g0, 3, none⟩ = some (.slice none 0 0) := (blk_cell K0.out 3).trans rfl
          have hfz19_0 := blk_frozen K0.out 0
          have hfz19_1 := blk_frozen K0.out 1
          have hfz19_2 := blk_frozen K0.out 2
          have hfz19_3 := blk_frozen K0.out 3
          go_wp2
          go_meet
          case rel => exact ⟨_, (true), (by first | rfl | (simp; done) | (simp [*]; done)), H', ⟨by have := HJ1.out; have := HK2.out; first | omega | exact Nat.le_refl _⟩, ⟨by (with_reducible repeat (first | refine blk_drewN ?_ _ | refine blk_drew ?_ | refine blk_alloc ?_ _)); refine blk_far ?_ N0.out _; (with_reducible repeat (first | refine blk_drewN ?_ _ | refine blk_drew ?_ | refine blk_alloc ?_ _)); refine blk_far ?_ N0.out _; (with_reducible repeat (first | refine blk_drewN ?_ _ | refine blk_drew ?_ | refine blk_alloc ?_ _)); refine blk_far ?_ N0.out _; (with_reducible repeat (first | refine blk_drewN ?_ _ | refine blk_drew ?_ | refine blk_alloc ?_ _)); refine blk_far ?_ N0.out _; (with_reducible repeat (first | refine blk_drewN ?_ _ | refine blk_drew ?_ | refine blk_alloc ?_ _)); exact K1.out⟩, ⟨by (with_reducible repeat (first | refine blk_drewN ?_ _ | refine blk_drew ?_ | refine blk_alloc ?_ _)); refine blk_put (cs := #[.int .i64 ((rd_T53 l0_1 x3_2).f0), .bool ((rd_T53 l0_1 x3_2).f1), .int .i64 ((rd_T53 l0_1 x3_2).f2), .slice none 0 0]) ?_ 3 _ rfl; (with_reducible repeat (first | refine blk_drewN ?_ _ | refine blk_drew ?_ | refine blk_alloc ?_ _)); refine blk_put (cs := #[.int .i64 ((rd_T53 l0_1 x3_2).f0), .bool ((rd_T53 l0_1 x3_2).f1), .int .i64 0, .slice none 0 0]) ?_ 2 _ rfl; (with_reducible repeat (first | refine blk_drewN ?_ _ | refine blk_drew ?_ | refine blk_alloc ?_ _)); refine blk_put (cs := #[.int .i64 ((rd_T53 l0_1 x3_2).f0), .bool false, .int .i64 0, .slice none 0 0]) ?_ 1 _ rfl; (with_reducible repeat (first | refine blk_drewN ?_ _ | refine blk_drew ?_ | refine blk_alloc ?_ _)); refine blk_put (cs := #[.int .i64 0, .bool false, .int .i64 0, .slice none 0 0]) ?_ 0 _ rfl; (with_reducible repeat (first | refine blk_drewN ?_ _ | refine blk_drew ?_ | refine blk_alloc ?_ _)); exact K0.out⟩, ⟨by repeat (first | (with_reducible first | exact HB.out | apply below_alloc | apply pw_below_drewN | apply below_drew1 | refine below_set ?_ E0.out | refine below_set ?_ E1.out) | exact HB.out)⟩⟩
         ·rw [if_neg c17] at H
          have c17b0 : decide (((rd_T53 l0_1 x3_2).f0) < 0) = false := decide_eq_false c17
          clear c17
          (first | rw [c17b0] | (simp only [i64_w, i32_w]; rw [c17b0]) | skip)
          by_cases c20 : ((rd_T53 l0_1 x3_2).f0) > 16
          ·rw [if_pos c20] at H
           have c20b0 : decide (16 < ((rd_T53 l0_1 x3_2).f0)) = true := decide_eq_true c20
           clear c20
           have H' := Aside0.mk H
           clear H
           have hnb21 := N1.out
           have hnc21 := N0.out
           have hcz22_0 : w14.cell? ⟨g0, 0, none⟩ = some (.int .i64 0) := (blk_cell K0.out 0).trans rfl
           have hcz22_1 : w14.cell? ⟨g0, 1, none⟩ = some (.bool false) := (blk_cell K0.out 1).trans rfl
           have hcz22_2 : w14.cell? ⟨g0, 2, none⟩ = some (.int .i64 0) := (blk_cell K0.out 2).trans rfl
           have hcz22_3 : w14.cell? ⟨g0, 3, none⟩ = some (.slice none 0 0) := (blk_cell K0.out 3).trans rfl
           have hfz22_0 := blk_frozen K0.out 0
           have hfz22_1 := blk_frozen K0.out 1
           have hfz22_2 := blk_frozen K0.out 2
           have hfz22_3 := blk_frozen K0.out 3
           go_wp2
           go_meet
           case rel => exact ⟨_, (true), (by first | rfl | (simp; done) | (simp [*]; done)), H', ⟨by have := HJ1.out; have := HK2.out; first | omega | exact Nat.le_refl _⟩, ⟨by (with_reducible repeat (first | refine blk_drewN ?_ _ | refine blk_drew ?_ | refine blk_alloc ?_ _)); refine blk_far ?_ N0.out _; (with_reducible repeat (first | refine blk_drewN ?_ _ | refine blk_drew ?_ | refine blk_alloc ?_ _)); refine blk_far ?_ N0.out _; (with_reducible repeat (first | refine blk_drewN ?_ _ | refine blk_drew ?_ | refine blk_alloc ?_ _)); refine blk_far ?_ N0.out _; (with_reducible repeat (first | refine blk_drewN ?_ _ | refine blk_drew ?_ | refine blk_alloc ?_ _)); refine blk_far ?_ N0.out _; (with_reducible repeat (first | refine blk_drewN ?_ _ | refine blk_drew ?_ | refine blk_alloc ?_ _)); exact K1.out⟩, ⟨by (with_reducible repeat (first | refine blk_drewN ?_ _ | refine blk_drew ?_ | refine blk_alloc ?_ _)); refine blk_put (cs := #[.int .i64 ((rd_T53 l0_1 x3_2).f0), .bool ((rd_T53 l0_1 x3_2).f1), .int .i64 ((rd_T53 l0_1 x3_2).f2), .slice none 0 0]) ?_ 3 _ rfl; (with_reducible repeat (first | refine blk_drewN ?_ _ | refine blk_drew ?_ | refine blk_alloc ?_ _)); refine blk_put (cs := #[.int .i64 ((rd_T53 l0_1 x3_2).f0), .bool ((rd_T53 l0_1 x3_2).f1), .int .i64 0, .slice none 0 0]) ?_ 2 _ rfl; (with_reducible repeat (first | refine blk_drewN ?_ _ | refine blk_drew ?_ | refine blk_alloc ?_ _)); refine blk_put (cs := #[.int .i64 ((rd_T53 l0_1 x3_2).f0), .bool false, .int .i64 0, .slice none 0 0]) ?_ 1 _ rfl; (with_reducible repeat (first | refine blk_drewN ?_ _ | refine blk_drew ?_ | refine blk_alloc ?_ _)); refine blk_put (cs := #[.int .i64 0, .bool false, .int .i64 0, .slice none 0 0]) ?_ 0 _ rfl; (with_reducible repeat (first | refine blk_drewN ?_ _ | refine blk_drew ?_ | refine blk_alloc ?_ _)); exact K0.out⟩, ⟨by repeat (first | (with_reducible first | exact HB.out | apply below_alloc | apply pw_below_drewN | apply below_drew1 | refine below_set ?_ E0.out | refine below_set ?_ E1.out) | exact HB.out)⟩⟩
          ·rw [if_neg c20] at H
           have c20b0 : decide (16 < ((rd_T53 l0_1 x3_2).f0)) = false := decide_eq_false c20
           clear c20
           by_cases c23 : ((rd_T53 l0_1 x3_2).f2) < 0
           ·rw [if_pos c23] at H
            have c23b0 : decide (((rd_T53 l0_1 x3_2).f2) < 0) = true := decide_eq_true c23
            clear c23
            have H' := Aside0.mk H
            clear H
            have hnb24 := N1.out
            have hnc24 := N0.out
            have hcz25_0 : w14.cell? ⟨g0, 0, none⟩ = some (.int .i64 0) := (blk_cell K0.out 0).trans rfl
            have hcz25_1 : w14.cell? ⟨g0, 1, none⟩ = some (.bool false) := (blk_cell K0.out 1).trans rfl
            have hcz25_2 : w14.cell? ⟨g0, 2, none⟩ = some (.int .i64 0) := (blk_cell K0.out 2).trans rfl
            have hcz25_3 : w14.cell? ⟨g0, 3, none⟩ = some (.slice none 0 0) := (blk_cell K0.out 3).trans rfl
            have hfz25_0 := blk_frozen K0.out 0
            have hfz25_1 := blk_frozen K0.out 1
            have hfz25_2 := blk_frozen K0.out 2
            have hfz25_3 := blk_frozen K0.out 3
            go_wp2
            go_meet
            case rel => exact ⟨_, (true), (by first | rfl | (simp; done) | (simp [*]; done)), H', ⟨by have := HJ1.out; have := HK2.out; first | omega | exact Nat.le_refl _⟩, ⟨by (with_reducible repeat (first | refine blk_drewN ?_ _ | refine blk_drew ?_ | refine blk_alloc ?_ _)); refine blk_far ?_ N0.out _; (with_reducible repeat (first | refine blk_drewN ?_ _ | refine blk_drew ?_ | refine blk_alloc ?_ _)); refine blk_far ?_ N0.out _; (with_reducible repeat (first | refine blk_drewN ?_ _ | refine blk_drew ?_ | refine blk_alloc ?_ _)); refine blk_far ?_ N0.out _; (with_reducible repeat (first | refine blk_drewN ?_ _ | refine blk_drew ?_ | refine blk_alloc ?_ _)); refine blk_far ?_ N0.out _; (with_reducible repeat (first | refine blk_drewN ?_ _ | refine blk_drew ?_ | refine blk_alloc ?_ _)); exact K1.out⟩, ⟨by (with_reducible repeat (first | refine blk_drewN ?_ _ | refine blk_drew ?_ | refine blk_alloc ?_ _)); refine blk_put (cs := #[.int .i64 ((rd_T53 l0_1 x3_2).f0), .bool ((rd_T53 l0_1 x3_2).f1), .int .i64 ((rd_T53 l0_1 x3_2).f2), .slice none 0 0]) ?_ 3 _ rfl; (with_reducible repeat (first | refine blk_drewN ?_ _ | refine blk_drew ?_ | refine blk_alloc ?_ _)); refine blk_put (cs := #[.int .i64 ((rd_T53 l0_1 x3_2).f0), .bool ((rd_T53 l0_1 x3_2).f1), .int .i64 0, .slice none 0 0]) ?_ 2 _ rfl; (with_reducible repeat (first | refine blk_drewN ?_ _ | refine blk_drew ?_ | refine blk_alloc ?_ _)); refine blk_put (cs := #[.int .i64 ((rd_T53 l0_1 x3_2).f0), .bool false, .int .i64 0, .slice none 0 0]) ?_ 1 _ rfl; (with_reducible repeat (first | refine blk_drewN ?_ _ | refine blk_drew ?_ | refine blk_alloc ?_ _)); refine blk_put (cs := #[.int .i64 0, .bool false, .int .i64 0, .slice none 0 0]) ?_ 0 _ rfl; (with_reducible repeat (first | refine blk_drewN ?_ _ | refine blk_drew ?_ | refine blk_alloc ?_ _)); exact K0.out⟩, ⟨by repeat (first | (with_reducible first | exact HB.out | apply below_alloc | apply pw_below_drewN | apply below_drew1 | refine below_set ?_ E0.out | refine below_set ?_ E1.out) | exact HB.out)⟩⟩
           ·rw [if_neg c23] at H
            have c23b0 : decide (((rd_T53 l0_1 x3_2).f2) < 0) = false := decide_eq_false c23
            clear c23
            by_cases c26 : ((rd_T53 l0_1 x3_2).f2) > 8
            ·rw [if_pos c26] at H
             have c26b0 : decide (8 < ((rd_T53 l0_1 x3_2).f2)) = true := decide_eq_true c26
             clear c26
             have H' := Aside0.mk H
             clear H
             have hnb27 := N1.out
             have hnc27 := N0.out
             have hcz28_0 : w14.cell? ⟨g0, 0, none⟩ = some (.int .i64 0) := (blk_cell K0.out 0).trans rfl
             have hcz28_1 : w14.cell? ⟨g0, 1, none⟩ = some (.bool false) := (blk_cell K0.out 1).trans rfl
             have hcz28_2 : w14.cell? ⟨g0, 2, none⟩ = some (.int .i64 0) := (blk_cell K0.out 2).trans rfl
             have hcz28_3 : w14.cell? ⟨g0, 3, none⟩ = some (.slice none 0 0) := (blk_cell K0.out 3).trans rfl
             have hfz28_0 := blk_frozen K0.out 0
             have hfz28_1 := blk_frozen K0.out 1
             have hfz28_2 := blk_frozen K0.out 2
             have hfz28_3 := blk_frozen K0.out 3
             go_wp2
             go_meet
             case rel => exact ⟨_, (true), (by first | rfl | (simp; done) | (simp [*]; done)), H', ⟨by have := HJ1.out; have := HK2.out; first | omega | exact Nat.le_refl _⟩, ⟨by (with_reducible repeat (first | refine blk_drewN ?_ _ | refine blk_drew ?_ | refine blk_alloc ?_ _)); refine blk_far ?_ N0.out _; (with_reducible repeat (first | refine blk_drewN ?_ _ | refine blk_drew ?_ | refine blk_alloc ?_ _)); refine blk_far ?_ N0.out _; (with_reducible repeat (first | refine blk_drewN ?_ _ | refine blk_drew ?_ | refine blk_alloc ?_ _)); refine blk_far ?_ N0.out _; (with_reducible repeat (first | refine blk_drewN ?_ _ | refine blk_drew ?_ | refine blk_alloc ?_ _)); refine blk_far ?_ N0.out _; (with_reducible repeat (first | refine blk_drewN ?_ _ | refine blk_drew ?_ | refine blk_alloc ?_ _)); exact K1.out⟩, ⟨by (with_reducible repeat (first | refine blk_drewN ?_ _ | refine blk_drew ?_ | refine blk_alloc ?_ _)); refine blk_put (cs := #[.int .i64 ((rd_T53 l0_1 x3_2).f0), .bool ((rd_T53 l0_1 x3_2).f1), .int .i64 ((rd_T53 l0_1 x3_2).f2), .slice none 0 0]) ?_ 3 _ rfl; (with_reducible repeat (first | refine blk_drewN ?_ _ | refine blk_drew ?_ | refine blk_alloc ?_ _)); refine blk_put (cs := #[.int .i64 ((rd_T53 l0_1 x3_2).f0), .bool ((rd_T53 l0_1 x3_2).f1), .int .i64 0, .slice none 0 0]) ?_ 2 _ rfl; (with_reducible repeat (first | refine blk_drewN ?_ _ | refine blk_drew ?_ | refine blk_alloc ?_ _)); refine blk_put (cs := #[.int .i64 ((rd_T53 l0_1 x3_2).f0), .bool false, .int .i64 0, .slice none 0 0]) ?_ 1 _ rfl; (with_reducible repeat (first | refine blk_drewN ?_ _ | refine blk_drew ?_ | refine blk_alloc ?_ _)); refine blk_put (cs := #[.int .i64 0, .bool false, .int .i64 0, .slice none 0 0]) ?_ 0 _ rfl; (with_reducible repeat (first | refine blk_drewN ?_ _ | refine blk_drew ?_ | refine blk_alloc ?_ _)); exact K0.out⟩, ⟨by repeat (first | (with_reducible first | exact HB.out | apply below_alloc | apply pw_below_drewN | apply below_drew1 | refine below_set ?_ E0.out | refine below_set ?_ E1.out) | exact HB.out)⟩⟩
            ·rw [if_neg c26] at H
             have c26b0 : decide (8 < ((rd_T53 l0_1 x3_2).f2)) = false := decide_eq_false c26
             clear c26
             have H' := Aside0.mk H
             clear H
             have hnb29 := N1.out
             have hnc29 := N0.out
             have hcz30_0 : w14.cell? ⟨g0, 0, none⟩ = some (.int .i64 0) := (blk_cell K0.out 0).trans rfl
             have hcz30_1 : w14.cell? ⟨g0, 1, none⟩ = some (.bool false) := (blk_cell K0.out 1).trans rfl
             have hcz30_2 : w14.cell? ⟨g0, 2, none⟩ = some (.int .i64 0) := (blk_cell K0.out 2).trans rfl
             have hcz30_3 : w14.cell? ⟨g0, 3, none⟩ = some (.slice none 0 0) := (blk_cell K0.out 3).trans rfl
             have hfz30_0 := blk_frozen K0.out 0
             have hfz30_1 := blk_frozen K0.out 1
             have hfz30_2 := blk_frozen K0.out 2
             have hfz30_3 := blk_frozen K0.out 3
             go_wp2
             go_meet
             case rel => exact ⟨_, (decide ((((rd_T53 l0_1 x3_2).f3).length : Int) > 4)), (by first | rfl | (simp; done) | (simp [*]; done)), H', ⟨by have := HJ1.out; have := HK2.out; first | omega | exact Nat.le_refl _⟩, ⟨by (with_reducible repeat (first | refine blk_drewN ?_ _ | refine blk_drew ?_ | refine blk_alloc ?_ _)); refine blk_far ?_ N0.out _; (with_reducible repeat (first | refine blk_drewN ?_ _ | refine blk_drew ?_ | refine blk_alloc ?_ _)); refine blk_far ?_ N0.out _; (with_reducible repeat (first | refine blk_drewN ?_ _ | refine blk_drew ?_ | refine blk_alloc ?_ _)); refine blk_far ?_ N0.out _; (with_reducible repeat (first | refine blk_drewN ?_ _ | refine blk_drew ?_ | refine blk_alloc ?_ _)); refine blk_far ?_ N0.out _; (with_reducible repeat (first | refine blk_drewN ?_ _ | refine blk_drew ?_ | refine blk_alloc ?_ _)); exact K1.out⟩, ⟨by (with_reducible repeat (first | refine blk_drewN ?_ _ | refine blk_drew ?_ | refine blk_alloc ?_ _)); refine blk_put (cs := #[.int .i64 ((rd_T53 l0_1 x3_2).f0), .bool ((rd_T53 l0_1 x3_2).f1), .int .i64 ((rd_T53 l0_1 x3_2).f2), .slice none 0 0]) ?_ 3 _ rfl; (with_reducible repeat (first | refine blk_drewN ?_ _ | refine blk_drew ?_ | refine blk_alloc ?_ _)); refine blk_put (cs := #[.int .i64 ((rd_T53 l0_1 x3_2).f0), .bool ((rd_T53 l0_1 x3_2).f1), .int .i64 0, .slice none 0 0]) ?_ 2 _ rfl; (with_reducible repeat (first | refine blk_drewN ?_ _ | refine blk_drew ?_ | refine blk_alloc ?_ _)); refine blk_put (cs := #[.int .i64 ((rd_T53 l0_1 x3_2).f0), .bool false, .int .i64 0, .slice none 0 0]) ?_ 1 _ rfl; (with_reducible repeat (first | refine blk_drewN ?_ _ | refine blk_drew ?_ | refine blk_alloc ?_ _)); refine blk_put (cs := #[.int .i64 0, .bool false, .int .i64 0, .slice none 0 0]) ?_ 0 _ rfl; (with_reducible repeat (first | refine blk_drewN ?_ _ | refine blk_drew ?_ | refine blk_alloc ?_ _)); exact K0.out⟩, ⟨by repeat (first | (with_reducible first | exact HB.out | apply below_alloc | apply pw_below_drewN | apply below_drew1 | refine below_set ?_ E0.out | refine below_set ?_ E1.out) | exact HB.out)⟩⟩
        case rest =>
         clear HC12
         try clear c1
         try clear p1
         try clear q1
         try clear hx1
         try clear c2
         try clear p2
         try clear c3
         try clear c4
         try clear c4b0
         try clear c6
         try clear c6b0
         try clear c9
         try clear c10
         try clear c10b0
         try clear c11
         try clear c11b0
         try clear c14
         try clear p14
         try clear q14
         try clear hx14
         try clear c15
         try clear c17
         try clear c17b0
         try clear c18
         try clear c20
         try clear c20b0
         try clear c21
         try clear c23
         try clear c23b0
         try clear c24
         try clear c26
         try clear c26b0
         try clear c27
         try clear c29
         try clear hcz13_0
         try clear hcz13_1
         try clear hcz16_0
         try clear hcz16_1
         try clear hcz16_2
         try clear hcz16_3
         try clear hcz19_0
         try clear hcz19_1
         try clear hcz19_2
         try clear hcz19_3
         try clear hcz22_0
         try clear hcz22_1
         try clear hcz22_2
         try clear hcz22_3
         try clear hcz25_0
         try clear hcz25_1
         try clear hcz25_2
         try clear hcz25_3
         try clear hcz28_0
         try clear hcz28_1
         try clear hcz28_2
         try clear hcz28_3
         try clear hcz30_0
         try clear hcz30_1
         try clear hcz30_2
         try clear hcz30_3
         try clear hcz5_0
         try clear hcz5_1
         try clear hcz7_0
         try clear hcz7_1
         try clear hcz8_0
         try clear hcz8_1
         try clear hfz13_0
         try clear hfz13_1
         try clear hfz16_0
         try clear hfz16_1
         try clear hfz16_2
         try clear hfz16_3
         try clear hfz19_0
         try clear hfz19_1
         try clear hfz19_2
         try clear hfz19_3
         try clear hfz22_0
         try clear hfz22_1
         try clear hfz22_2
         try clear hfz22_3
         try clear hfz25_0
         try clear hfz25_1
         try clear hfz25_2
         try clear hfz25_3
         try clear hfz28_0
         try clear hfz28_1
         try clear hfz28_2
         try clear hfz28_3
         try clear hfz30_0
         try clear hfz30_1
         try clear hfz30_2
         try clear hfz30_3
         try clear hfz5_0
         try clear hfz5_1
         try clear hfz7_0
         try clear hfz7_1
         try clear hfz8_0
         try clear hfz8_1
         try clear hx148_0
         try clear hx148_1
         try clear hx148_2
         try clear hx148_3
         try clear p148
         try clear p2
         try clear q148
         obtain ⟨kq, x55_11, rfl, HA, HJ11, K1, K0, HB⟩ := hcut
         cases kq with
         | zero => exact absurd HA.out (by simp [wharfageref10_ConfMay.j2])
         | succ kj11 =>
          have H := HA.out
          clear HA
          simp only [wharfageref10_ConfMay.j2] at H
          by_cases c31 : x55_11 = true
          ·subst c31
           have H1 : (some false) = some r := by rw [if_pos rfl] at H; exact H
           clear H
           have H := H1
           clear H1
           obtain rfl := Option.some.inj H
           go_wp2
           go_ret
           exact ⟨by first | rfl | (simp [errW_none, errW_some] <;> rfl) | (simp [*, errW_none, errW_some] <;> rfl), by repeat (first | (with_reducible first | exact HB.out | apply below_alloc | apply pw_below_drewN | apply below_drew1 | refine below_set ?_ E0.out | refine below_set ?_ E1.out) | exact HB.out)⟩
          ·replace c31 := Bool.eq_false_iff.mpr c31
           subst c31
           have H1 : (wharfageref10_ConfMay.l1 kj11 x3_2 0 a0_0 l0_1 ((rd_T53 l0_1 x3_2).f0) ((rd_T53 l0_1 x3_2).f1) ((rd_T53 l0_1 x3_2).f2) ((rd_T53 l0_1 x3_2).f3)) = some r := by rw [if_neg (show ¬ (false = true) by decide)] at H; exact H
           clear H
           have H := H1
           clear H1
           have H' := Aside0.mk H
           clear H
           go_wp2
           go_loopg [5] kj11 (fun kq v5 w' => ∃ (x5_4 : Int), v5 = .int .i64 x5_4 ∧ Aside0 (wharfageref10_ConfMay.l1 kq x3_2 x5_4 a0_0 l0_1 ((rd_T53 l0_1 x3_2).f0) ((rd_T53 l0_1 x3_2).f1) ((rd_T53 l0_1 x3_2).f2) ((rd_T53 l0_1 x3_2).f3) = some r) ∧ Aside0 (kq ≤ kj11) ∧ Aside0 (w'.heap[g1]? = some (.cells #[.int .i64 a0_0, (.slice (some ad148) l0_1.length c0_1)] 24 (0, 0))) ∧ Aside0 (w'.heap[g0]? = some (.cells #[.int .i64 ((rd_T53 l0_1 x3_2).f0), .bool ((rd_T53 l0_1 x3_2).f1), .int .i64 ((rd_T53 l0_1 x3_2).f2), (.slice A148_3 ((rd_T53 l0_1 x3_2).f3).length c148_3)] 53 (0, 0))) ∧ Aside0 (Below w.heap.size w w'))
           case atStart => exact ⟨(0), (by first | rfl | (simp; done) | (simp [*]; done)), H', ⟨Nat.le_refl _⟩, ⟨by (with_reducible repeat (first | refine blk_drewN ?_ _ | refine blk_drew ?_ | refine blk_alloc ?_ _)); exact K1.out⟩, ⟨by (with_reducible repeat (first | refine blk_drewN ?_ _ | refine blk_drew ?_ | refine blk_alloc ?_ _)); exact K0.out⟩, ⟨by repeat (first | (with_reducible first | exact HB.out | apply below_alloc | apply pw_below_drewN | apply below_drew1 | refine below_set ?_ E0.out | refine below_set ?_ E1.out) | exact HB.out)⟩⟩
           case round =>
            clear H'
            try clear c1
            try clear p1
            try clear q1
            try clear hx1
            try clear c2
            try clear p2
            try clear c3
            try clear c4
            try clear c4b0
            try clear c6
            try clear c6b0
            try clear c9
            try clear c10
            try clear c10b0
            try clear c11
            try clear c11b0
            try clear c14
            try clear p14
            try clear q14
            try clear hx14
            try clear c15
            try clear c17
            try clear c17b0
            try clear c18
            try clear c20
            try clear c20b0
            try clear c21
            try clear c23
            try clear c23b0
            try clear c24
            try clear c26
            try clear c26b0
            try clear c27
            try clear c29
            try clear c31
            try clear hcz13_0
            try clear hcz13_1
            try clear hcz16_0
            try clear hcz16_1
            try clear hcz16_2
            try clear hcz16_3
            try clear hcz19_0
            try clear hcz19_1
            try clear hcz19_2
            try clear hcz19_3
            try clear hcz22_0
            try clear hcz22_1
            try clear hcz22_2
            try clear hcz22_3
            try clear hcz25_0
            try clear hcz25_1
            try clear hcz25_2
            try clear hcz25_3
            try clear hcz28_0
            try clear hcz28_1
            try clear hcz28_2
            try clear hcz28_3
            try clear hcz30_0
            try clear hcz30_1
            try clear hcz30_2
            try clear hcz30_3
            try clear hcz5_0
            try clear hcz5_1
            try clear hcz7_0
            try clear hcz7_1
            try clear hcz8_0
            try clear hcz8_1
            try clear hfz13_0
            try clear hfz13_1
            try clear hfz16_0
            try clear hfz16_1
            try clear hfz16_2
            try clear hfz16_3
            try clear hfz19_0
            try clear hfz19_1
            try clear hfz19_2
            try clear hfz19_3
            try clear hfz22_0
            try clear hfz22_1
            try clear hfz22_2
            try clear hfz22_3
            try clear hfz25_0
            try clear hfz25_1
            try clear hfz25_2
            try clear hfz25_3
            try clear hfz28_0
            try clear hfz28_1
            try clear hfz28_2
            try clear hfz28_3
            try clear hfz30_0
            try clear hfz30_1
            try clear hfz30_2
            try clear hfz30_3
            try clear hfz5_0
            try clear hfz5_1
            try clear hfz7_0
            try clear hfz7_1
            try clear hfz8_0
            try clear hfz8_1
            try clear hx148_0
            try clear hx148_1
            try clear hx148_2
            try clear hx148_3
            try clear p1
            try clear p14
            try clear p148
            try clear p2
            try clear q1
            try clear q14
            try clear q148
            obtain ⟨x5_4, rfl, HA, HK4, K1, K0, HB⟩ := hrel
            cases gk with
            | zero => exact absurd HA.out (by simp [wharfageref10_ConfMay.l1])
            | succ k4 =>
             have H := HA.out
             clear HA
             simp only [wharfageref10_ConfMay.l1] at H
             by_cases c32 : x5_4 < (((rd_T53 l0_1 x3_2).f3).length : Int)
             ·rw [if_pos c32] at H
              have c32b0 : decide (x5_4 < (((rd_T53 l0_1 x3_2).f3).length : Int)) = true := decide_eq_true c32
              clear c32
              by_cases c33 : 0 ≤ x5_4
              ·rw [if_pos c33] at H
               have c33b0 : decide (0 ≤ x5_4) = true := decide_eq_true c33
               clear c33
               by_cases c34 : ((rd_T83 ((rd_T53 l0_1 x3_2).f3) x5_4).f0) < 0
               ·rw [if_pos c34] at H
                have c34b0 : decide (((rd_T83 ((rd_T53 l0_1 x3_2).f3) x5_4).f0) < 0) = true := decide_eq_true c34
                clear c34
                obtain rfl := Option.some.inj H
                have hnb35 := N1.out
                have hnc35 := N0.out
                have hcz36_0 : wr.cell? ⟨g0, 0, none⟩ = some (.int .i64 ((rd_T53 l0_1 x3_2).f0)) := (blk_cell K0.out 0).trans rfl
                have hcz36_1 : wr.cell? ⟨g0, 1, none⟩ = some (.bool ((rd_T53 l0_1 x3_2).f1)) := (blk_cell K0.out 1).trans rfl
                have hcz36_2 : wr.cell? ⟨g0, 2, none⟩ = some (.int .i64 ((rd_T53 l0_1 x3_2).f2)) := (blk_cell K0.out 2).trans rfl
                have hcz36_3 : wr.cell? ⟨g0, 3, none⟩ = some (.slice A148_3 ((rd_T53 l0_1 x3_2).f3).length c148_3) := (blk_cell K0.out 3).trans rfl
                have hfz36_0 := blk_frozen K0.out 0
                have hfz36_1 := blk_frozen K0.out 1
                have hfz36_2 := blk_frozen K0.out 2
                have hfz36_3 := blk_frozen K0.out 3
                have p150 : 0 ≤ (x5_4 : Int) := of_decide_eq_true (by first | (with_reducible assumption) | assumption)
                have q150 : x5_4 < (((rd_T53 l0_1 x3_2).f3).length : Int) := of_decide_eq_true (by first | (with_reducible assumption) | assumption)
                obtain ⟨ad150, e150, hx150_0, hx150_1⟩ := at_T83 HR148_3.out x5_4 p150 q150
                cases e150
                replace hx150_0 := (HB.out.cell (World.block_lt_of_cell? w _ hx150_0)).trans hx150_0
                replace hx150_1 := (HB.out.cell (World.block_lt_of_cell? w _ hx150_1)).trans hx150_1
                replace p150 := eq_true p150
                replace q150 := eq_true q150
                go_wp2
                go_ret
                exact ⟨by first | rfl | (simp [errW_none, errW_some] <;> rfl) | (simp [*, errW_none, errW_some] <;> rfl), by repeat (first | (with_reducible first | exact HB.out | apply below_alloc | apply pw_below_drewN | apply below_drew1 | refine below_set ?_ E0.out | refine below_set ?_ E1.out) | exact HB.out)⟩
               ·rw [if_neg c34] at H
                have c34b0 : decide (((rd_T83 ((rd_T53 l0_1 x3_2).f3) x5_4).f0) < 0) = false := decide_eq_false c34
                clear c34
                by_cases c37 : ((rd_T83 ((rd_T53 l0_1 x3_2).f3) x5_4).f0) > 16
                ·rw [if_pos c37] at H
                 have c37b0 : decide (16 < ((rd_T83 ((rd_T53 l0_1 x3_2).f3) x5_4).f0)) = true := decide_eq_true c37
                 clear c37
                 obtain rfl := Option.some.inj H
                 have hnb38 := N1.out
                 have hnc38 := N0.out
                 have hcz39_0 : wr.cell? ⟨g0, 0, none⟩ = some (.int .i64 ((rd_T53 l0_1 x3_2).f0)) := (blk_cell K0.out 0).trans rfl
                 have hcz39_1 : wr.cell? ⟨g0, 1, none⟩ = some (.bool ((rd_T53 l0_1 x3_2).f1)) := (blk_cell K0.out 1).trans rfl
                 have hcz39_2 : wr.cell? ⟨g0, 2, none⟩ = some (.int .i64 ((rd_T53 l0_1 x3_2).f2)) := (blk_cell K0.out 2).trans rfl
                 have hcz39_3 : wr.cell? ⟨g0, 3, none⟩ = some (.slice A148_3 ((rd_T53 l0_1 x3_2).f3).length c148_3) := (blk_cell K0.out 3).trans rfl
                 have hfz39_0 := blk_frozen K0.out 0
                 have hfz39_1 := blk_frozen K0.out 1
                 have hfz39_2 := blk_frozen K0.out 2
                 have hfz39_3 := blk_frozen K0.out 3
                 have p150 : 0 ≤ (x5_4 : Int) := of_decide_eq_true (by first | (with_reducible assumption) | assumption)
                 have q150 : x5_4 < (((rd_T53 l0_1 x3_2).f3).length : Int) := of_decide_eq_true (by first | (with_reducible assumption) | assumption)
                 obtain ⟨ad150, e150, hx150_0, hx150_1⟩ := at_T83 HR148_3.out x5_4 p150 q150
                 cases e150
                 replace hx150_0 := (HB.out.cell (World.block_lt_of_cell? w _ hx150_0)).trans hx150_0
                 replace hx150_1 := (HB.out.cell (World.block_lt_of_cell? w _ hx150_1)).trans hx150_1
                 replace p150 := eq_true p150
                 replace q150 := eq_true q150
                 have p151 : 0 ≤ (x5_4 : Int) := of_decide_eq_true (by first | (with_reducible assumption) | assumption)
                 have q151 : x5_4 < (((rd_T53 l0_1 x3_2).f3).length : Int) := of_decide_eq_true (by first | (with_reducible assumption) | assumption)
                 obtain ⟨ad151, e151, hx151_0, hx151_1⟩ := at_T83 HR148_3.out x5_4 p151 q151
                 obtain rfl : ad150 = ad151 := (by injection e151)
                 replace hx151_0 := (HB.out.cell (World.block_lt_of_cell? w _ hx151_0)).trans hx151_0
                 replace hx151_1 := (HB.out.cell (World.block_lt_of_cell? w _ hx151_1)).trans hx151_1
                 replace p151 := eq_true p151
                 replace q151 := eq_true q151
                 go_wp2
                 go_ret
                 exact ⟨by first | rfl | (simp [errW_none, errW_some] <;> rfl) | (simp [*, errW_none, errW_some] <;> rfl), by repeat (first | (with_reducible first | exact HB.out | apply below_alloc | apply pw_below_drewN | apply below_drew1 | refine below_set ?_ E0.out | refine below_set ?_ E1.out) | exact HB.out)⟩
                ·rw [if_neg c37] at H
                 have c37b0 : decide (16 < ((rd_T83 ((rd_T53 l0_1 x3_2).f3) x5_4).f0)) = false := decide_eq_false c37
                 clear c37
                 have H' := Aside0.mk H
                 clear H
                 have hnb40 := N1.out
                 have hnc40 := N0.out
                 have hcz41_0 : wr.cell? ⟨g0, 0, none⟩ = some (.int .i64 ((rd_T53 l0_1 x3_2).f0)) := (blk_cell K0.out 0).trans rfl
                 have hcz41_1 : wr.cell? ⟨g0, 1, none⟩ = some (.bool ((rd_T53 l0_1 x3_2).f1)) := (blk_cell K0.out 1).trans rfl
                 have hcz41_2 : wr.cell? ⟨g0, 2, none⟩ = some (.int .i64 ((rd_T53 l0_1 x3_2).f2)) := (blk_cell K0.out 2).trans rfl
                 have hcz41_3 : wr.cell? ⟨g0, 3, none⟩ = some (.slice A148_3 ((rd_T53 l0_1 x3_2).f3).length c148_3) := (blk_cell K0.out 3).trans rfl
                 have hfz41_0 := blk_frozen K0.out 0
                 have hfz41_1 := blk_frozen K0.out 1
                 have hfz41_2 := blk_frozen K0.out 2
                 have hfz41_3 := blk_frozen K0.out 3
                 have p150 : 0 ≤ (x5_4 : Int) := of_decide_eq_true (by first | (with_reducible assumption) | assumption)
                 have q150 : x5_4 < (((rd_T53 l0_1 x3_2).f3).length : Int) := of_decide_eq_true (by first | (with_reducible assumption) | assumption)
                 obtain ⟨ad150, e150, hx150_0, hx150_1⟩ := at_T83 HR148_3.out x5_4 p150 q150
                 cases e150
                 replace hx150_0 := (HB.out.cell (World.block_lt_of_cell? w _ hx150_0)).trans hx150_0
                 replace hx150_1 := (HB.out.cell (World.block_lt_of_cell? w _ hx150_1)).trans hx150_1
                 replace p150 := eq_true p150
                 replace q150 := eq_true q150
                 have p151 : 0 ≤ (x5_4 : Int) := of_decide_eq_true (by first | (with_reducible assumption) | assumption)
                 have q151 : x5_4 < (((rd_T53 l0_1 x3_2).f3).length : Int) := of_decide_eq_true (by first | (with_reducible assumption) | assumption)
                 obtain ⟨ad151, e151, hx151_0, hx151_1⟩ := at_T83 HR148_3.out x5_4 p151 q151
                 obtain rfl : ad150 = ad151 := (by injection e151)
                 replace hx151_0 := (HB.out.cell (World.block_lt_of_cell? w _ hx151_0)).trans hx151_0
                 replace hx151_1 := (HB.out.cell (World.block_lt_of_cell? w _ hx151_1)).trans hx151_1
                 replace p151 := eq_true p151
                 replace q151 := eq_true q151
                 go_wp2
                 go_roundg k4
                 case measure => have := HJ1.out; have := HK2.out; have := HJ11.out; have := HK4.out; omega
                 case rel => exact ⟨(wrap64 (x5_4 + 1)), (by first | rfl | (simp; done) | (simp [*]; done)), H', ⟨by have := HJ1.out; have := HK2.out; have := HJ11.out; have := HK4.out; omega⟩, ⟨by (with_reducible repeat (first | refine blk_drewN ?_ _ | refine blk_drew ?_ | refine blk_alloc ?_ _)); exact K1.out⟩, ⟨by (with_reducible repeat (first | refine blk_drewN ?_ _ | refine blk_drew ?_ | refine blk_alloc ?_ _)); exact K0.out⟩, ⟨by repeat (first | (with_reducible first | exact HB.out | apply below_alloc | apply pw_below_drewN | apply below_drew1 | refine below_set ?_ E0.out | refine below_set ?_ E1.out) | exact HB.out)⟩⟩
              ·rw [if_neg c33] at H
               exact absurd H (by simp)
             ·rw [if_neg c32] at H
              have c32b0 : decide (x5_4 < (((rd_T53 l0_1 x3_2).f3).length : Int)) = false := decide_eq_false c32
              clear c32
              have H' := Aside0.mk H
              clear H
              have hnb42 := N1.out
              have hnc42 := N0.out
              have hcz43_0 : wr.cell? ⟨g0, 0, none⟩ = some (.int .i64 ((rd_T53 l0_1 x3_2).f0)) := (blk_cell K0.out 0).trans rfl
              have hcz43_1 : wr.cell? ⟨g0, 1, none⟩ = some (.bool ((rd_T53 l0_1 x3_2).f1)) := (blk_cell K0.out 1).trans rfl
              have hcz43_2 : wr.cell? ⟨g0, 2, none⟩ = some (.int .i64 ((rd_T53 l0_1 x3_2).f2)) := (blk_cell K0.out 2).trans rfl
              have hcz43_3 : wr.cell? ⟨g0, 3, none⟩ = some (.slice A148_3 ((rd_T53 l0_1 x3_2).f3).length c148_3) := (blk_cell K0.out 3).trans rfl
              have hfz43_0 := blk_frozen K0.out 0
              have hfz43_1 := blk_frozen K0.out 1
              have hfz43_2 := blk_frozen K0.out 2
              have hfz43_3 := blk_frozen K0.out 3
              go_wp2
              go_roundg k4
              case measure => have := HJ1.out; have := HK2.out; have := HJ11.out; have := HK4.out; omega
              case rel => exact ⟨(wrap64 (x3_2 + 1)), (by first | rfl | (simp; done) | (simp [*]; done)), H', ⟨by have := HJ1.out; have := HK2.out; have := HJ11.out; have := HK4.out; omega⟩, ⟨by (with_reducible repeat (first | refine blk_drewN ?_ _ | refine blk_drew ?_ | refine blk_alloc ?_ _)); exact K1.out⟩, ⟨by repeat (first | (with_reducible first | exact HB.out | apply below_alloc | apply pw_below_drewN | apply below_drew1 | refine below_set ?_ E0.out | refine below_set ?_ E1.out) | exact HB.out)⟩⟩
       ·rw [if_neg c11] at H
        exact absurd H (by simp)
      ·rw [if_neg c10] at H
       have c10b0 : decide (x3_2 < (l0_1.length : Int)) = false := decide_eq_false c10
       clear c10
       obtain rfl := Option.some.inj H
       have hcz44_0 : wr.cell? ⟨g1, 0, none⟩ = some (.int .i64 a0_0) := (blk_cell K1.out 0).trans rfl
       have hcz44_1 : wr.cell? ⟨g1, 1, none⟩ = some (.slice A0_1 l0_1.length c0_1) := (blk_cell K1.out 1).trans rfl
       have hfz44_0 := blk_frozen K1.out 0
       have hfz44_1 := blk_frozen K1.out 1
       go_wp2
       go_ret
       exact ⟨by first | rfl | (simp [errW_none, errW_some] <;> rfl) | (simp [*, errW_none, errW_some] <;> rfl), by repeat (first | (with_reducible first | exact HB.out | apply below_alloc | apply pw_below_drewN | apply below_drew1 | refine below_set ?_ E0.out) | exact HB.out)⟩

end Go.Proofs.Ytlapbhgkmmeeoaa.PSpares
end
section
/- Contracts: what calls of these functions of the program do, each as a plain function; written by a program of this session. -/
namespace Go.Proofs.Ytlapbhgkmmeeoaa.PSpares
open Go.RowKit Go.Proofs.YtlapbhgkmmeeoaaW.PrintWords Go.Proofs.YtlapbhgkmmeeoaaW.PrintLast Go.Proofs.YtlapbhgkmmeeoaaW.PrintMore
attribute [local go_sem] max2_int min2_int max_two min_two max_three min_three max_four min_four   -- for this text's walks alone
set_option linter.unusedVariables false
set_option linter.unusedSimpArgs false

/-! ### wharfageref10_HealthMay: function 52 -/
def wharfageref10_HealthMay.f (a0_0 : Bool) (a0_1 : Int) : Option (Bool) := if a0_0 = true then (if a0_1 ≥ 0 then (some (decide (a0_1 < 3))) else (some false)) else (if a0_1 ≥ 0 then (some (decide (a0_1 < 3))) else (some false))
set_option maxHeartbeats 8000000 in
set_option maxRecDepth 100000 in
theorem wharfageref10_HealthMay.calls (a0_0 : Bool) (a0_1 : Int) (r : Bool) (w : World) (h : wharfageref10_HealthMay.f a0_0 a0_1 = some r) :
  Calls Try.prog 52 #[.agg #[.bool a0_0, .int .i64 a0_1]] w fun e w' => e = .returned (.bool r) ∧ Below w.heap.size w w' := by
 have hu86 := Try.underlying86
 have HB := Aside0.mk (Below.refl w.heap.size w)
 have H : (if a0_0 = true then (if a0_1 ≥ 0 then (some (decide (a0_1 < 3))) else (some false)) else (if a0_1 ≥ 0 then (some (decide (a0_1 < 3))) else (some false))) = some r := h
 clear h
 by_cases c2 : a0_0 = true
 ·subst c2
  have H1 : (if a0_1 ≥ 0 then (some (decide (a0_1 < 3))) else (some false)) = some r := by rw [if_pos rfl] at H; exact H
  clear H
  have H := H1
  clear H1
  by_cases c3 : a0_1 ≥ 0
  ·rw [if_pos c3] at H
   have c3b0 : decide (0 ≤ a0_1) = true := decide_eq_true c3
   clear c3
   obtain rfl := Option.some.inj H
   go_enter Try.func52, Try.ntmps52
   go_wp2_with (first | ((with_reducible refine gate_dst (N := 1) rfl ?_); refine box_event ?hg (N := 1) ?hd (cs := #[.bool true, .int .i64 a0_1]) (t := 86) ?hr ?_; (case hd => rfl); (case hg => rfl); (case hr => first | (go_simp; done) | (go_simp; rfl)); intro g0 hg w4 hbox hb; have n0_ := Aside0.mk (below_step (by repeat (first | (with_reducible first | exact HB.out | apply below_alloc | apply pw_below_drewN | apply below_drew1) | exact HB.out)) hb); have n1_ := Aside0.mk (hbox); have n2_ := Aside0.mk ((by rw [hg]; exact (below_size (by repeat (first | (with_reducible first | exact HB.out | apply below_alloc | apply pw_below_drewN | apply below_drew1) | exact HB.out))) : w.heap.size ≤ g0)); have n3_ := Aside0.mk ((by rw [hg]; exact (below_size (by repeat (first | (with_reducible first | exact HB.out | apply below_alloc | apply pw_below_drewN | apply below_drew1) | exact HB.out))) : w.heap.size ≤ g0)); clear HB; have HB := n0_; have K0 := n1_; have G0 := n2_; have E0 := n3_; clear n0_ n1_ n2_ n3_; clear hb hbox hg; have hcz5_0 : w4.cell? ⟨g0, 0, none⟩ = some (.bool true) := (blk_cell K0.out 0).trans rfl; have hcz5_1 : w4.cell? ⟨g0, 1, none⟩ = some (.int .i64 a0_1) := (blk_cell K0.out 1).trans rfl; have hfz5_0 := blk_frozen K0.out 0; have hfz5_1 := blk_frozen K0.out 1))
   go_ret
   exact ⟨by first | rfl | (simp [errW_none, errW_some] <;> rfl) | (simp [*, errW_none, errW_some] <;> rfl), by repeat (first | (with_reducible first | exact HB.out | apply below_alloc | apply pw_below_drewN | apply below_drew1 | refine below_set ?_ E0.out) | exact HB.out)⟩
  ·rw [if_neg c3] at H
   have c3b0 : decide (0 ≤ a0_1) = false := decide_eq_false c3
   clear c3
   obtain rfl := Option.some.inj H
   go_enter Try.func52, Try.ntmps52
   go_wp2_with (first | ((with_reducible refine gate_dst (N := 1) rfl ?_); refine box_event ?hg (N := 1) ?hd (cs := #[.bool true, .int .i64 a0_1]) (t := 86) ?hr ?_; (case hd => rfl); (case hg => rfl); (case hr => first | (go_simp; done) | (go_simp; rfl)); intro g0 hg w6 hbox hb; have n0_ := Aside0.mk (below_step (by repeat (first | (with_reducible first | exact HB.out | apply below_alloc | apply pw_below_drewN | apply below_drew1) | exact HB.out)) hb); have n1_ := Aside0.mk (hbox); have n2_ := Aside0.mk ((by rw [hg]; exact (below_size (by repeat (first | (with_reducible first | exact HB.out | apply below_alloc | apply pw_below_drewN | apply below_drew1) | exact HB.out))) : w.heap.size ≤ g0)); have n3_ := Aside0.mk ((by rw [hg]; exact (below_size (by repeat (first | (with_reducible first | exact HB.out | apply below_alloc | apply pw_below_drewN | apply below_drew1) | exact HB.out))) : w.heap.size ≤ g0)); clear HB; have HB := n0_; have K0 := n1_; have G0 := n2_; have E0 := n3_; clear n0_ n1_ n2_ n3_; clear hb hbox hg; have hcz7_0 : w6.cell? ⟨g0, 0, none⟩ = some (.bool true) := (blk_cell K0.out 0).trans rfl; have hcz7_1 : w6.cell? ⟨g0, 1, none⟩ = some (.int .i64 a0_1) := (blk_cell K0.out 1).trans rfl; have hfz7_0 := blk_frozen K0.out 0; have hfz7_1 := blk_frozen K0.out 1))
   go_ret
   exact ⟨by first | rfl | (simp [errW_none, errW_some] <;> rfl) | (simp [*, errW_none, errW_some] <;> rfl), by repeat (first | (with_reducible first | exact HB.out | apply below_alloc | apply pw_below_drewN | apply below_drew1 | refine below_set ?_ E0.out) | exact HB.out)⟩
 ·replace c2 := Bool.eq_false_iff.mpr c2
  subst c2
  have H1 : (if a0_1 ≥ 0 then (some (decide (a0_1 < 3))) else (some false)) = some r := by rw [if_neg (show ¬ (false = true) by decide)] at H; exact H
  clear H
  have H := H1
  clear H1
  by_cases c8 : a0_1 ≥ 0
  ·rw [if_pos c8] at H
   have c8b0 : decide (0 ≤ a0_1) = true := decide_eq_true c8
   clear c8
   obtain rfl := Option.some.inj H
   go_enter Try.func52, Try.ntmps52
   go_wp2_with (first | ((with_reducible refine gate_dst (N := 1) rfl ?_); refine box_event ?hg (N := 1) ?hd (cs := #[.bool false, .int .i64 a0_1]) (t := 86) ?hr ?_; (case hd => rfl); (case hg => rfl); (case hr => first | (go_simp; done) | (go_simp; rfl)); intro g0 hg w9 hbox hb; have n0_ := Aside0.mk (below_step (by repeat (first | (with_reducible first | exact HB.out | apply below_alloc | apply pw_below_drewN | apply below_drew1) | exact HB.out)) hb); have n1_ := Aside0.mk (hbox); have n2_ := Aside0.mk ((by rw [hg]; exact (below_size (by repeat (first | (with_reducible first | exact HB.out | apply below_alloc | apply pw_below_drewN | apply below_drew1) | exact HB.out))) : w.heap.size ≤ g0)); have n3_ := Aside0.mk ((by rw [hg]; exact (below_size (by repeat (first | (with_reducible first | exact HB.out | apply below_alloc | apply pw_below_drewN | apply below_drew1) | exact HB.out))) : w.heap.size ≤ g0)); clear HB; have HB := n0_; have K0 := n1_; have G0 := n2_; have E0 := n3_; clear n0_ n1_ n2_ n3_; clear hb hbox hg; have hcz10_0 : w9.cell? ⟨g0, 0, none⟩ = some (.bool false) := (blk_cell K0.out 0).trans rfl; have hcz10_1 : w9.cell? ⟨g0, 1, none⟩ = some (.int .i64 a0_1) := (blk_cell K0.out 1).trans rfl; have hfz10_0 := blk_frozen K0.out 0; have hfz10_1 := blk_frozen K0.out 1))
   go_ret
   exact ⟨by first | rfl | (simp [errW_none, errW_some] <;> rfl) | (simp [*, errW_none, errW_some] <;> rfl), by repeat (first | (with_reducible first | exact HB.out | apply below_alloc | apply pw_below_drewN | apply below_drew1 | refine below_set ?_ E0.out) | exact HB.out)⟩
  ·rw [if_neg c8] at H
   have c8b0 : decide (0 ≤ a0_1) = false := decide_eq_false c8
   clear c8
   obtain rfl := Option.some.inj H
   go_enter Try.func52, Try.ntmps52
   go_wp2_with (first | ((with_reducible refine gate_dst (N := 1) rfl ?_); refine box_event ?hg (N := 1) ?hd (cs := #[.bool false, .int .i64 a0_1]) (t := 86) ?hr ?_; (case hd => rfl); (case hg => rfl); (case hr => first | (go_simp; done) | (go_simp; rfl)); intro g0 hg w11 hbox hb; have n0_ := Aside0.mk (below_step (by repeat (first | (with_reducible first | exact HB.out | apply below_alloc | apply pw_below_drewN | apply below_drew1) | exact HB.out)) hb); have n1_ := Aside0.mk (hbox); have n2_ := Aside0.mk ((by rw [hg]; exact (below_size (by repeat (first | (with_reducible first | exact HB.out | apply below_alloc | apply pw_below_drewN | apply below_drew1) | exact HB.out))) : w.heap.size ≤ g0)); have n3_ := Aside0.mk ((by rw [hg]; exact (below_size (by repeat (first | (with_reducible first | exact HB.out | apply below_alloc | apply pw_below_drewN | apply below_drew1) | exact HB.out))) : w.heap.size ≤ g0)); clear HB; have HB := n0_; have K0 := n1_; have G0 := n2_; have E0 := n3_; clear n0_ n1_ n2_ n3_; clear hb hbox hg; have hcz12_0 : w11.cell? ⟨g0, 0, none⟩ = some (.bool false) := (blk_cell K0.out 0).trans rfl; have hcz12_1 : w11.cell? ⟨g0, 1, none⟩ = some (.int .i64 a0_1) := (blk_cell K0.out 1).trans rfl; have hfz12_0 := blk_frozen K0.out 0; have hfz12_1 := blk_frozen K0.out 1))
   go_ret
   exact ⟨by first | rfl | (simp [errW_none, errW_some] <;> rfl) | (simp [*, errW_none, errW_some] <;> rfl), by repeat (first | (with_reducible first | exact HB.out | apply below_alloc | apply pw_below_drewN | apply below_drew1 | refine below_set ?_ E0.out) | exact HB.out)⟩

end Go.Proofs.Ytlapbhgkmmeeoaa.PSpares
end
section
/- Contracts: what calls of these functions of the program do, each as a plain function; written by a program of this session. -/
namespace Go.Proofs.Ytlapbhgkmmeeoaa.PSpares
open Go.RowKit Go.Proofs.YtlapbhgkmmeeoaaW.PrintWords Go.Proofs.YtlapbhgkmmeeoaaW.PrintLast Go.Proofs.YtlapbhgkmmeeoaaW.PrintMore
attribute [local go_sem] max2_int min2_int max_two min_two max_three min_three max_four min_four   -- for this text's walks alone
set_option linter.unusedVariables false
set_option linter.unusedSimpArgs false

/-! ### wharfageref10_healthsMay: function 40 -/
def wharfageref10_healthsMay.l0 : Nat → List (S86) → Int → Int → Option (Bool)
 | 0, _, _, _ => none
 | k + 1, x0, x1, x5 => if x5 < (x0.length : Int) then (if 0 ≤ x5 then ((wharfageref10_HealthMay.f ((rd_T86 x0 x5).f0) ((rd_T86 x0 x5).f1)).bind fun t154 => (if t154 = true then (wharfageref10_healthsMay.l0 k x0 x1 (wrap64 (x5 + 1))) else (some false))) else (none)) else (some ((x0.length : Int) == x1))
def wharfageref10_healthsMay.f (k : Nat) (l0 : List (S86)) (a1 : Int) : Option (Bool) := wharfageref10_healthsMay.l0 k l0 a1 0
theorem wharfageref10_healthsMay.mono_l : ∀ k, (∀ y0 y1 y2, LeO (wharfageref10_healthsMay.l0 k y0 y1 y2) (wharfageref10_healthsMay.l0 (k + 1) y0 y1 y2))
 | 0 => fun _ _ _ r h => by simp [wharfageref10_healthsMay.l0] at h
 | k + 1 => by
  have ih0 := wharfageref10_healthsMay.mono_l k
  ·intro y0 y1 y2
   unfold wharfageref10_healthsMay.l0
   repeat' first
   | (with_reducible exact ih0 _ _ _)
   | (with_reducible exact LeO.refl _)
   | (with_reducible exact LeO.none _)
   | (with_reducible refine LeO.ite ?_ ?_)
   | (with_reducible refine LeO.bind ?_ (fun _ => ?_))
   | exact ih0 _ _ _
   | exact LeO.none _
   | refine LeO.ite ?_ ?_
   | refine LeO.bind ?_ (fun _ => ?_)
theorem wharfageref10_healthsMay.mono : ∀ a0 a1 k, LeO (wharfageref10_healthsMay.f k a0 a1) (wharfageref10_healthsMay.f (k + 1) a0 a1) := by
 intro a0 a1 k
 have ih0 := wharfageref10_healthsMay.mono_l k
 unfold wharfageref10_healthsMay.f
 repeat' first
   | (with_reducible exact ih0 _ _ _)
   | (with_reducible exact LeO.refl _)
   | (with_reducible exact LeO.none _)
   | (with_reducible refine LeO.ite ?_ ?_)
   | (with_reducible refine LeO.bind ?_ (fun _ => ?_))
   | exact ih0 _ _ _
   | exact LeO.none _
   | refine LeO.ite ?_ ?_
   | refine LeO.bind ?_ (fun _ => ?_)
set_option maxHeartbeats 8000000 in
set_option maxRecDepth 100000 in
theorem wharfageref10_healthsMay.calls (k : Nat) (A0 : Option Addr) (c0 : Nat) (l0 : List (S86)) (a1 : Int) (r : Bool) (w : World) (hr0 : Kd.C k86 w A0 l0.length l0) (hc0 : l0.length ≤ c0) (h : wharfageref10_healthsMay.f k l0 a1 = some r) :
  Calls Try.prog 40 #[.slice A0 l0.length c0, .int .i64 a1] w fun e w' => e = .returned (.bool r) ∧ Below w.heap.size w w' := by
 have hu86 := Try.underlying86
 have HR0 := Aside0.mk hr0
 have HC0 := Aside0.mk hc0
 clear hr0 hc0
 have HB := Aside0.mk (Below.refl w.heap.size w)
 have H : (wharfageref10_healthsMay.l0 k l0 a1 0) = some r := h
 clear h
 have H' := Aside0.mk H
 clear H
 go_enter Try.func40, Try.ntmps40
 go_wp2
 go_loopg [5] k (fun kq v5 w' => ∃ (x5_1 : Int), v5 = .int .i64 x5_1 ∧ Aside0 (wharfageref10_healthsMay.l0 kq l0 a1 x5_1 = some r) ∧ Aside0 (kq ≤ k) ∧ Aside0 (Below w.heap.size w w'))
 case atStart => exact ⟨(0), (by first | rfl | (simp; done) | (simp [*]; done)), H', ⟨Nat.le_refl _⟩, ⟨by repeat (first | (with_reducible first | exact HB.out | apply below_alloc | apply pw_below_drewN | apply below_drew1) | exact HB.out)⟩⟩
 case round =>
  clear H'
  try clear p2
  obtain ⟨x5_1, rfl, HA, HK1, HB⟩ := hrel
  cases gk with
  | zero => exact absurd HA.out (by simp [wharfageref10_healthsMay.l0])
  | succ k1 =>
   have H := HA.out
   clear HA
   simp only [wharfageref10_healthsMay.l0] at H
   by_cases c3 : x5_1 < (l0.length : Int)
   ·rw [if_pos c3] at H
    have c3b0 : decide (x5_1 < (l0.length : Int)) = true := decide_eq_true c3
    clear c3
    by_cases c4 : 0 ≤ x5_1
    ·rw [if_pos c4] at H
     have c4b0 : decide (0 ≤ x5_1) = true := decide_eq_true c4
     clear c4
     replace H := Option.bind_eq_some_iff.mp H
     obtain ⟨t154, A50, H⟩ := H
     replace H : (if t154 = true then (wharfageref10_healthsMay.l0 k1 l0 a1 (wrap64 (x5_1 + 1))) else (some false)) = some r := H
     have A5 := Aside0.mk A50
     clear A50
     by_cases c6 : t154 = true
     ·subst c6
      have H1 : (wharfageref10_healthsMay.l0 k1 l0 a1 (wrap64 (x5_1 + 1))) = some r := by rw [if_pos rfl] at H; exact H
      clear H
      have H := H1
      clear H1
      have H' := Aside0.mk H
      clear H
      have p153 : 0 ≤ (x5_1 : Int) := of_decide_eq_true (by first | (with_reducible assumption) | assumption)
      have q153 : x5_1 < (l0.length : Int) := of_decide_eq_true (by first | (with_reducible assumption) | assumption)
      obtain ⟨ad153, e153, hx153_0, hx153_1⟩ := at_T86 HR0.out x5_1 p153 q153
      cases e153
      replace hx153_0 := (HB.out.cell (World.block_lt_of_cell? w _ hx153_0)).trans hx153_0
      replace hx153_1 := (HB.out.cell (World.block_lt_of_cell? w _ hx153_1)).trans hx153_1
      replace p153 := eq_true p153
      replace q153 := eq_true q153
      go_wp2_with (first | ((with_reducible refine gate_callee (f := 52) rfl ?_); refine goesL_ (some 16) rfl rfl Try.func52 (by kernel_rfl) rfl #[.agg #[.bool ((rd_T86 l0 x5_1).f0), .int .i64 ((rd_T86 l0 x5_1).f1)]] rfl (by (try simp only [List.map_toArray, List.map_cons, List.map_nil]); first | done | rfl | (simp only [List.length_drop, List.length_take]; rfl)) ?_; (with_reducible refine (wharfageref10_HealthMay.calls ((rd_T86 l0 x5_1).f0) ((rd_T86 l0 x5_1).f1) true _ A5.out).mono ?_); rintro e w7 ⟨rfl, hb⟩; refine ⟨_, rfl, ?_⟩; have n0_ := Aside0.mk (below_step (by repeat (first | (with_reducible first | exact HB.out | apply below_alloc | apply pw_below_drewN | apply below_drew1) | exact HB.out)) hb); clear HB; have HB := n0_; clear n0_; (try clear hb); (try clear hb2); (try clear hk); (try clear hi)))
      go_roundg k1
      case measure => have := HK1.out; omega
      case rel => exact ⟨(wrap64 (x5_1 + 1)), (by first | rfl | (simp; done) | (simp [*]; done)), H', ⟨by have := HK1.out; omega⟩, ⟨by repeat (first | (with_reducible first | exact HB.out | apply below_alloc | apply pw_below_drewN | apply below_drew1) | exact HB.out)⟩⟩
     ·replace c6 := Bool.eq_false_iff.mpr c6
      subst c6
      have H1 : (some false) = some r := by rw [if_neg (show ¬ (false = true) by decide)] at H; exact H
      clear H
      have H := H1
      clear H1
      obtain rfl := Option.some.inj H
      have p153 : 0 ≤ (x5_1 : Int) := of_decide_eq_true (by first | (with_reducible assumption) | assumption)
      have q153 : x5_1 < (l0.length : Int) := of_decide_eq_true (by first | (with_reducible assumption) | assumption)
      obtain ⟨ad153, e153, hx153_0, hx153_1⟩ := at_T86 HR0.out x5_1 p153 q153
      cases e153
      replace hx153_0 := (HB.out.cell (World.block_lt_of_cell? w _ hx153_0)).trans hx153_0
      replace hx153_1 := (HB.out.cell (World.block_lt_of_cell? w _ hx153_1)).trans hx153_1
      replace p153 := eq_true p153
      replace q153 := eq_true q153
      go_wp2_with (first | ((with_reducible refine gate_callee (f := 52) rfl ?_); refine goesL_ (some 16) rfl rfl Try.func52 (by kernel_rfl) rfl #[.agg #[.bool ((rd_T86 l0 x5_1).f0), .int .i64 ((rd_T86 l0 x5_1).f1)]] rfl (by (try simp only [List.map_toArray, List.map_cons, List.map_nil]); first | done | rfl | (simp only [List.length_drop, List.length_take]; rfl)) ?_; (with_reducible refine (wharfageref10_HealthMay.calls ((rd_T86 l0 x5_1).f0) ((rd_T86 l0 x5_1).f1) false _ A5.out).mono ?_); rintro e w8 ⟨rfl, hb⟩; refine ⟨_, rfl, ?_⟩; have n0_ := Aside0.mk (below_step (by repeat (first | (with_reducible first | exact HB.out | apply below_alloc | apply pw_below_drewN | apply below_drew1) | exact HB.out)) hb); clear HB; have HB := n0_; clear n0_; (try clear hb); (try clear hb2); (try clear hk); (try clear hi)))
      go_ret
      exact ⟨by first | rfl | (simp [errW_none, errW_some] <;> rfl) | (simp [*, errW_none, errW_some] <;> rfl), by repeat (first | (with_reducible first | exact HB.out | apply below_alloc | apply pw_below_drewN | apply below_drew1) | exact HB.out)⟩
    ·rw [if_neg c4] at H
     exact absurd H (by simp)
   ·rw [if_neg c3] at H
    have c3b0 : decide (x5_1 < (l0.length : Int)) = false := decide_eq_false c3
    clear c3
    obtain rfl := Option.some.inj H
    go_wp2
    go_ret
    exact ⟨by first | rfl | (simp [errW_none, errW_some] <;> rfl) | (simp [*, errW_none, errW_some] <;> rfl), by repeat (first | (with_reducible first | exact HB.out | apply below_alloc | apply pw_below_drewN | apply below_drew1) | exact HB.out)⟩

end Go.Proofs.Ytlapbhgkmmeeoaa.PSpares
end
