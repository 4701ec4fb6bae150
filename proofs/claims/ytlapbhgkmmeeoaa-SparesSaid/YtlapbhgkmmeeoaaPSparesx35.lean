/- Several texts of this proof in one file (put together by a program of this session). -/
import Derived.Test.YtlapbhgkmmeeoaaPSparesx17
import Derived.Test.YtlapbhgkmmeeoaaPSparesx28
section
/- Contracts: what calls of these functions of the program do, each as a plain function; written by a program of this session. -/
namespace Go.Proofs.Ytlapbhgkmmeeoaa.PSpares
open Go.RowKit Go.Proofs.YtlapbhgkmmeeoaaW.PrintWords Go.Proofs.YtlapbhgkmmeeoaaW.PrintLast Go.Proofs.YtlapbhgkmmeeoaaW.PrintMore
attribute [local go_sem] max2_int min2_int max_two min_two max_three min_three max_four min_four   -- for this text's walks alone
set_option linter.unusedVariables false
set_option linter.unusedSimpArgs false

/-! ### wharfageref1_within: function 62 -/
def wharfageref1_within.f (a0 : Int) (a1 : Int) : Option (Bool) := if a0 ≥ 0 then (if 0 ≤ a1 then (some (decide (a0 < (shl .i64 1 a1)))) else (none)) else (some false)
set_option maxHeartbeats 8000000 in
set_option maxRecDepth 100000 in
theorem wharfageref1_within.calls (a0 : Int) (a1 : Int) (r : Bool) (w : World) (h : wharfageref1_within.f a0 a1 = some r) :
  Calls Try.prog 62 #[.int .i64 a0, .int .i64 a1] w fun e w' => e = .returned (.bool r) ∧ Drawn0 w w' := by
 have H : (if a0 ≥ 0 then (if 0 ≤ a1 then (some (decide (a0 < (shl .i64 1 a1)))) else (none)) else (some false)) = some r := h
 clear h
 by_cases c3 : a0 ≥ 0
 ·rw [if_pos c3] at H
  have c3b0 : decide (0 ≤ a0) = true := decide_eq_true c3
  clear c3
  by_cases c4 : 0 ≤ a1
  ·rw [if_pos c4] at H
   have c4b0 := eq_true c4
   have c4b1 : decide (0 ≤ a1) = true := decide_eq_true c4
   clear c4
   obtain ⟨ji5, hji5⟩ : ∃ j_ : Int, (shl .i64 1 a1) = j_ := ⟨_, rfl⟩
   replace H : (some (decide (a0 < (ji5)))) = some r := by first | (rw [hji5] at H; exact H) | (simp only [hji5] at H ⊢; exact H)
   have hji5_ : (IntKind.i64.wrap (1 * 2 ^ min a1.toNat 64)) = ji5 := hji5
   have hji5z : a1 ≤ 64 → (IntKind.i64.wrap (1 * 2 ^ a1.toNat)) = ji5 := shl_small hji5
   have hji5u : (IntKind.i64.wrap (2 ^ min a1.toNat 64)) = ji5 := by have h_ := hji5_; rw [Int.one_mul] at h_; exact h_
   have hji5v : a1 ≤ 64 → (IntKind.i64.wrap (2 ^ a1.toNat)) = ji5 := fun hle_ => by have h_ := hji5z hle_; rw [Int.one_mul] at h_; exact h_
   have hji5y : (wrap64 (1 * 2 ^ min a1.toNat 64)) = ji5 := (i64_w _).symm.trans hji5_
   have hji5x : a1 ≤ 64 → (wrap64 (1 * 2 ^ a1.toNat)) = ji5 := fun h_ => (i64_w _).symm.trans (hji5z h_)
   obtain rfl := Option.some.inj H
   go_enter Try.func62, Try.ntmps62
   go_wp2
   go_ret
   exact ⟨by first | rfl | (simp; done) | (simp only [← hji5] <;> (first | rfl | simp)) | (simp [*]; done), by repeat (first | exact Drawn0.refl _ | apply Drawn0.step)⟩
  ·rw [if_neg c4] at H
   exact absurd H (by simp)
 ·rw [if_neg c3] at H
  have c3b0 : decide (0 ≤ a0) = false := decide_eq_false c3
  clear c3
  obtain rfl := Option.some.inj H
  go_enter Try.func62, Try.ntmps62
  go_wp2
  go_ret
  exact ⟨by first | rfl | (simp; done) | (simp [*]; done), by repeat (first | exact Drawn0.refl _ | apply Drawn0.step)⟩

/-! ### wharfageref1_ReportMay: function 53 -/
def wharfageref1_ReportMay.f (a0_0 : Int) (a0_1 : Int) (a0_2 : Int) (a0_3 : Int) : Option (Bool) := if a0_0 ≥ 0 then (if a0_0 < 3 then (if a0_1 ≥ 0 then (if a0_1 < 65536 then ((wharfageref1_within.f a0_2 8).bind fun t156 => (if t156 = true then ((wharfageref1_within.f a0_3 8).bind fun t157 => (some t157)) else (some false))) else (some false)) else (some false)) else (some false)) else (some false)
set_option maxHeartbeats 8000000 in
set_option maxRecDepth 100000 in
theorem wharfageref1_ReportMay.calls (a0_0 : Int) (a0_1 : Int) (a0_2 : Int) (a0_3 : Int) (r : Bool) (w : World) (h : wharfageref1_ReportMay.f a0_0 a0_1 a0_2 a0_3 = some r) :
  Calls Try.prog 53 #[.agg #[.int .i64 a0_0, .int .i64 a0_1, .int .i64 a0_2, .int .i64 a0_3]] w fun e w' => e = .returned (.bool r) ∧ Below w.heap.size w w' := by
 have hu89 := Try.underlying89
 have HB := Aside0.mk (Below.refl w.heap.size w)
 have H : (if a0_0 ≥ 0 then (if a0_0 < 3 then (if a0_1 ≥ 0 then (if a0_1 < 65536 then ((wharfageref1_within.f a0_2 8).bind fun t156 => (if t156 = true then ((wharfageref1_within.f a0_3 8).bind fun t157 => (some t157)) else (some false))) else (some false)) else (some false)) else (some false)) else (some false)) = some r := h
 clear h
 by_cases c2 : a0_0 ≥ 0
 ·rw [if_pos c2] at H
  have c2b0 : decide (0 ≤ a0_0) = true := decide_eq_true c2
  clear c2
  by_cases c3 : a0_0 < 3
  ·rw [if_pos c3] at H
   have c3b0 : decide (a0_0 < 3) = true := decide_eq_true c3
   clear c3
   by_cases c4 : a0_1 ≥ 0
   ·rw [if_pos c4] at H
    have c4b0 : decide (0 ≤ a0_1) = true := decide_eq_true c4
    clear c4
    by_cases c5 : a0_1 < 65536
    ·rw [if_pos c5] at H
     have c5b0 : decide (a0_1 < 65536) = true := decide_eq_true c5
     clear c5
     replace H := Option.bind_eq_some_iff.mp H
     obtain ⟨t156, A60, H⟩ := H
     replace H : (if t156 = true then ((wharfageref1_within.f a0_3 8).bind fun t157 => (some t157)) else (some false)) = some r := H
     have A6 := Aside0.mk A60
     clear A60
     by_cases c7 : t156 = true
     ·subst c7
      have H1 : ((wharfageref1_within.f a0_3 8).bind fun t157 => (some t157)) = some r := by rw [if_pos rfl] at H; exact H
      clear H
      have H := H1
      clear H1
      replace H := Option.bind_eq_some_iff.mp H
      obtain ⟨t157, A80, H⟩ := H
      replace H : (some t157) = some r := H
      have A8 := Aside0.mk A80
      clear A80
      obtain rfl := Option.some.inj H
      go_enter Try.func53, Try.ntmps53
      go_wp2_with (first | ((with_reducible refine gate_dst (N := 1) rfl ?_); refine box_event ?hg (N := 1) ?hd (cs := #[.int .i64 a0_0, .int .i64 a0_1, .int .i64 a0_2, .int .i64 a0_3]) (t := 89) ?hr ?_; (case hd => rfl); (case hg => rfl); (case hr => first | (go_simp; done) | (go_simp; rfl)); intro g0 hg w9 hbox hb; have n0_ := Aside0.mk (below_step (by repeat (first | (with_reducible first | exact HB.out | apply below_alloc | apply pw_below_drewN | apply below_drew1) | exact HB.out)) hb); have n1_ := Aside0.mk (hbox); have n2_ := Aside0.mk ((by rw [hg]; exact (below_size (by repeat (first | (with_reducible first | exact HB.out | apply below_alloc | apply pw_below_drewN | apply below_drew1) | exact HB.out))) : w.heap.size ≤ g0)); have n3_ := Aside0.mk ((by rw [hg]; exact (below_size (by repeat (first | (with_reducible first | exact HB.out | apply below_alloc | apply pw_below_drewN | apply below_drew1) | exact HB.out))) : w.heap.size ≤ g0)); clear HB; have HB := n0_; have K0 := n1_; have G0 := n2_; have E0 := n3_; clear n0_ n1_ n2_ n3_; clear hb hbox hg; have hcz10_0 : w9.cell? ⟨g0, 0, none⟩ = some (.int .i64 a0_0) := (blk_cell K0.out 0).trans rfl; have hcz10_1 : w9.cell? ⟨g0, 1, none⟩ = some (.int .i64 a0_1) := (blk_cell K0.out 1).trans rfl; have hcz10_2 : w9.cell? ⟨g0, 2, none⟩ = some (.int .i64 a0_2) := (blk_cell K0.out 2).trans rfl; have hcz10_3 : w9.cell? ⟨g0, 3, none⟩ = some (.int .i64 a0_3) := (blk_cell K0.out 3).trans rfl; have hfz10_0 := blk_frozen K0.out 0; have hfz10_1 := blk_frozen K0.out 1; have hfz10_2 := blk_frozen K0.out 2; have hfz10_3 := blk_frozen K0.out 3) | (go_at_call 62; (with_reducible refine (wharfageref1_within.calls a0_2 8 true _ A6.out).mono ?_); rintro e w' ⟨rfl, ⟨nd, rfl⟩⟩) | (go_at_call 62; (with_reducible refine (wharfageref1_within.calls a0_3 8 t157 _ A8.out).mono ?_); rintro e w' ⟨rfl, ⟨nd, rfl⟩⟩))
      go_ret
      exact ⟨by first | rfl | (simp [errW_none, errW_some] <;> rfl) | (simp [*, errW_none, errW_some] <;> rfl), by repeat (first | (with_reducible first | exact HB.out | apply below_alloc | apply pw_below_drewN | apply below_drew1 | refine below_set ?_ E0.out) | exact HB.out)⟩
     ·replace c7 := Bool.eq_false_iff.mpr c7
      subst c7
      have H1 : (some false) = some r := by rw [if_neg (show ¬ (false = true) by decide)] at H; exact H
      clear H
      have H := H1
      clear H1
      obtain rfl := Option.some.inj H
      go_enter Try.func53, Try.ntmps53
      go_wp2_with (first | ((with_reducible refine gate_dst (N := 1) rfl ?_); refine box_event ?hg (N := 1) ?hd (cs := #[.int .i64 a0_0, .int .i64 a0_1, .int .i64 a0_2, .int .i64 a0_3]) (t := 89) ?hr ?_; (case hd => rfl); (case hg => rfl); (case hr => first | (go_simp; done) | (go_simp; rfl)); intro g0 hg w11 hbox hb; have n0_ := Aside0.mk (below_step (by repeat (first | (with_reducible first | exact HB.out | apply below_alloc | apply pw_below_drewN | apply below_drew1) | exact HB.out)) hb); have n1_ := Aside0.mk (hbox); have n2_ := Aside0.mk ((by rw [hg]; exact (below_size (by repeat (first | (with_reducible first | exact HB.out | apply below_alloc | apply pw_below_drewN | apply below_drew1) | exact HB.out))) : w.heap.size ≤ g0)); have n3_ := Aside0.mk ((by rw [hg]; exact (below_size (by repeat (first | (with_reducible first | exact HB.out | apply below_alloc | apply pw_below_drewN | apply below_drew1) | exact HB.out))) : w.heap.size ≤ g0)); clear HB; have HB := n0_; have K0 := n1_; have G0 := n2_; have E0 := n3_; clear n0_ n1_ n2_ n3_; clear hb hbox hg; have hcz12_0 : w11.cell? ⟨g0, 0, none⟩ = some (.int .i64 a0_0) := (blk_cell K0.out 0).trans rfl; have hcz12_1 : w11.cell? ⟨g0, 1, none⟩ = some (.int .i64 a0_1) := (blk_cell K0.out 1).trans rfl; have hcz12_2 : w11.cell? ⟨g0, 2, none⟩ = some (.int .i64 a0_2) := (blk_cell K0.out 2).trans rfl; have hcz12_3 : w11.cell? ⟨g0, 3, none⟩ = some (.int .i64 a0_3) := (blk_cell K0.out 3).trans rfl; have hfz12_0 := blk_frozen K0.out 0; have hfz12_1 := blk_frozen K0.out 1; have hfz12_2 := blk_frozen K0.out 2; have hfz12_3 := blk_frozen K0.out 3) | (go_at_call 62; (with_reducible refine (wharfageref1_within.calls a0_2 8 false _ A6.out).mono ?_); rintro e w' ⟨rfl, ⟨nd, rfl⟩⟩))
      go_ret
      exact ⟨by first | rfl | (simp [errW_none, errW_some] <;> rfl) | (simp [*, errW_none, errW_some] <;> rfl), by repeat (first | (with_reducible first | exact HB.out | apply below_alloc | apply pw_below_drewN | apply below_drew1 | refine below_set ?_ E0.out) | exact HB.out)⟩
    ·rw [if_neg c5] at H
     have c5b0 : decide (a0_1 < 65536) = false := decide_eq_false c5
     clear c5
     obtain rfl := Option.some.inj H
     go_enter Try.func53, Try.ntmps53
     go_wp2_with (first | ((with_reducible refine gate_dst (N := 1) rfl ?_); refine box_event ?hg (N := 1) ?hd (cs := #[.int .i64 a0_0, .int .i64 a0_1, .int .i64 a0_2, .int .i64 a0_3]) (t := 89) ?hr ?_; (case hd => rfl); (case hg => rfl); (case hr => first | (go_simp; done) | (go_simp; rfl)); intro g0 hg w13 hbox hb; have n0_ := Aside0.mk (below_step (by repeat (first | (with_reducible first | exact HB.out | apply below_alloc | apply pw_below_drewN | apply below_drew1) | exact HB.out)) hb); have n1_ := Aside0.mk (hbox); have n2_ := Aside0.mk ((by rw [hg]; exact (below_size (by repeat (first | (with_reducible first | exact HB.out | apply below_alloc | apply pw_below_drewN | apply below_drew1) | exact HB.out))) : w.heap.size ≤ g0)); have n3_ := Aside0.mk ((by rw [hg]; exact (below_size (by repeat (first | (with_reducible first | exact HB.out | apply below_alloc | apply pw_below_drewN | apply below_drew1) | exact HB.out))) : w.heap.size ≤ g0)); clear HB; have HB := n0_; have K0 := n1_; have G0 := n2_; have E0 := n3_; clear n0_ n1_ n2_ n3_; clear hb hbox hg; have hcz14_0 : w13.cell? ⟨g0, 0, none⟩ = some (.int .i64 a0_0) := (blk_cell K0.out 0).trans rfl; have hcz14_1 : w13.cell? ⟨g0, 1, none⟩ = some (.int .i64 a0_1) := (blk_cell K0.out 1).trans rfl; have hcz14_2 : w13.cell? ⟨g0, 2, none⟩ = some (.int .i64 a0_2) := (blk_cell K0.out 2).trans rfl; have hcz14_3 : w13.cell? ⟨g0, 3, none⟩ = some (.int .i64 a0_3) := (blk_cell K0.out 3).trans rfl; have hfz14_0 := blk_frozen K0.out 0; have hfz14_1 := blk_frozen K0.out 1; have hfz14_2 := blk_frozen K0.out 2; have hfz14_3 := blk_frozen K0.out 3))
     go_ret
     exact ⟨by first | rfl | (simp [errW_none, errW_some] <;> rfl) | (simp [*, errW_none, errW_some] <;> rfl), by repeat (first | (with_reducible first | exact HB.out | apply below_alloc | apply pw_below_drewN | apply below_drew1 | refine below_set ?_ E0.out) | exact HB.out)⟩
   ·rw [if_neg c4] at H
    have c4b0 : decide (0 ≤ a0_1) = false := decide_eq_false c4
    clear c4
    obtain rfl := Option.some.inj H
    go_enter Try.func53, Try.ntmps53
    go_wp2_with (first | ((with_reducible refine gate_dst (N := 1) rfl ?_); refine box_event ?hg (N := 1) ?hd (cs := #[.int .i64 a0_0, .int .i64 a0_1, .int .i64 a0_2, .int .i64 a0_3]) (t := 89) ?hr ?_; (case hd => rfl); (case hg => rfl); (case hr => first | (go_simp; done) | (go_simp; rfl)); intro g0 hg w15 hbox hb; have n0_ := Aside0.mk (below_step (by repeat (first | (with_reducible first | exact HB.out | apply below_alloc | apply pw_below_drewN | apply below_drew1) | exact HB.out)) hb); have n1_ := Aside0.mk (hbox); have n2_ := Aside0.mk ((by rw [hg]; exact (below_size (by repeat (first | (with_reducible first | exact HB.out | apply below_alloc | apply pw_below_drewN | apply below_drew1) | exact HB.out))) : w.heap.size ≤ g0)); have n3_ := Aside0.mk ((by rw [hg]; exact (below_size (by repeat (first | (with_reducible first | exact HB.out | apply below_alloc | apply pw_below_drewN | apply below_drew1) | exact HB.out))) : w.heap.size ≤ g0)); clear HB; have HB := n0_; have K0 := n1_; have G0 := n2_; have E0 := n3_; clear n0_ n1_ n2_ n3_; clear hb hbox hg; have hcz16_0 : w15.cell? ⟨g0, 0, none⟩ = some (.int .i64 a0_0) := (blk_cell K0.out 0).trans rfl; have hcz16_1 : w15.cell? ⟨g0, 1, none⟩ = some (.int .i64 a0_1) := (blk_cell K0.out 1).trans rfl; have hcz16_2 : w15.cell? ⟨g0, 2, none⟩ = some (.int .i64 a0_2) := (blk_cell K0.out 2).trans rfl; have hcz16_3 : w15.cell? ⟨g0, 3, none⟩ = some (.int .i64 a0_3) := (blk_cell K0.out 3).trans rfl; have hfz16_0 := blk_frozen K0.out 0; have hfz16_1 := blk_frozen K0.out 1; have hfz16_2 := blk_frozen K0.out 2; have hfz16_3 := blk_frozen K0.out 3))
    go_ret
    exact ⟨by first | rfl | (simp [errW_none, errW_some] <;> rfl) | (simp [*, errW_none, errW_some] <;> rfl), by repeat (first | (with_reducible first | exact HB.out | apply below_alloc | apply pw_below_drewN | apply below_drew1 | refine below_set ?_ E0.out) | exact HB.out)⟩
  ·rw [if_neg c3] at H
   have c3b0 : decide (a0_0 < 3) = false := decide_eq_false c3
   clear c3
   obtain rfl := Option.some.inj H
   go_enter Try.func53, Try.ntmps53
   go_wp2_with (first | ((with_reducible refine gate_dst (N := 1) rfl ?_); refine box_event ?hg (N := 1) ?hd (cs := #[.int .i64 a0_0, .int .i64 a0_1, .int .i64 a0_2, .int .i64 a0_3]) (t := 89) ?hr ?_; (case hd => rfl); (case hg => rfl); (case hr => first | (go_simp; done) | (go_simp; rfl)); intro g0 hg w17 hbox hb; have n0_ := Aside0.mk (below_step (by repeat (first | (with_reducible first | exact HB.out | apply below_alloc | apply pw_below_drewN | apply below_drew1) | exact HB.out)) hb); have n1_ := Aside0.mk (hbox); have n2_ := Aside0.mk ((by rw [hg]; exact (below_size (by repeat (first | (with_reducible first | exact HB.out | apply below_alloc | apply pw_below_drewN | apply below_drew1) | exact HB.out))) : w.heap.size ≤ g0)); have n3_ := Aside0.mk ((by rw [hg]; exact (below_size (by repeat (first | (with_reducible first | exact HB.out | apply below_alloc | apply pw_below_drewN | apply below_drew1) | exact HB.out))) : w.heap.size ≤ g0)); clear HB; have HB := n0_; have K0 := n1_; have G0 := n2_; have E0 := n3_; clear n0_ n1_ n2_ n3_; clear hb hbox hg; have hcz18_0 : w17.cell? ⟨g0, 0, none⟩ = some (.int .i64 a0_0) := (blk_cell K0.out 0).trans rfl; have hcz18_1 : w17.cell? ⟨g0, 1, none⟩ = some (.int .i64 a0_1) := (blk_cell K0.out 1).trans rfl; have hcz18_2 : w17.cell? ⟨g0, 2, none⟩ = some (.int .i64 a0_2) := (blk_cell K0.out 2).trans rfl; have hcz18_3 : w17.cell? ⟨g0, 3, none⟩ = some (.int .i64 a0_3) := (blk_cell K0.out 3).trans rfl; have hfz18_0 := blk_frozen K0.out 0; have hfz18_1 := blk_frozen K0.out 1; have hfz18_2 := blk_frozen K0.out 2; have hfz18_3 := blk_frozen K0.out 3))
   go_ret
   exact ⟨by first | rfl | (simp [errW_none, errW_some] <;> rfl) | (simp [*, errW_none, errW_some] <;> rfl), by repeat (first | (with_reducible first | exact HB.out | apply below_alloc | apply pw_below_drewN | apply below_drew1 | refine below_set ?_ E0.out) | exact HB.out)⟩
 ·rw [if_neg c2] at H
  have c2b0 : decide (0 ≤ a0_0) = false := decide_eq_false c2
  clear c2
  obtain rfl := Option.some.inj H
  go_enter Try.func53, Try.ntmps53
  go_wp2_with (first | ((with_reducible refine gate_dst (N := 1) rfl ?_); refine box_event ?hg (N := 1) ?hd (cs := #[.int .i64 a0_0, .int .i64 a0_1, .int .i64 a0_2, .int .i64 a0_3]) (t := 89) ?hr ?_; (case hd => rfl); (case hg => rfl); (case hr => first | (go_simp; done) | (go_simp; rfl)); intro g0 hg w19 hbox hb; have n0_ := Aside0.mk (below_step (by repeat (first | (with_reducible first | exact HB.out | apply below_alloc | apply pw_below_drewN | apply below_drew1) | exact HB.out)) hb); have n1_ := Aside0.mk (hbox); have n2_ := Aside0.mk ((by rw [hg]; exact (below_size (by repeat (first | (with_reducible first | exact HB.out | apply below_alloc | apply pw_below_drewN | apply below_drew1) | exact HB.out))) : w.heap.size ≤ g0)); have n3_ := Aside0.mk ((by rw [hg]; exact (below_size (by repeat (first | (with_reducible first | exact HB.out | apply below_alloc | apply pw_below_drewN | apply below_drew1) | exact HB.out))) : w.heap.size ≤ g0)); clear HB; have HB := n0_; have K0 := n1_; have G0 := n2_; have E0 := n3_; clear n0_ n1_ n2_ n3_; clear hb hbox hg; have hcz20_0 : w19.cell? ⟨g0, 0, none⟩ = some (.int .i64 a0_0) := (blk_cell K0.out 0).trans rfl; have hcz20_1 : w19.cell? ⟨g0, 1, none⟩ = some (.int .i64 a0_1) := (blk_cell K0.out 1).trans rfl; have hcz20_2 : w19.cell? ⟨g0, 2, none⟩ = some (.int .i64 a0_2) := (blk_cell K0.out 2).trans rfl; have hcz20_3 : w19.cell? ⟨g0, 3, none⟩ = some (.int .i64 a0_3) := (blk_cell K0.out 3).trans rfl; have hfz20_0 := blk_frozen K0.out 0; have hfz20_1 := blk_frozen K0.out 1; have hfz20_2 := blk_frozen K0.out 2; have hfz20_3 := blk_frozen K0.out 3))
  go_ret
  exact ⟨by first | rfl | (simp [errW_none, errW_some] <;> rfl) | (simp [*, errW_none, errW_some] <;> rfl), by repeat (first | (with_reducible first | exact HB.out | apply below_alloc | apply pw_below_drewN | apply below_drew1 | refine below_set ?_ E0.out) | exact HB.out)⟩

end Go.Proofs.Ytlapbhgkmmeeoaa.PSpares
end
section
/- Contracts: what calls of these functions of the program do, each as a plain function; written by a program of this session. -/
namespace Go.Proofs.Ytlapbhgkmmeeoaa.PSpares
open Go.RowKit Go.Proofs.YtlapbhgkmmeeoaaW.PrintWords Go.Proofs.YtlapbhgkmmeeoaaW.PrintLast Go.Proofs.YtlapbhgkmmeeoaaW.PrintMore
attribute [local go_sem] max2_int min2_int max_two min_two max_three min_three max_four min_four   -- for this text's walks alone
set_option linter.unusedVariables false
set_option linter.unusedSimpArgs false

attribute [local go_sem high] eqA89
/-! ### wharfageref10_ViewMay: function 41 -/
def wharfageref10_ViewMay.l0 : Nat → List (S91) → Int → Option (Bool)
 | 0, _, _ => none
 | k + 1, x0, x3 => if x3 < (x0.length : Int) then (if 0 ≤ x3 then (if ((rd_T91 x0 x3).f1) = (-1) then (if (((rd_T91 x0 x3).f0.f0) == 0 && (((rd_T91 x0 x3).f0.f1) == 0 && (((rd_T91 x0 x3).f0.f2) == 0 && (((rd_T91 x0 x3).f0.f3) == 0)))) = true then (wharfageref10_ViewMay.l0 k x0 (wrap64 (x3 + 1))) else (if ((rd_T91 x0 x3).f1) < 0 then (some false) else (if ((rd_T91 x0 x3).f1) > 1048576 then (some false) else ((wharfageref1_ReportMay.f ((rd_T91 x0 x3).f0.f0) ((rd_T91 x0 x3).f0.f1) ((rd_T91 x0 x3).f0.f2) ((rd_T91 x0 x3).f0.f3)).bind fun t160 => (if t160 = true then (if ((rd_T91 x0 x3).f0.f0) = x3 then (wharfageref10_ViewMay.l0 k x0 (wrap64 (x3 + 1))) else (some false)) else (some false)))))) else (if ((rd_T91 x0 x3).f1) < 0 then (some false) else (if ((rd_T91 x0 x3).f1) > 1048576 then (some false) else ((wharfageref1_ReportMay.f ((rd_T91 x0 x3).f0.f0) ((rd_T91 x0 x3).f0.f1) ((rd_T91 x0 x3).f0.f2) ((rd_T91 x0 x3).f0.f3)).bind fun t161 => (if t161 = true then (if ((rd_T91 x0 x3).f0.f0) = x3 then (wharfageref10_ViewMay.l0 k x0 (wrap64 (x3 + 1))) else (some false)) else (some false)))))) else (none)) else (some ((x0.length : Int) == 3))
def wharfageref10_ViewMay.f (k : Nat) (l0 : List (S91)) : Option (Bool) := wharfageref10_ViewMay.l0 k l0 0
theorem wharfageref10_ViewMay.mono_l : ∀ k, (∀ y0 y1, LeO (wharfageref10_ViewMay.l0 k y0 y1) (wharfageref10_ViewMay.l0 (k + 1) y0 y1))
 | 0 => fun _ _ r h => by simp [wharfageref10_ViewMay.l0] at h
 | k + 1 => by
  have ih0 := wharfageref10_ViewMay.mono_l k
  ·intro y0 y1
   unfold wharfageref10_ViewMay.l0
   repeat' first
   | (with_reducible exact ih0 _ _)
   | (with_reducible exact LeO.refl _)
   | (with_reducible exact LeO.none _)
   | (with_reducible refine LeO.ite ?_ ?_)
   | (with_reducible refine LeO.bind ?_ (fun _ => ?_))
   | exact ih0 _ _
   | exact LeO.none _
   | refine LeO.ite ?_ ?_
   | refine LeO.bind ?_ (fun _ => ?_)
theorem wharfageref10_ViewMay.mono : ∀ a0 k, LeO (wharfageref10_ViewMay.f k a0) (wharfageref10_ViewMay.f (k + 1) a0) := by
 intro a0 k
 have ih0 := wharfageref10_ViewMay.mono_l k
 unfold wharfageref10_ViewMay.f
 repeat' first
   | (with_reducible exact ih0 _ _)
   | (with_reducible exact LeO.refl _)
   | (with_reducible exact LeO.none _)
   | (with_reducible refine LeO.ite ?_ ?_)
   | (with_reducible refine LeO.bind ?_ (fun _ => ?_))
   | exact ih0 _ _
   | exact LeO.none _
   | refine LeO.ite ?_ ?_
   | refine LeO.bind ?_ (fun _ => ?_)
set_option maxHeartbeats 8000000 in
set_option maxRecDepth 100000 in
theorem wharfageref10_ViewMay.calls (k : Nat) (A0 : Option Addr) (c0 : Nat) (l0 : List (S91)) (r : Bool) (w : World) (hr0 : Kd.C k91 w A0 l0.length l0) (hc0 : l0.length ≤ c0) (h : wharfageref10_ViewMay.f k l0 = some r) :
  Calls Try.prog 41 #[.slice A0 l0.length c0] w fun e w' => e = .returned (.bool r) ∧ Below w.heap.size w w' := by
 have hu91 := Try.underlying91
 have hu89 := Try.underlying89
 have HR0 := Aside0.mk hr0
 have HC0 := Aside0.mk hc0
 clear hr0 hc0
 have HB := Aside0.mk (Below.refl w.heap.size w)
 have H : (wharfageref10_ViewMay.l0 k l0 0) = some r := h
 clear h
 have H' := Aside0.mk H
 clear H
 go_enter Try.func41, Try.ntmps41
 go_wp2
 go_loopg [3] k (fun kq v3 w' => ∃ (x3_1 : Int), v3 = .int .i64 x3_1 ∧ Aside0 (wharfageref10_ViewMay.l0 kq l0 x3_1 = some r) ∧ Aside0 (kq ≤ k) ∧ Aside0 (Below w.heap.size w w'))
 case atStart => exact ⟨(0), (by first | rfl | (simp; done) | (simp [*]; done)), H', ⟨Nat.le_refl _⟩, ⟨by repeat (first | (with_reducible first | exact HB.out | apply below_alloc | apply pw_below_drewN | apply below_drew1) | exact HB.out)⟩⟩
 case round =>
  clear H'
  obtain ⟨x3_1, rfl, HA, HK1, HB⟩ := hrel
  cases gk with
  | zero => exact absurd HA.out (by simp [wharfageref10_ViewMay.l0])
  | succ k1 =>
   have H := HA.out
   clear HA
   simp only [wharfageref10_ViewMay.l0] at H
   by_cases c2 : x3_1 < (l0.length : Int)
   ·rw [if_pos c2] at H
    have c2b0 : decide (x3_1 < (l0.length : Int)) = true := decide_eq_true c2
    clear c2
    by_cases c3 : 0 ≤ x3_1
    ·rw [if_pos c3] at H
     have c3b0 : decide (0 ≤ x3_1) = true := decide_eq_true c3
     clear c3
     by_cases c4 : ((rd_T91 l0 x3_1).f1) = (-1)
     ·rw [if_pos c4] at H
      have c4b0 : (((rd_T91 l0 x3_1).f1) == (-1)) = true := beq_iff_eq.mpr c4
      have c4b1 : (((rd_T91 l0 x3_1).f1) != (-1)) = false := bne_eq_false_iff_eq.mpr c4
      clear c4
      by_cases c5 : (((rd_T91 l0 x3_1).f0.f0) == 0 && (((rd_T91 l0 x3_1).f0.f1) == 0 && (((rd_T91 l0 x3_1).f0.f2) == 0 && (((rd_T91 l0 x3_1).f0.f3) == 0)))) = true
      ·rw [if_pos c5] at H
       have c5b0 : (((rd_T91 l0 x3_1).f0.f0) == 0 && (((rd_T91 l0 x3_1).f0.f1) == 0 && (((rd_T91 l0 x3_1).f0.f2) == 0 && (((rd_T91 l0 x3_1).f0.f3) == 0)))) = true := c5
       (try (have c5b1 : decide (((rd_T91 l0 x3_1).f0.f0) = 0 && (((rd_T91 l0 x3_1).f0.f1) == 0 && (((rd_T91 l0 x3_1).f0.f2) == 0 && (((rd_T91 l0 x3_1).f0.f3) == 0)))) = true := by simpa using c5))
       (try (have c5b2 : (((rd_T91 l0 x3_1).f0.f0) == 0 && (((rd_T91 l0 x3_1).f0.f1) == 0 && (((rd_T91 l0 x3_1).f0.f2) == 0 && (((rd_T91 l0 x3_1).f0.f3) == 0)))) = true := by simpa using c5))
       clear c5
       have H' := Aside0.mk H
       clear H
       have p158 : 0 ≤ (x3_1 : Int) := of_decide_eq_true (by first | (with_reducible assumption) | assumption)
       have q158 : x3_1 < (l0.length : Int) := of_decide_eq_true (by first | (with_reducible assumption) | assumption)
       obtain ⟨ad158, e158, hx158_0, hx158_1, hx158_2, hx158_3, hx158_4⟩ := at_T91 HR0.out x3_1 p158 q158
       cases e158
       replace hx158_0 := (HB.out.cell (World.block_lt_of_cell? w _ hx158_0)).trans hx158_0
       replace hx158_1 := (HB.out.cell (World.block_lt_of_cell? w _ hx158_1)).trans hx158_1
       replace hx158_2 := (HB.out.cell (World.block_lt_of_cell? w _ hx158_2)).trans hx158_2
       replace hx158_3 := (HB.out.cell (World.block_lt_of_cell? w _ hx158_3)).trans hx158_3
       replace hx158_4 := (HB.out.cell (World.block_lt_of_cell? w _ hx158_4)).trans hx158_4
       replace p158 := eq_true p158
       replace q158 := eq_true q158
       go_wp2_with (first | ((with_reducible refine gate_dst (N := 4) rfl ?_); refine box_event ?hg (N := 4) ?hd (cs := #[.int .i64 0, .int .i64 0, .int .i64 0, .int .i64 0, .int .i64 0]) (t := 91) ?hr ?_; (case hd => rfl); (case hg => rfl); (case hr => first | (go_simp; done) | (go_simp; rfl)); intro g0 hg w6 hbox hb; have n0_ := Aside0.mk (below_step (by repeat (first | (with_reducible first | exact HB.out | apply below_alloc | apply pw_below_drewN | apply below_drew1) | exact HB.out)) hb); have n1_ := Aside0.mk (hbox); have n2_ := Aside0.mk ((by rw [hg]; exact (below_size (by repeat (first | (with_reducible first | exact HB.out | apply below_alloc | apply pw_below_drewN | apply below_drew1) | exact HB.out))) : w.heap.size ≤ g0)); have n3_ := Aside0.mk ((by rw [hg]; exact (below_size (by repeat (first | (with_reducible first | exact HB.out | apply below_alloc | apply pw_below_drewN | apply below_drew1) | exact HB.out))) : w.heap.size ≤ g0)); clear HB; have HB := n0_; have K0 := n1_; have G0 := n2_; have E0 := n3_; clear n0_ n1_ n2_ n3_; clear hb hbox hg; have hcz7_0 : w6.cell? ⟨g0, 0, none⟩ = some (.int .i64 0) := (blk_cell K0.out 0).trans rfl; have hcz7_1 : w6.cell? ⟨g0, 1, none⟩ = some (.int .i64 0) := (blk_cell K0.out 1).trans rfl; have hcz7_2 : w6.cell? ⟨g0, 2, none⟩ = some (.int .i64 0) := (blk_cell K0.out 2).trans rfl; have hcz7_3 : w6.cell? ⟨g0, 3, none⟩ = some (.int .i64 0) := (blk_cell K0.out 3).trans rfl; have hcz7_4 : w6.cell? ⟨g0, 4, none⟩ = some (.int .i64 0) := (blk_cell K0.out 4).trans rfl; have hfz7_0 := blk_frozen K0.out 0; have hfz7_1 := blk_frozen K0.out 1; have hfz7_2 := blk_frozen K0.out 2; have hfz7_3 := blk_frozen K0.out 3; have hfz7_4 := blk_frozen K0.out 4))
       go_roundg k1
       case measure => have := HK1.out; omega
       case rel => exact ⟨(wrap64 (x3_1 + 1)), (by first | rfl | (simp; done) | (simp [*]; done)), H', ⟨by have := HK1.out; omega⟩, ⟨by repeat (first | (with_reducible first | exact HB.out | apply below_alloc | apply pw_below_drewN | apply below_drew1 | refine below_set ?_ E0.out) | exact HB.out)⟩⟩
      ·rw [if_neg c5] at H
       have c5b0 : (((rd_T91 l0 x3_1).f0.f0) == 0 && (((rd_T91 l0 x3_1).f0.f1) == 0 && (((rd_T91 l0 x3_1).f0.f2) == 0 && (((rd_T91 l0 x3_1).f0.f3) == 0)))) = false := by simpa using c5
       (try (have c5b1 : decide (((rd_T91 l0 x3_1).f0.f0) = 0 && (((rd_T91 l0 x3_1).f0.f1) == 0 && (((rd_T91 l0 x3_1).f0.f2) == 0 && (((rd_T91 l0 x3_1).f0.f3) == 0)))) = false := by simpa using c5))
       (try (have c5b2 : (((rd_T91 l0 x3_1).f0.f0) == 0 && (((rd_T91 l0 x3_1).f0.f1) == 0 && (((rd_T91 l0 x3_1).f0.f2) == 0 && (((rd_T91 l0 x3_1).f0.f3) == 0)))) = false := by simpa using c5))
       (try (have c5b3 : ¬ (((rd_T91 l0 x3_1).f0.f0) = 0 && (((rd_T91 l0 x3_1).f0.f1) == 0 && (((rd_T91 l0 x3_1).f0.f2) == 0 && (((rd_T91 l0 x3_1).f0.f3) == 0)))) := by simpa using c5))
       clear c5
       by_cases c8 : ((rd_T91 l0 x3_1).f1) < 0
       ·rw [if_pos c8] at H
        have c8b0 : decide (((rd_T91 l0 x3_1).f1) < 0) = true := decide_eq_true c8
        clear c8
        obtain rfl := Option.some.inj H
        have p158 : 0 ≤ (x3_1 : Int) := of_decide_eq_true (by first | (with_reducible assumption) | assumption)
        have q158 : x3_1 < (l0.length : Int) := of_decide_eq_true (by first | (with_reducible assumption) | assumption)
        obtain ⟨ad158, e158, hx158_0, hx158_1, hx158_2, hx158_3, hx158_4⟩ := at_T91 HR0.out x3_1 p158 q158
        cases e158
        replace hx158_0 := (HB.out.cell (World.block_lt_of_cell? w _ hx158_0)).trans hx158_0
        replace hx158_1 := (HB.out.cell (World.block_lt_of_cell? w _ hx158_1)).trans hx158_1
        replace hx158_2 := (HB.out.cell (World.block_lt_of_cell? w _ hx158_2)).trans hx158_2
        replace hx158_3 := (HB.out.cell (World.block_lt_of_cell? w _ hx158_3)).trans hx158_3
        replace hx158_4 := (HB.out.cell (World.block_lt_of_cell? w _ hx158_4)).trans hx158_4
        replace p158 := eq_true p158
        replace q158 := eq_true q158
        go_wp2_with (first | ((with_reducible refine gate_dst (N := 4) rfl ?_); refine box_event ?hg (N := 4) ?hd (cs := #[.int .i64 0, .int .i64 0, .int .i64 0, .int .i64 0, .int .i64 0]) (t := 91) ?hr ?_; (case hd => rfl); (case hg => rfl); (case hr => first | (go_simp; done) | (go_simp; rfl)); intro g0 hg w9 hbox hb; have n0_ := Aside0.mk (below_step (by repeat (first | (with_reducible first | exact HB.out | apply below_alloc | apply pw_below_drewN | apply below_drew1) | exact HB.out)) hb); have n1_ := Aside0.mk (hbox); have n2_ := Aside0.mk ((by rw [hg]; exact (below_size (by repeat (first | (with_reducible first | exact HB.out | apply below_alloc | apply pw_below_drewN | apply below_drew1) | exact HB.out))) : w.heap.size ≤ g0)); have n3_ := Aside0.mk ((by rw [hg]; exact (below_size (by repeat (first | (with_reducible first | exact HB.out | apply below_alloc | apply pw_below_drewN | apply below_drew1) | exact HB.out))) : w.heap.size ≤ g0)); clear HB; have HB := n0_; have K0 := n1_; have G0 := n2_; have E0 := n3_; clear n0_ n1_ n2_ n3_; clear hb hbox hg; have hcz10_0 : w9.cell? ⟨g0, 0, none⟩ = some (.int .i64 0) := (blk_cell K0.out 0).trans rfl; have hcz10_1 : w9.cell? ⟨g0, 1, none⟩ = some (.int .i64 0) := (blk_cell K0.out 1).trans rfl; have hcz10_2 : w9.cell? ⟨g0, 2, none⟩ = some (.int .i64 0) := (blk_cell K0.out 2).trans rfl; have hcz10_3 : w9.cell? ⟨g0, 3, none⟩ = some (.int .i64 0) := (blk_cell K0.out 3).trans rfl; have hcz10_4 : w9.cell? ⟨g0, 4, none⟩ = some (.int .i64 0) := (blk_cell K0.out 4).trans rfl; have hfz10_0 := blk_frozen K0.out 0; have hfz10_1 := blk_frozen K0.out 1; have hfz10_2 := blk_frozen K0.out 2; have hfz10_3 := blk_frozen K0.out 3; have hfz10_4 := blk_frozen K0.out 4))
        go_ret
        exact ⟨by first | rfl | (simp [errW_none, errW_some] <;> rfl) | (simp [*, errW_none, errW_some] <;> rfl), by repeat (first | (with_reducible first | exact HB.out | apply below_alloc | apply pw_below_drewN | apply below_drew1 | refine below_set ?_ E0.out) | exact HB.out)⟩
       ·rw [if_neg c8] at H
        have c8b0 : decide (((rd_T91 l0 x3_1).f1) < 0) = false := decide_eq_false c8
        clear c8
        by_cases c11 : ((rd_T91 l0 x3_1).f1) > 1048576
        ·rw [if_pos c11] at H
         have c11b0 : decide (1048576 < ((rd_T91 l0 x3_1).f1)) = true := decide_eq_true c11
         clear c11
         obtain rfl := Option.some.inj H
         have p158 : 0 ≤ (x3_1 : Int) := of_decide_eq_true (by first | (with_reducible assumption) | assumption)
         have q158 : x3_1 < (l0.length : Int) := of_decide_eq_true (by first | (with_reducible assumption) | assumption)
         obtain ⟨ad158, e158, hx158_0, hx158_1, hx158_2, hx158_3, hx158_4⟩ := at_T91 HR0.out x3_1 p158 q158
         cases e158
         replace hx158_0 := (HB.out.cell (World.block_lt_of_cell? w _ hx158_0)).trans hx158_0
         replace hx158_1 := (HB.out.cell (World.block_lt_of_cell? w _ hx158_1)).trans hx158_1
         replace hx158_2 := (HB.out.cell (World.block_lt_of_cell? w _ hx158_2)).trans hx158_2
         replace hx158_3 := (HB.out.cell (World.block_lt_of_cell? w _ hx158_3)).trans hx158_3
         replace hx158_4 := (HB.out.cell (World.block_lt_of_cell? w _ hx158_4)).trans hx158_4
         replace p158 := eq_true p158
         replace q158 := eq_true q158
         go_wp2_with (first | ((with_reducible refine gate_dst (N := 4) rfl ?_); refine box_event ?hg (N := 4) ?hd (cs := #[.int .i64 0, .int .i64 0, .int .i64 0, .int .i64 0, .int .i64 0]) (t := 91) ?hr ?_; (case hd => rfl); (case hg => rfl); (case hr => first | (go_simp; done) | (go_simp; rfl)); intro g0 hg w12 hbox hb; have n0_ := Aside0.mk (below_step (by repeat (first | (with_reducible first | exact HB.out | apply below_alloc | apply pw_below_drewN | apply below_drew1) | exact HB.out)) hb); have n1_ := Aside0.mk (hbox); have n2_ := Aside0.mk ((by rw [hg]; exact (below_size (by repeat (first | (with_reducible first | exact HB.out | apply below_alloc | apply pw_below_drewN | apply below_drew1) | exact HB.out))) : w.heap.size ≤ g0)); have n3_ := Aside0.mk ((by rw [hg]; exact (below_size (by repeat (first | (with_reducible first | exact HB.out | apply below_alloc | apply pw_below_drewN | apply below_drew1) | exact HB.out))) : w.heap.size ≤ g0)); clear HB; have HB := n0_; have K0 := n1_; have G0 := n2_; have E0 := n3_; clear n0_ n1_ n2_ n3_; clear hb hbox hg; have hcz13_0 : w12.cell? ⟨g0, 0, none⟩ = some (.int .i64 0) := (blk_cell K0.out 0).trans rfl; have hcz13_1 : w12.cell? ⟨g0, 1, none⟩ = some (.int .i64 0) := (blk_cell K0.out 1).trans rfl; have hcz13_2 : w12.cell? ⟨g0, 2, none⟩ = some (.int .i64 0) := (blk_cell K0.out 2).trans rfl; have hcz13_3 : w12.cell? ⟨g0, 3, none⟩ = some (.int .i64 0) := (blk_cell K0.out 3).trans rfl; have hcz13_4 : w12.cell? ⟨g0, 4, none⟩ = some (.int .i64 0) := (blk_cell K0.out 4).trans rfl; have hfz13_0 := blk_frozen K0.out 0; have hfz13_1 := blk_frozen K0.out 1; have hfz13_2 := blk_frozen K0.out 2; have hfz13_3 := blk_frozen K0.out 3; have hfz13_4 := blk_frozen K0.out 4))
         go_ret
         exact ⟨by first | rfl | (simp [errW_none, errW_some] <;> rfl) | (simp [*, errW_none, errW_some] <;> rfl), by repeat (first | (with_reducible first | exact HB.out | apply below_alloc | apply pw_below_drewN | apply below_drew1 | refine below_set ?_ E0.out) | exact HB.out)⟩
        ·rw [if_neg c11] at H
         have c11b0 : decide (1048576 < ((rd_T91 l0 x3_1).f1)) = false := decide_eq_false c11
         clear c11
         replace H := Option.bind_eq_some_iff.mp H
         obtain ⟨t160, A140, H⟩ := H
         replace H : (if t160 = true then (if ((rd_T91 l0 x3_1).f0.f0) = x3_1 then (wharfageref10_ViewMay.l0 k1 l0 (wrap64 (x3_1 + 1))) else (some false)) else (some false)) = some r := H
         have A14 := Aside0.mk A140
         clear A140
         by_cases c15 : t160 = true
         ·subst c15
          have H1 : (if ((rd_T91 l0 x3_1).f0.f0) = x3_1 then (wharfageref10_ViewMay.l0 k1 l0 (wrap64 (x3_1 + 1))) else (some false)) = some r := by rw [if_pos rfl] at H; exact H
          clear H
          have H := H1
          clear H1
          by_cases c16 : ((rd_T91 l0 x3_1).f0.f0) = x3_1
          ·rw [if_pos c16] at H
           have c16b0 : (((rd_T91 l0 x3_1).f0.f0) == x3_1) = true := beq_iff_eq.mpr c16
           have c16b1 : (((rd_T91 l0 x3_1).f0.f0) != x3_1) = false := bne_eq_false_iff_eq.mpr c16
           clear c16
           have H' := Aside0.mk H
           clear H
           have p158 : 0 ≤ (x3_1 : Int) := of_decide_eq_true (by first | (with_reducible assumption) | assumption)
           have q158 : x3_1 < (l0.length : Int) := of_decide_eq_true (by first | (with_reducible assumption) | assumption)
           obtain ⟨ad158, e158, hx158_0, hx158_1, hx158_2, hx158_3, hx158_4⟩ := at_T91 HR0.out x3_1 p158 q158
           cases e158
           replace hx158_0 := (HB.out.cell (World.block_lt_of_cell? w _ hx158_0)).trans hx158_0
           replace hx158_1 := (HB.out.cell (World.block_lt_of_cell? w _ hx158_1)).trans hx158_1
           replace hx158_2 := (HB.out.cell (World.block_lt_of_cell? w _ hx158_2)).trans hx158_2
           replace hx158_3 := (HB.out.cell (World.block_lt_of_cell? w _ hx158_3)).trans hx158_3
           replace hx158_4 := (HB.out.cell (World.block_lt_of_cell? w _ hx158_4)).trans hx158_4
           replace p158 := eq_true p158
           replace q158 := eq_true q158
           go_wp2_with (first | ((with_reducible refine gate_dst (N := 4) rfl ?_); refine box_event ?hg (N := 4) ?hd (cs := #[.int .i64 0, .int .i64 0, .int .i64 0, .int .i64 0, .int .i64 0]) (t := 91) ?hr ?_; (case hd => rfl); (case hg => rfl); (case hr => first | (go_simp; done) | (go_simp; rfl)); intro g0 hg w17 hbox hb; have n0_ := Aside0.mk (below_step (by repeat (first | (with_reducible first | exact HB.out | apply below_alloc | apply pw_below_drewN | apply below_drew1) | exact HB.out)) hb); have n1_ := Aside0.mk (hbox); have n2_ := Aside0.mk ((by rw [hg]; exact (below_size (by repeat (first | (with_reducible first | exact HB.out | apply below_alloc | apply pw_below_drewN | apply below_drew1) | exact HB.out))) : w.heap.size ≤ g0)); have n3_ := Aside0.mk ((by rw [hg]; exact (below_size (by repeat (first | (with_reducible first | exact HB.out | apply below_alloc | apply pw_below_drewN | apply below_drew1) | exact HB.out))) : w.heap.size ≤ g0)); clear HB; have HB := n0_; have K0 := n1_; have G0 := n2_; have E0 := n3_; clear n0_ n1_ n2_ n3_; clear hb hbox hg; have hcz18_0 : w17.cell? ⟨g0, 0, none⟩ = some (.int .i64 0) := (blk_cell K0.out 0).trans rfl; have hcz18_1 : w17.cell? ⟨g0, 1, none⟩ = some (.int .i64 0) := (blk_cell K0.out 1).trans rfl; have hcz18_2 : w17.cell? ⟨g0, 2, none⟩ = some (.int .i64 0) := (blk_cell K0.out 2).trans rfl; have hcz18_3 : w17.cell? ⟨g0, 3, none⟩ = some (.int .i64 0) := (blk_cell K0.out 3).trans rfl; have hcz18_4 : w17.cell? ⟨g0, 4, none⟩ = some (.int .i64 0) := (blk_cell K0.out 4).trans rfl; have hfz18_0 := blk_frozen K0.out 0; have hfz18_1 := blk_frozen K0.out 1; have hfz18_2 := blk_frozen K0.out 2; have hfz18_3 := blk_frozen K0.out 3; have hfz18_4 := blk_frozen K0.out 4) | (go_at_call 53; (with_reducible refine (wharfageref1_ReportMay.calls ((rd_T91 l0 x3_1).f0.f0) ((rd_T91 l0 x3_1).f0.f1) ((rd_T91 l0 x3_1).f0.f2) ((rd_T91 l0 x3_1).f0.f3) true _ A14.out).mono ?_); rintro e w19 ⟨rfl, hb⟩; have n0_ := Aside0.mk (blk_below (g := g0) (o := .cells #[.int .i64 ((rd_T91 l0 x3_1).f0.f0), .int .i64 ((rd_T91 l0 x3_1).f0.f1), .int .i64 ((rd_T91 l0 x3_1).f0.f2), .int .i64 ((rd_T91 l0 x3_1).f0.f3), .int .i64 ((rd_T91 l0 x3_1).f1)] 91 (0, 0)) (by (with_reducible repeat (first | refine blk_drewN ?_ _ | refine blk_drew ?_ | refine blk_alloc ?_ _)); refine blk_put (cs := #[.int .i64 ((rd_T91 l0 x3_1).f0.f0), .int .i64 ((rd_T91 l0 x3_1).f0.f1), .int .i64 ((rd_T91 l0 x3_1).f0.f2), .int .i64 ((rd_T91 l0 x3_1).f0.f3), .int .i64 0]) ?_ 4 _ rfl; (with_reducible repeat (first | refine blk_drewN ?_ _ | refine blk_drew ?_ | refine blk_alloc ?_ _)); refine blk_put (cs := #[.int .i64 ((rd_T91 l0 x3_1).f0.f0), .int .i64 ((rd_T91 l0 x3_1).f0.f1), .int .i64 ((rd_T91 l0 x3_1).f0.f2), .int .i64 0, .int .i64 0]) ?_ 3 _ rfl; (with_reducible repeat (first | refine blk_drewN ?_ _ | refine blk_drew ?_ | refine blk_alloc ?_ _)); refine blk_put (cs := #[.int .i64 ((rd_T91 l0 x3_1).f0.f0), .int .i64 ((rd_T91 l0 x3_1).f0.f1), .int .i64 0, .int .i64 0, .int .i64 0]) ?_ 2 _ rfl; (with_reducible repeat (first | refine blk_drewN ?_ _ | refine blk_drew ?_ | refine blk_alloc ?_ _)); refine blk_put (cs := #[.int .i64 ((rd_T91 l0 x3_1).f0.f0), .int .i64 0, .int .i64 0, .int .i64 0, .int .i64 0]) ?_ 1 _ rfl; (with_reducible repeat (first | refine blk_drewN ?_ _ | refine blk_drew ?_ | refine blk_alloc ?_ _)); refine blk_put (cs := #[.int .i64 0, .int .i64 0, .int .i64 0, .int .i64 0, .int .i64 0]) ?_ 0 _ rfl; (with_reducible repeat (first | refine blk_drewN ?_ _ | refine blk_drew ?_ | refine blk_alloc ?_ _)); exact K0.out) hb); have n1_ := Aside0.mk (below_step (by repeat (first | (with_reducible first | exact HB.out | apply below_alloc | apply pw_below_drewN | apply below_drew1 | refine below_set ?_ E0.out) | exact HB.out)) hb); clear K0; clear HB; have K0 := n0_; have HB := n1_; clear n0_ n1_; (try clear hb); (try clear hb2); (try clear hk); (try clear hi); have hcz20_0 : w19.cell? ⟨g0, 0, none⟩ = some (.int .i64 ((rd_T91 l0 x3_1).f0.f0)) := (blk_cell K0.out 0).trans rfl; have hcz20_1 : w19.cell? ⟨g0, 1, none⟩ = some (.int .i64 ((rd_T91 l0 x3_1).f0.f1)) := (blk_cell K0.out 1).trans rfl; have hcz20_2 : w19.cell? ⟨g0, 2, none⟩ = some (.int .i64 ((rd_T91 l0 x3_1).f0.f2)) := (blk_cell K0.out 2).trans rfl; have hcz20_3 : w19.cell? ⟨g0, 3, none⟩ = some (.int .i64 ((rd_T91 l0 x3_1).f0.f3)) := (blk_cell K0.out 3).trans rfl; have hcz20_4 : w19.cell? ⟨g0, 4, none⟩ = some (.int .i64 ((rd_T91 l0 x3_1).f1)) := (blk_cell K0.out 4).trans rfl; have hfz20_0 := blk_frozen K0.out 0; have hfz20_1 := blk_frozen K0.out 1; have hfz20_2 := blk_frozen K0.out 2; have hfz20_3 := blk_frozen K0.out 3; have hfz20_4 := blk_frozen K0.out 4))
           go_roundg k1
           case measure => have := HK1.out; omega
           case rel => exact ⟨(wrap64 (x3_1 + 1)), (by first | rfl | (simp; done) | (simp [*]; done)), H', ⟨by have := HK1.out; omega⟩, ⟨by repeat (first | (with_reducible first | exact HB.out | apply below_alloc | apply pw_below_drewN | apply below_drew1 | refine below_set ?_ E0.out) | exact HB.out)⟩⟩
          ·rw [if_neg c16] at H
           have c16b0 : (((rd_T91 l0 x3_1).f0.f0) == x3_1) = false := beq_eq_false_iff_ne.mpr c16
           have c16b1 : (((rd_T91 l0 x3_1).f0.f0) != x3_1) = true := bne_iff_ne.mpr c16
           obtain rfl := Option.some.inj H
           have p158 : 0 ≤ (x3_1 : Int) := of_decide_eq_true (by first | (with_reducible assumption) | assumption)
           have q158 : x3_1 < (l0.length : Int) := of_decide_eq_true (by first | (with_reducible assumption) | assumption)
           obtain ⟨ad158, e158, hx158_0, hx158_1, hx158_2, hx158_3, hx158_4⟩ := at_T91 HR0.out x3_1 p158 q158
           cases e158
           replace hx158_0 := (HB.out.cell (World.block_lt_of_cell? w _ hx158_0)).trans hx158_0
           replace hx158_1 := (HB.out.cell (World.block_lt_of_cell? w _ hx158_1)).trans hx158_1
           replace hx158_2 := (HB.out.cell (World.block_lt_of_cell? w _ hx158_2)).trans hx158_2
           replace hx158_3 := (HB.out.cell (World.block_lt_of_cell? w _ hx158_3)).trans hx158_3
           replace hx158_4 := (HB.out.cell (World.block_lt_of_cell? w _ hx158_4)).trans hx158_4
           replace p158 := eq_true p158
           replace q158 := eq_true q158
           go_wp2_with (first | ((with_reducible refine gate_dst (N := 4) rfl ?_); refine box_event ?hg (N := 4) ?hd (cs := #[.int .i64 0, .int .i64 0, .int .i64 0, .int .i64 0, .int .i64 0]) (t := 91) ?hr ?_; (case hd => rfl); (case hg => rfl); (case hr => first | (go_simp; done) | (go_simp; rfl)); intro g0 hg w21 hbox hb; have n0_ := Aside0.mk (below_step (by repeat (first | (with_reducible first | exact HB.out | apply below_alloc | apply pw_below_drewN | apply below_drew1) | exact HB.out)) hb); have n1_ := Aside0.mk (hbox); have n2_ := Aside0.mk ((by rw [hg]; exact (below_size (by repeat (first | (with_reducible first | exact HB.out | apply below_alloc | apply pw_below_drewN | apply below_drew1) | exact HB.out))) : w.heap.size ≤ g0)); have n3_ := Aside0.mk ((by rw [hg]; exact (below_size (by repeat (first | (with_reducible first | exact HB.out | apply below_alloc | apply pw_below_drewN | apply below_drew1) | exact HB.out))) : w.heap.size ≤ g0)); clear HB; have HB := n0_; have K0 := n1_; have G0 := n2_; have E0 := n3_; clear n0_ n1_ n2_ n3_; clear hb hbox hg; have hcz22_0 : w21.cell? ⟨g0, 0, none⟩ = some (.int .i64 0) := (blk_cell K0.out 0).trans rfl; have hcz22_1 : w21.cell? ⟨g0, 1, none⟩ = some (.int .i64 0) := (blk_cell K0.out 1).trans rfl; have hcz22_2 : w21.cell? ⟨g0, 2, none⟩ = some (.int .i64 0) := (blk_cell K0.out 2).trans rfl; have hcz22_3 : w21.cell? ⟨g0, 3, none⟩ = some (.int .i64 0) := (blk_cell K0.out 3).trans rfl; have hcz22_4 : w21.cell? ⟨g0, 4, none⟩ = some (.int .i64 0) := (blk_cell K0.out 4).trans rfl; have hfz22_0 := blk_frozen K0.out 0; have hfz22_1 := blk_frozen K0.out 1; have hfz22_2 := blk_frozen K0.out 2; have hfz22_3 := blk_frozen K0.out 3; have hfz22_4 := blk_frozen K0.out 4) | (go_at_call 53; (with_reducible refine (wharfageref1_ReportMay.calls ((rd_T91 l0 x3_1).f0.f0) ((rd_T91 l0 x3_1).f0.f1) ((rd_T91 l0 x3_1).f0.f2) ((rd_T91 l0 x3_1).f0.f3) true _ A14.out).mono ?_); rintro e w23 ⟨rfl, hb⟩; have n0_ := Aside0.mk (blk_below (g := g0) (o := .cells #[.int .i64 ((rd_T91 l0 x3_1).f0.f0), .int .i64 ((rd_T91 l0 x3_1).f0.f1), .int .i64 ((rd_T91 l0 x3_1).f0.f2), .int .i64 ((rd_T91 l0 x3_1).f0.f3), .int .i64 ((rd_T91 l0 x3_1).f1)] 91 (0, 0)) (by (with_reducible repeat (first | refine blk_drewN ?_ _ | refine blk_drew ?_ | refine blk_alloc ?_ _)); refine blk_put (cs := #[.int .i64 ((rd_T91 l0 x3_1).f0.f0), .int .i64 ((rd_T91 l0 x3_1).f0.f1), .int .i64 ((rd_T91 l0 x3_1).f0.f2), .int .i64 ((rd_T91 l0 x3_1).f0.f3), .int .i64 0]) ?_ 4 _ rfl; (with_reducible repeat (first | refine blk_drewN ?_ _ | refine blk_drew ?_ | refine blk_alloc ?_ _)); refine blk_put (cs := #[.int .i64 ((rd_T91 l0 x3_1).f0.f0), .int .i64 ((rd_T91 l0 x3_1).f0.f1), .int .i64 ((rd_T91 l0 x3_1).f0.f2), .int .i64 0, .int .i64 0]) ?_ 3 _ rfl; (with_reducible repeat (first | refine blk_drewN ?_ _ | refine blk_drew ?_ | refine blk_alloc ?_ _)); refine blk_put (cs := #[.int .i64 ((rd_T91 l0 x3_1).f0.f0), .int .i64 ((rd_T91 l0 x3_1).f0.f1), .int .i64 0, .int .i64 0, .int .i64 0]) ?_ 2 _ rfl; (with_reducible repeat (first | refine blk_drewN ?_ _ | refine blk_drew ?_ | refine blk_alloc ?_ _)); refine blk_put (cs := #[.int .i64 ((rd_T91 l0 x3_1).f0.f0), .int .i64 0, .int .i64 0, .int .i64 0, .int .i64 0]) ?_ 1 _ rfl; (with_reducible repeat (first | refine blk_drewN ?_ _ | refine blk_drew ?_ | refine blk_alloc ?_ _)); refine blk_put (cs := #[.int .i64 0, .int .i64 0, .int .i64 0, .int .i64 0, .int .i64 0]) ?_ 0 _ rfl; (with_reducible repeat (first | refine blk_drewN ?_ _ | refine blk_drew ?_ | refine blk_alloc ?_ _)); exact K0.out) hb); have n1_ := Aside0.mk (below_step (by repeat (first | (with_reducible first | exact HB.out | apply below_alloc | apply pw_below_drewN | apply below_drew1 | refine below_set ?_ E0.out) | exact HB.out)) hb); clear K0; clear HB; have K0 := n0_; have HB := n1_; clear n0_ n1_; (try clear hb); (try clear hb2); (try clear hk); (try clear hi); have hcz24_0 : w23.cell? ⟨g0, 0, none⟩ = some (.int .i64 ((rd_T91 l0 x3_1).f0.f0)) := (blk_cell K0.out 0).trans rfl; have hcz24_1 : w23.cell? ⟨g0, 1, none⟩ = some (.int .i64 ((rd_T91 l0 x3_1).f0.f1)) := (blk_cell K0.out 1).trans rfl; have hcz24_2 : w23.cell? ⟨g0, 2, none⟩ = some (.int .i64 ((rd_T91 l0 x3_1).f0.f2)) := (blk_cell K0.out 2).trans rfl; have hcz24_3 : w23.cell? ⟨g0, 3, none⟩ = some (.int .i64 ((rd_T91 l0 x3_1).f0.f3)) := (blk_cell K0.out 3).trans rfl; have hcz24_4 : w23.cell? ⟨g0, 4, none⟩ = some (.int .i64 ((rd_T91 l0 x3_1).f1)) := (blk_cell K0.out 4).trans rfl; have hfz24_0 := blk_frozen K0.out 0; have hfz24_1 := blk_frozen K0.out 1; have hfz24_2 := blk_frozen K0.out 2; have hfz24_3 := blk_frozen K0.out 3; have hfz24_4 := blk_frozen K0.out 4))
           go_ret
           exact ⟨by first | rfl | (simp [errW_none, errW_some] <;> rfl) | (simp [*, errW_none, errW_some] <;> rfl), by repeat (first | (with_reducible first | exact HB.out | apply below_alloc | apply pw_below_drewN | apply below_drew1 | refine below_set ?_ E0.out) | exact HB.out)⟩
         ·replace c15 := Bool.eq_false_iff.mpr c15
          subst c15
          have H1 : (some false) = some r := by rw [if_neg (show ¬ (false = true) by decide)] at H; exact H
          clear H
          have H := H1
          clear H1
          obtain rfl := Option.some.inj H
          have p158 : 0 ≤ (x3_1 : Int) := of_decide_eq_true (by first | (with_reducible assumption) | assumption)
          have q158 : x3_1 < (l0.length : Int) := of_decide_eq_true (by first | (with_reducible assumption) | assumption)
          obtain ⟨ad158, e158, hx158_0, hx158_1, hx158_2, hx158_3, hx158_4⟩ := at_T91 HR0.out x3_1 p158 q158
          cases e158
          replace hx158_0 := (HB.out.cell (World.block_lt_of_cell? w _ hx158_0)).trans hx158_0
          replace hx158_1 := (HB.out.cell (World.block_lt_of_cell? w _ hx158_1)).trans hx158_1
          replace hx158_2 := (HB.out.cell (World.block_lt_of_cell? w _ hx158_2)).trans hx158_2
          replace hx158_3 := (HB.out.cell (World.block_lt_of_cell? w _ hx158_3)).trans hx158_3
          replace hx158_4 := (HB.out.cell (World.block_lt_of_cell? w _ hx158_4)).trans hx158_4
          replace p158 := eq_true p158
          replace q158 := eq_true q158
          go_wp2_with (first | ((with_reducible refine gate_dst (N := 4) rfl ?_); refine box_event ?hg (N := 4) ?hd (cs := #[.int .i64 0, .int .i64 0, .int .i64 0, .int .i64 0, .int .i64 0]) (t := 91) ?hr ?_; (case hd => rfl); (case hg => rfl); (case hr => first | (go_simp; done) | (go_simp; rfl)); intro g0 hg w25 hbox hb; have n0_ := Aside0.mk (below_step (by repeat (first | (with_reducible first | exact HB.out | apply below_alloc | apply pw_below_drewN | apply below_drew1) | exact HB.out)) hb); have n1_ := Aside0.mk (hbox); have n2_ := Aside0.mk ((by rw [hg]; exact (below_size (by repeat (first | (with_reducible first | exact HB.out | apply below_alloc | apply pw_below_drewN | apply below_drew1) | exact HB.out))) : w.heap.size ≤ g0)); have n3_ := Aside0.mk ((by rw [hg]; exact (below_size (by repeat (first | (with_reducible first | exact HB.out | apply below_alloc | apply pw_below_drewN | apply below_drew1) | exact HB.out))) : w.heap.size ≤ g0)); clear HB; have HB := n0_; have K0 := n1_; have G0 := n2_; have E0 := n3_; clear n0_ n1_ n2_ n3_; clear hb hbox hg; have hcz26_0 : w25.cell? ⟨g0, 0, none⟩ = some (.int .i64 0) := (blk_cell K0.out 0).trans rfl; have hcz26_1 : w25.cell? ⟨g0, 1, none⟩ = some (.int .i64 0) := (blk_cell K0.out 1).trans rfl; have hcz26_2 : w25.cell? ⟨g0, 2, none⟩ = some (.int .i64 0) := (blk_cell K0.out 2).trans rfl; have hcz26_3 : w25.cell? ⟨g0, 3, none⟩ = some (.int .i64 0) := (blk_cell K0.out 3).trans rfl; have hcz26_4 : w25.cell? ⟨g0, 4, none⟩ = some (.int .i64 0) := (blk_cell K0.out 4).trans rfl; have hfz26_0 := blk_frozen K0.out 0; have hfz26_1 := blk_frozen K0.out 1; have hfz26_2 := blk_frozen K0.out 2; have hfz26_3 := blk_frozen K0.out 3; have hfz26_4 := blk_frozen K0.out 4) | (go_at_call 53; (with_reducible refine (wharfageref1_ReportMay.calls ((rd_T91 l0 x3_1).f0.f0) ((rd_T91 l0 x3_1).f0.f1) ((rd_T91 l0 x3_1).f0.f2) ((rd_T91 l0 x3_1).f0.f3) false _ A14.out).mono ?_); rintro e w27 ⟨rfl, hb⟩; have n0_ := Aside0.mk (blk_below (g := g0) (o := .cells #[.int .i64 ((rd_T91 l0 x3_1).f0.f0), .int .i64 ((rd_T91 l0 x3_1).f0.f1), .int .i64 ((rd_T91 l0 x3_1).f0.f2), .int .i64 ((rd_T91 l0 x3_1).f0.f3), .int .i64 ((rd_T91 l0 x3_1).f1)] 91 (0, 0)) (by (with_reducible repeat (first | refine blk_drewN ?_ _ | refine blk_drew ?_ | refine blk_alloc ?_ _)); refine blk_put (cs := #[.int .i64 ((rd_T91 l0 x3_1).f0.f0), .int .i64 ((rd_T91 l0 x3_1).f0.f1), .int .i64 ((rd_T91 l0 x3_1).f0.f2), .int .i64 ((rd_T91 l0 x3_1).f0.f3), .int .i64 0]) ?_ 4 _ rfl; (with_reducible repeat (first | refine blk_drewN ?_ _ | refine blk_drew ?_ | refine blk_alloc ?_ _)); refine blk_put (cs := #[.int .i64 ((rd_T91 l0 x3_1).f0.f0), .int .i64 ((rd_T91 l0 x3_1).f0.f1), .int .i64 ((rd_T91 l0 x3_1).f0.f2), .int .i64 0, .int .i64 0]) ?_ 3 _ rfl; (with_reducible repeat (first | refine blk_drewN ?_ _ | refine blk_drew ?_ | refine blk_alloc ?_ _)); refine blk_put (cs := #[.int .i64 ((rd_T91 l0 x3_1).f0.f0), .int .i64 ((rd_T91 l0 x3_1).f0.f1), .int .i64 0, .int .i64 0, .int .i64 0]) ?_ 2 _ rfl; (with_reducible repeat (first | refine blk_drewN ?_ _ | refine blk_drew ?_ | refine blk_alloc ?_ _)); refine blk_put (cs := #[.int .i64 ((rd_T91 l0 x3_1).f0.f0), .int .i64 0, .int .i64 0, .int .i64 0, .int .i64 0]) ?_ 1 _ rfl; (with_reducible repeat (first | refine blk_drewN ?_ _ | refine blk_drew ?_ | refine blk_alloc ?_ _)); refine blk_put (cs := #[.int .i64 0, .int .i64 0, .int .i64 0, .int .i64 0, .int .i64 0]) ?_ 0 _ rfl; (with_reducible repeat (first | refine blk_drewN ?_ _ | refine blk_drew ?_ | refine blk_alloc ?_ _)); exact K0.out) hb); have n1_ := Aside0.mk (below_step (by repeat (first | (with_reducible first | exact HB.out | apply below_alloc | apply pw_below_drewN | apply below_drew1 | refine below_set ?_ E0.out) | exact HB.out)) hb); clear K0; clear HB; have K0 := n0_; have HB := n1_; clear n0_ n1_; (try clear hb); (try clear hb2); (try clear hk); (try clear hi)))
          go_ret
          exact ⟨by first | rfl | (simp [errW_none, errW_some] <;> rfl) | (simp [*, errW_none, errW_some] <;> rfl), by repeat (first | (with_reducible first | exact HB.out | apply below_alloc | apply pw_below_drewN | apply below_drew1 | refine below_set ?_ E0.out) | exact HB.out)⟩
     ·rw [if_neg c4] at H
      have c4b0 : (((rd_T91 l0 x3_1).f1) == (-1)) = false := beq_eq_false_iff_ne.mpr c4
      have c4b1 : (((rd_T91 l0 x3_1).f1) != (-1)) = true := bne_iff_ne.mpr c4
      by_cases c28 : ((rd_T91 l0 x3_1).f1) < 0
      ·rw [if_pos c28] at H
       have c28b0 : decide (((rd_T91 l0 x3_1).f1) < 0) = true := decide_eq_true c28
       clear c28
       obtain rfl := Option.some.inj H
       have p158 : 0 ≤ (x3_1 : Int) := of_decide_eq_true (by first | (with_reducible assumption) | assumption)
       have q158 : x3_1 < (l0.length : Int) := of_decide_eq_true (by first | (with_reducible assumption) | assumption)
       obtain ⟨ad158, e158, hx158_0, hx158_1, hx158_2, hx158_3, hx158_4⟩ := at_T91 HR0.out x3_1 p158 q158
       cases e158
       replace hx158_0 := (HB.out.cell (World.block_lt_of_cell? w _ hx158_0)).trans hx158_0
       replace hx158_1 := (HB.out.cell (World.block_lt_of_cell? w _ hx158_1)).trans hx158_1
       replace hx158_2 := (HB.out.cell (World.block_lt_of_cell? w _ hx158_2)).trans hx158_2
       replace hx158_3 := (HB.out.cell (World.block_lt_of_cell? w _ hx158_3)).trans hx158_3
       replace hx158_4 := (HB.out.cell (World.block_lt_of_cell? w _ hx158_4)).trans hx158_4
       replace p158 := eq_true p158
       replace q158 := eq_true q158
       go_wp2_with (first | ((with_reducible refine gate_dst (N := 4) rfl ?_); refine box_event ?hg (N := 4) ?hd (cs := #[.int .i64 0, .int .i64 0, .int .i64 0, .int .i64 0, .int .i64 0]) (t := 91) ?hr ?_; (case hd => rfl); (case hg => rfl); (case hr => first | (go_simp; done) | (go_simp; rfl)); intro g0 hg w29 hbox hb; have n0_ := Aside0.mk (below_step (by repeat (first | (with_reducible first | exact HB.out | apply below_alloc | apply pw_below_drewN | apply below_drew1) | exact HB.out)) hb); have n1_ := Aside0.mk (hbox); have n2_ := Aside0.mk ((by rw [hg]; exact (below_size (by repeat (first | (with_reducible first | exact HB.out | apply below_alloc | apply pw_below_drewN | apply below_drew1) | exact HB.out))) : w.heap.size ≤ g0)); have n3_ := Aside0.mk ((by rw [hg]; exact (below_size (by repeat (first | (with_reducible first | exact HB.out | apply below_alloc | apply pw_below_drewN | apply below_drew1) | exact HB.out))) : w.heap.size ≤ g0)); clear HB; have HB := n0_; have K0 := n1_; have G0 := n2_; have E0 := n3_; clear n0_ n1_ n2_ n3_; clear hb hbox hg; have hcz30_0 : w29.cell? ⟨g0, 0, none⟩ = some (.int .i64 0) := (blk_cell K0.out 0).trans rfl; have hcz30_1 : w29.cell? ⟨g0, 1, none⟩ = some (.int .i64 0) := (blk_cell K0.out 1).trans rfl; have hcz30_2 : w29.cell? ⟨g0, 2, none⟩ = some (.int .i64 0) := (blk_cell K0.out 2).trans rfl; have hcz30_3 : w29.cell? ⟨g0, 3, none⟩ = some (.int .i64 0) := (blk_cell K0.out 3).trans rfl; have hcz30_4 : w29.cell? ⟨g0, 4, none⟩ = some (.int .i64 0) := (blk_cell K0.out 4).trans rfl; have hfz30_0 := blk_frozen K0.out 0; have hfz30_1 := blk_frozen K0.out 1; have hfz30_2 := blk_frozen K0.out 2; have hfz30_3 := blk_frozen K0.out 3; have hfz30_4 := blk_frozen K0.out 4))
       go_ret
       exact ⟨by first | rfl | (simp [errW_none, errW_some] <;> rfl) | (simp [*, errW_none, errW_some] <;> rfl), by repeat (first | (with_reducible first | exact HB.out | apply below_alloc | apply pw_below_drewN | apply below_drew1 | refine below_set ?_ E0.out) | exact HB.out)⟩
      ·rw [if_neg c28] at H
       have c28b0 : decide (((rd_T91 l0 x3_1).f1) < 0) = false := decide_eq_false c28
       clear c28
       by_cases c31 : ((rd_T91 l0 x3_1).f1) > 1048576
       ·rw [if_pos c31] at H
        have c31b0 : decide (1048576 < ((rd_T91 l0 x3_1).f1)) = true := decide_eq_true c31
        clear c31
        obtain rfl := Option.some.inj H
        have p158 : 0 ≤ (x3_1 : Int) := of_decide_eq_true (by first | (with_reducible assumption) | assumption)
        have q158 : x3_1 < (l0.length : Int) := of_decide_eq_true (by first | (with_reducible assumption) | assumption)
        obtain ⟨ad158, e158, hx158_0, hx158_1, hx158_2, hx158_3, hx158_4⟩ := at_T91 HR0.out x3_1 p158 q158
        cases e158
        replace hx158_0 := (HB.out.cell (World.block_lt_of_cell? w _ hx158_0)).trans hx158_0
        replace hx158_1 := (HB.out.cell (World.block_lt_of_cell? w _ hx158_1)).trans hx158_1
        replace hx158_2 := (HB.out.cell (World.block_lt_of_cell? w _ hx158_2)).trans hx158_2
        replace hx158_3 := (HB.out.cell (World.block_lt_of_cell? w _ hx158_3)).trans hx158_3
        replace hx158_4 := (HB.out.cell (World.block_lt_of_cell? w _ hx158_4)).trans hx158_4
        replace p158 := eq_true p158
        replace q158 := eq_true q158
        go_wp2_with (first | ((with_reducible refine gate_dst (N := 4) rfl ?_); refine box_event ?hg (N := 4) ?hd (cs := #[.int .i64 0, .int .i64 0, .int .i64 0, .int .i64 0, .int .i64 0]) (t := 91) ?hr ?_; (case hd => rfl); (case hg => rfl); (case hr => first | (go_simp; done) | (go_simp; rfl)); intro g0 hg w32 hbox hb; have n0_ := Aside0.mk (below_step (by repeat (first | (with_reducible first | exact HB.out | apply below_alloc | apply pw_below_drewN | apply below_drew1) | exact HB.out)) hb); have n1_ := Aside0.mk (hbox); have n2_ := Aside0.mk ((by rw [hg]; exact (below_size (by repeat (first | (with_reducible first | exact HB.out | apply below_alloc | apply pw_below_drewN | apply below_drew1) | exact HB.out))) : w.heap.size ≤ g0)); have n3_ := Aside0.mk ((by rw [hg]; exact (below_size (by repeat (first | (with_reducible first | exact HB.out | apply below_alloc | apply pw_below_drewN | apply below_drew1) | exact HB.out))) : w.heap.size ≤ g0)); clear HB; have HB := n0_; have K0 := n1_; have G0 := n2_; have E0 := n3_; clear n0_ n1_ n2_ n3_; clear hb hbox hg; have hcz33_0 : w32.cell? ⟨g0, 0, none⟩ = some (.int .i64 0) := (blk_cell K0.out 0).trans rfl; have hcz33_1 : w32.cell? ⟨g0, 1, none⟩ = some (.int .i64 0) := (blk_cell K0.out 1).trans rfl; have hcz33_2 : w32.cell? ⟨g0, 2, none⟩ = some (.int .i64 0) := (blk_cell K0.out 2).trans rfl; have hcz33_3 : w32.cell? ⟨g0, 3, none⟩ = some (.int .i64 0) := (blk_cell K0.out 3).trans rfl; have hcz33_4 : w32.cell? ⟨g0, 4, none⟩ = some (.int .i64 0) := (blk_cell K0.out 4).trans rfl; have hfz33_0 := blk_frozen K0.out 0; have hfz33_1 := blk_frozen K0.out 1; have hfz33_2 := blk_frozen K0.out 2; have hfz33_3 := blk_frozen K0.out 3; have hfz33_4 := blk_frozen K0.out 4))
        go_ret
        exact ⟨by first | rfl | (simp [errW_none, errW_some] <;> rfl) | (simp [*, errW_none, errW_some] <;> rfl), by repeat (first | (with_reducible first | exact HB.out | apply below_alloc | apply pw_below_drewN | apply below_drew1 | refine below_set ?_ E0.out) | exact HB.out)⟩
       ·rw [if_neg c31] at H
        have c31b0 : decide (1048576 < ((rd_T91 l0 x3_1).f1)) = false := decide_eq_false c31
        clear c31
        replace H := Option.bind_eq_some_iff.mp H
        obtain ⟨t161, A340, H⟩ := H
        replace H : (if t161 = true then (if ((rd_T91 l0 x3_1).f0.f0) = x3_1 then (wharfageref10_ViewMay.l0 k1 l0 (wrap64 (x3_1 + 1))) else (some false)) else (some false)) = some r := H
        have A34 := Aside0.mk A340
        clear A340
        by_cases c35 : t161 = true
        ·subst c35
         have H1 : (if ((rd_T91 l0 x3_1).f0.f0) = x3_1 then (wharfageref10_ViewMay.l0 k1 l0 (wrap64 (x3_1 + 1))) else (some false)) = some r := by rw [if_pos rfl] at H; exact H
         clear H
         have H := H1
         clear H1
         by_cases c36 : ((rd_T91 l0 x3_1).f0.f0) = x3_1
         ·rw [if_pos c36] at H
          have c36b0 : (((rd_T91 l0 x3_1).f0.f0) == x3_1) = true := beq_iff_eq.mpr c36
          have c36b1 : (((rd_T91 l0 x3_1).f0.f0) != x3_1) = false := bne_eq_false_iff_eq.mpr c36
          clear c36
          have H' := Aside0.mk H
          clear H
          have p158 : 0 ≤ (x3_1 : Int) := of_decide_eq_true (by first | (with_reducible assumption) | assumption)
          have q158 : x3_1 < (l0.length : Int) := of_decide_eq_true (by first | (with_reducible assumption) | assumption)
          obtain ⟨ad158, e158, hx158_0, hx158_1, hx158_2, hx158_3, hx158_4⟩ := at_T91 HR0.out x3_1 p158 q158
          cases e158
          replace hx158_0 := (HB.out.cell (World.block_lt_of_cell? w _ hx158_0)).trans hx158_0
          replace hx158_1 := (HB.out.cell (World.block_lt_of_cell? w _ hx158_1)).trans hx158_1
          replace hx158_2 := (HB.out.cell (World.block_lt_of_cell? w _ hx158_2)).trans hx158_2
          replace hx158_3 := (HB.out.cell (World.block_lt_of_cell? w _ hx158_3)).trans hx158_3
          replace hx158_4 := (HB.out.cell (World.block_lt_of_cell? w _ hx158_4)).trans hx158_4
          replace p158 := eq_true p158
          replace q158 := eq_true q158
          go_wp2_with (first | ((with_reducible refine gate_dst (N := 4) rfl ?_); refine box_event ?hg (N := 4) ?hd (cs := #[.int .i64 0, .int .i64 0, .int .i64 0, .int .i64 0, .int .i64 0]) (t := 91) ?hr ?_; (case hd => rfl); (case hg => rfl); (case hr => first | (go_simp; done) | (go_simp; rfl)); intro g0 hg w37 hbox hb; have n0_ := Aside0.mk (below_step (by repeat (first | (with_reducible first | exact HB.out | apply below_alloc | apply pw_below_drewN | apply below_drew1) | exact HB.out)) hb); have n1_ := Aside0.mk (hbox); have n2_ := Aside0.mk ((by rw [hg]; exact (below_size (by repeat (first | (with_reducible first | exact HB.out | apply below_alloc | apply pw_below_drewN | apply below_drew1) | exact HB.out))) : w.heap.size ≤ g0)); have n3_ := Aside0.mk ((by rw [hg]; exact (below_size (by repeat (first | (with_reducible first | exact HB.out | apply below_alloc | apply pw_below_drewN | apply below_drew1) | exact HB.out))) : w.heap.size ≤ g0)); clear HB; have HB := n0_; have K0 := n1_; have G0 := n2_; have E0 := n3_; clear n0_ n1_ n2_ n3_; clear hb hbox hg; have hcz38_0 : w37.cell? ⟨g0, 0, none⟩ = some (.int .i64 0) := (blk_cell K0.out 0).trans rfl; have hcz38_1 : w37.cell? ⟨g0, 1, none⟩ = some (.int .i64 0) := (blk_cell K0.out 1).trans rfl; have hcz38_2 : w37.cell? ⟨g0, 2, none⟩ = some (.int .i64 0) := (blk_cell K0.out 2).trans rfl; have hcz38_3 : w37.cell? ⟨g0, 3, none⟩ = some (.int .i64 0) := (blk_cell K0.out 3).trans rfl; have hcz38_4 : w37.cell? ⟨g0, 4, none⟩ = some (.int .i64 0) := (blk_cell K0.out 4).trans rfl; have hfz38_0 := blk_frozen K0.out 0; have hfz38_1 := blk_frozen K0.out 1; have hfz38_2 := blk_frozen K0.out 2; have hfz38_3 := blk_frozen K0.out 3; have hfz38_4 := blk_frozen K0.out 4) | (go_at_call 53; (with_reducible refine (wharfageref1_ReportMay.calls ((rd_T91 l0 x3_1).f0.f0) ((rd_T91 l0 x3_1).f0.f1) ((rd_T91 l0 x3_1).f0.f2) ((rd_T91 l0 x3_1).f0.f3) true _ A34.out).mono ?_); rintro e w39 ⟨rfl, hb⟩; have n0_ := Aside0.mk (blk_below (g := g0) (o := .cells #[.int .i64 ((rd_T91 l0 x3_1).f0.f0), .int .i64 ((rd_T91 l0 x3_1).f0.f1), .int .i64 ((rd_T91 l0 x3_1).f0.f2), .int .i64 ((rd_T91 l0 x3_1).f0.f3), .int .i64 ((rd_T91 l0 x3_1).f1)] 91 (0, 0)) (by (with_reducible repeat (first | refine blk_drewN ?_ _ | refine blk_drew ?_ | refine blk_alloc ?_ _)); refine blk_put (cs := #[.int .i64 ((rd_T91 l0 x3_1).f0.f0), .int .i64 ((rd_T91 l0 x3_1).f0.f1), .int .i64 ((rd_T91 l0 x3_1).f0.f2), .int .i64 ((rd_T91 l0 x3_1).f0.f3), .int .i64 0]) ?_ 4 _ rfl; (with_reducible repeat (first | refine blk_drewN ?_ _ | refine blk_drew ?_ | refine blk_alloc ?_ _)); refine blk_put (cs := #[.int .i64 ((rd_T91 l0 x3_1).f0.f0), .int .i64 ((rd_T91 l0 x3_1).f0.f1), .int .i64 ((rd_T91 l0 x3_1).f0.f2), .int .i64 0, .int .i64 0]) ?_ 3 _ rfl; (with_reducible repeat (first | refine blk_drewN ?_ _ | refine blk_drew ?_ | refine blk_alloc ?_ _)); refine blk_put (cs := #[.int .i64 ((rd_T91 l0 x3_1).f0.f0), .int .i64 ((rd_T91 l0 x3_1).f0.f1), .int .i64 0, .int .i64 0, .int .i64 0]) ?_ 2 _ rfl; (with_reducible repeat (first | refine blk_drewN ?_ _ | refine blk_drew ?_ | refine blk_alloc ?_ _)); refine blk_put (cs := #[.int .i64 ((rd_T91 l0 x3_1).f0.f0), .int .i64 0, .int .i64 0, .int .i64 0, .int .i64 0]) ?_ 1 _ rfl; (with_reducible repeat (first | refine blk_drewN ?_ _ | refine blk_drew ?_ | refine blk_alloc ?_ _)); refine blk_put (cs := #[.int .i64 0, .int .i64 0, .int .i64 0, .int .i64 0, .int .i64 0]) ?_ 0 _ rfl; (with_reducible repeat (first | refine blk_drewN ?_ _ | refine blk_drew ?_ | refine blk_alloc ?_ _)); exact K0.out) hb); have n1_ := Aside0.mk (below_step (by repeat (first | (with_reducible first | exact HB.out | apply below_alloc | apply pw_below_drewN | apply below_drew1 | refine below_set ?_ E0.out) | exact HB.out)) hb); clear K0; clear HB; have K0 := n0_; have HB := n1_; clear n0_ n1_; (try clear hb); (try clear hb2); (try clear hk); (try clear hi); have hcz40_0 : w39.cell? ⟨g0, 0, none⟩ = some (.int .i64 ((rd_T91 l0 x3_1).f0.f0)) := (blk_cell K0.out 0).trans rfl; have hcz40_1 : w39.cell? ⟨g0, 1, none⟩ = some (.int .i64 ((rd_T91 l0 x3_1).f0.f1)) := (blk_cell K0.out 1).trans rfl; have hcz40_2 : w39.cell? ⟨g0, 2, none⟩ = some (.int .i64 ((rd_T91 l0 x3_1).f0.f2)) := (blk_cell K0.out 2).trans rfl; have hcz40_3 : w39.cell? ⟨g0, 3, none⟩ = some (.int .i64 ((rd_T91 l0 x3_1).f0.f3)) := (blk_cell K0.out 3).trans rfl; have hcz40_4 : w39.cell? ⟨g0, 4, none⟩ = some (.int .i64 ((rd_T91 l0 x3_1).f1)) := (blk_cell K0.out 4).trans rfl; have hfz40_0 := blk_frozen K0.out 0; have hfz40_1 := blk_frozen K0.out 1; have hfz40_2 := blk_frozen K0.out 2; have hfz40_3 := blk_frozen K0.out 3; have hfz40_4 := blk_frozen K0.out 4))
          go_roundg k1
          case measure => have := HK1.out; omega
          case rel => exact ⟨(wrap64 (x3_1 + 1)), (by first | rfl | (simp; done) | (simp [*]; done)), H', ⟨by have := HK1.out; omega⟩, ⟨by repeat (first | (with_reducible first | exact HB.out | apply below_alloc | apply pw_below_drewN | apply below_drew1 | refine below_set ?_ E0.out) | exact HB.out)⟩⟩
         ·rw [if_neg c36] at H
          have c36b0 : (((rd_T91 l0 x3_1).f0.f0) == x3_1) = false := beq_eq_false_iff_ne.mpr c36
          have c36b1 : (((rd_T91 l0 x3_1).f0.f0) != x3_1) = true := bne_iff_ne.mpr c36
          obtain rfl := Option.some.inj H
          have p158 : 0 ≤ (x3_1 : Int) := of_decide_eq_true (by first | (with_reducible assumption) | assumption)
          have q158 : x3_1 < (l0.length : Int) := of_decide_eq_true (by first | (with_reducible assumption) | assumption)
          obtain ⟨ad158, e158, hx158_0, hx158_1, hx158_2, hx158_3, hx158_4⟩ := at_T91 HR0.out x3_1 p158 q158
          cases e158
          replace hx158_0 := (HB.out.cell (World.block_lt_of_cell? w _ hx158_0)).trans hx158_0
          replace hx158_1 := (HB.out.cell (World.block_lt_of_cell? w _ hx158_1)).trans hx158_1
          replace hx158_2 := (HB.out.cell (World.block_lt_of_cell? w _ hx158_2)).trans hx158_2
          replace hx158_3 := (HB.out.cell (World.block_lt_of_cell? w _ hx158_3)).trans hx158_3
          replace hx158_4 := (HB.out.cell (World.block_lt_of_cell? w _ hx158_4)).trans hx158_4
          replace p158 := eq_true p158
          replace q158 := eq_true q158
          go_wp2_with (first | ((with_reducible refine gate_dst (N := 4) rfl ?_); refine box_event ?hg (N := 4) ?hd (cs := #[.int .i64 0, .int .i64 0, .int .i64 0, .int .i64 0, .int .i64 0]) (t := 91) ?hr ?_; (case hd => rfl); (case hg => rfl); (case hr => first | (go_simp; done) | (go_simp; rfl)); intro g0 hg w41 hbox hb; have n0_ := Aside0.mk (below_step (by repeat (first | (with_reducible first | exact HB.out | apply below_alloc | apply pw_below_drewN | apply below_drew1) | exact HB.out)) hb); have n1_ := Aside0.mk (hbox); have n2_ := Aside0.mk ((by rw [hg]; exact (below_size (by repeat (first | (with_reducible first | exact HB.out | apply below_alloc | apply pw_below_drewN | apply below_drew1) | exact HB.out))) : w.heap.size ≤ g0)); have n3_ := Aside0.mk ((by rw [hg]; exact (below_size (by repeat (first | (with_reducible first | exact HB.out | apply below_alloc | apply pw_below_drewN | apply below_drew1) | exact HB.out))) : w.heap.size ≤ g0)); clear HB; have HB := n0_; have K0 := n1_; have G0 := n2_; have E0 := n3_; clear n0_ n1_ n2_ n3_; clear hb hbox hg; have hcz42_0 : w41.cell? ⟨g0, 0, none⟩ = some (.int .i64 0) := (blk_cell K0.out 0).trans rfl; have hcz42_1 : w41.cell? ⟨g0, 1, none⟩ = some (.int .i64 0) := (blk_cell K0.out 1).trans rfl; have hcz42_2 : w41.cell? ⟨g0, 2, none⟩ = some (.int .i64 0) := (blk_cell K0.out 2).trans rfl; have hcz42_3 : w41.cell? ⟨g0, 3, none⟩ = some (.int .i64 0) := (blk_cell K0.out 3).trans rfl; have hcz42_4 : w41.cell? ⟨g0, 4, none⟩ = some (.int .i64 0) := (blk_cell K0.out 4).trans rfl; have hfz42_0 := blk_frozen K0.out 0; have hfz42_1 := blk_frozen K0.out 1; have hfz42_2 := blk_frozen K0.out 2; have hfz42_3 := blk_frozen K0.out 3; have hfz42_4 := blk_frozen K0.out 4) | (go_at_call 53; (with_reducible refine (wharfageref1_ReportMay.calls ((rd_T91 l0 x3_1).f0.f0) ((rd_T91 l0 x3_1).f0.f1) ((rd_T91 l0 x3_1).f0.f2) ((rd_T91 l0 x3_1).f0.f3) true _ A34.out).mono ?_); rintro e w43 ⟨rfl, hb⟩; have n0_ := Aside0.mk (blk_below (g := g0) (o := .cells #[.int .i64 ((rd_T91 l0 x3_1).f0.f0), .int .i64 ((rd_T91 l0 x3_1).f0.f1), .int .i64 ((rd_T91 l0 x3_1).f0.f2), .int .i64 ((rd_T91 l0 x3_1).f0.f3), .int .i64 ((rd_T91 l0 x3_1).f1)] 91 (0, 0)) (by (with_reducible repeat (first | refine blk_drewN ?_ _ | refine blk_drew ?_ | refine blk_alloc ?_ _)); refine blk_put (cs := #[.int .i64 ((rd_T91 l0 x3_1).f0.f0), .int .i64 ((rd_T91 l0 x3_1).f0.f1), .int .i64 ((rd_T91 l0 x3_1).f0.f2), .int .i64 ((rd_T91 l0 x3_1).f0.f3), .int .i64 0]) ?_ 4 _ rfl; (with_reducible repeat (first | refine blk_drewN ?_ _ | refine blk_drew ?_ | refine blk_alloc ?_ _)); refine blk_put (cs := #[.int .i64 ((rd_T91 l0 x3_1).f0.f0), .int .i64 ((rd_T91 l0 x3_1).f0.f1), .int .i64 ((rd_T91 l0 x3_1).f0.f2), .int .i64 0, .int .i64 0]) ?_ 3 _ rfl; (with_reducible repeat (first | refine blk_drewN ?_ _ | refine blk_drew ?_ | refine blk_alloc ?_ _)); refine blk_put (cs := #[.int .i64 ((rd_T91 l0 x3_1).f0.f0), .int .i64 ((rd_T91 l0 x3_1).f0.f1), .int .i64 0, .int .i64 0, .int .i64 0]) ?_ 2 _ rfl; (with_reducible repeat (first | refine blk_drewN ?_ _ | refine blk_drew ?_ | refine blk_alloc ?_ _)); refine blk_put (cs := #[.int .i64 ((rd_T91 l0 x3_1).f0.f0), .int .i64 0, .int .i64 0, .int .i64 0, .int .i64 0]) ?_ 1 _ rfl; (with_reducible repeat (first | refine blk_drewN ?_ _ | refine blk_drew ?_ | refine blk_alloc ?_ _)); refine blk_put (cs := #[.int .i64 0, .int .i64 0, .int .i64 0, .int .i64 0, .int .i64 0]) ?_ 0 _ rfl; (with_reducible repeat (first | refine blk_drewN ?_ _ | refine blk_drew ?_ | refine blk_alloc ?_ _)); exact K0.out) hb); have n1_ := Aside0.mk (below_step (by repeat (first | (with_reducible first | exact HB.out | apply below_alloc | apply pw_below_drewN | apply below_drew1 | refine below_set ?_ E0.out) | exact HB.out)) hb); clear K0; clear HB; have K0 := n0_; have HB := n1_; clear n0_ n1_; (try clear hb); (try clear hb2); (try clear hk); (try clear hi); have hcz44_0 : w43.cell? ⟨g0, 0, none⟩ = some (.int .i64 ((rd_T91 l0 x3_1).f0.f0)) := (blk_cell K0.out 0).trans rfl; have hcz44_1 : w43.cell? ⟨g0, 1, none⟩ = some (.int .i64 ((rd_T91 l0 x3_1).f0.f1)) := (blk_cell K0.out 1).trans rfl; have hcz44_2 : w43.cell? ⟨g0, 2, none⟩ = some (.int .i64 ((rd_T91 l0 x3_1).f0.f2)) := (blk_cell K0.out 2).trans rfl; have hcz44_3 : w43.cell? ⟨g0, 3, none⟩ = some (.int .i64 ((rd_T91 l0 x3_1).f0.f3)) := (blk_cell K0.out 3).trans rfl; have hcz44_4 : w43.cell? ⟨g0, 4, none⟩ = some (.int .i64 ((rd_T91 l0 x3_1).f1)) := (blk_cell K0.out 4).trans rfl; have hfz44_0 := blk_frozen K0.out 0; have hfz44_1 := blk_frozen K0.out 1; have hfz44_2 := blk_frozen K0.out 2; have hfz44_3 := blk_frozen K0.out 3; have hfz44_4 := blk_frozen K0.out 4))
          go_ret
          exact ⟨by first | rfl | (simp [errW_none, errW_some] <;> rfl) | (simp [*, errW_none, errW_some] <;> rfl), by repeat (first | (with_reducible first | exact HB.out | apply below_alloc | apply pw_below_drewN | apply below_drew1 | refine below_set ?_ E0.out) | exact HB.out)⟩
        ·replace c35 := Bool.eq_false_iff.mpr c35
         subst c35
         have H1 : (some false) = some r := by rw [if_neg (show ¬ (false = true) by decide)] at H; exact H
         clear H
         have H := H1
         clear H1
         obtain rfl := Option.some.inj H
         have p158 : 0 ≤ (x3_1 : Int) := of_decide_eq_true (by first | (with_reducible assumption) | assumption)
         have q158 : x3_1 < (l0.length : Int) := of_decide_eq_true (by first | (with_reducible assumption) | assumption)
         obtain ⟨ad158, e158, hx158_0, hx158_1, hx158_2, hx158_3, hx158_4⟩ := at_T91 HR0.out x3_1 p158 q158
         cases e158
         replace hx158_0 := (HB.out.cell (World.block_lt_of_cell? w _ hx158_0)).trans hx158_0
         replace hx158_1 := (HB.out.cell (World.block_lt_of_cell? w _ hx158_1)).trans hx158_1
         replace hx158_2 := (HB.out.cell (World.block_lt_of_cell? w _ hx158_2)).trans hx158_2
         replace hx158_3 := (HB.out.cell (World.block_lt_of_cell? w _ hx158_3)).trans hx158_3
         replace hx158_4 := (HB.out.cell (World.block_lt_of_cell? w _ hx158_4)).trans hx158_4
         replace p158 := eq_true p158
         replace q158 := eq_true q158
         go_wp2_with (first | ((with_reducible refine gate_dst (N := 4) rfl ?_); refine box_event ?hg (N := 4) ?hd (cs := #[.int .i64 0, .int .i64 0, .int .i64 0, .int .i64 0, .int .i64 0]) (t := 91) ?hr ?_; (case hd => rfl); (case hg => rfl); (case hr => first | (go_simp; done) | (go_simp; rfl)); intro g0 hg w45 hbox hb; have n0_ := Aside0.mk (below_step (by repeat (first | (with_reducible first | exact HB.out | apply below_alloc | apply pw_below_drewN | apply below_drew1) | exact HB.out)) hb); have n1_ := Aside0.mk (hbox); have n2_ := Aside0.mk ((by rw [hg]; exact (below_size (by repeat (first | (with_reducible first | exact HB.out | apply below_alloc | apply pw_below_drewN | apply below_drew1) | exact HB.out))) : w.heap.size ≤ g0)); have n3_ := Aside0.mk ((by rw [hg]; exact (below_size (by repeat (first | (with_reducible first | exact HB.out | apply below_alloc | apply pw_below_drewN | apply below_drew1) | exact HB.out))) : w.heap.size ≤ g0)); clear HB; have HB := n0_; have K0 := n1_; have G0 := n2_; have E0 := n3_; clear n0_ n1_ n2_ n3_; clear hb hbox hg; have hcz46_0 : w45.cell? ⟨g0, 0, none⟩ = some (.int .i64 0) := (blk_cell K0.out 0).trans rfl; have hcz46_1 : w45.cell? ⟨g0, 1, none⟩ = some (.int .i64 0) := (blk_cell K0.out 1).trans rfl; have hcz46_2 : w45.cell? ⟨g0, 2, none⟩ = some (.int .i64 0) := (blk_cell K0.out 2).trans rfl; have hcz46_3 : w45.cell? ⟨g0, 3, none⟩ = some (.int .i64 0) := (blk_cell K0.out 3).trans rfl; have hcz46_4 : w45.cell? ⟨g0, 4, none⟩ = some (.int .i64 0) := (blk_cell K0.out 4).trans rfl; have hfz46_0 := blk_frozen K0.out 0; have hfz46_1 := blk_frozen K0.out 1; have hfz46_2 := blk_frozen K0.out 2; have hfz46_3 := blk_frozen K0.out 3; have hfz46_4 := blk_frozen K0.out 4) | (go_at_call 53; (with_reducible refine (wharfageref1_ReportMay.calls ((rd_T91 l0 x3_1).f0.f0) ((rd_T91 l0 x3_1).f0.f1) ((rd_T91 l0 x3_1).f0.f2) ((rd_T91 l0 x3_1).f0.f3) false _ A34.out).mono ?_); rintro e w47 ⟨rfl, hb⟩; have n0_ := Aside0.mk (blk_below (g := g0) (o := .cells #[.int .i64 ((rd_T91 l0 x3_1).f0.f0), .int .i64 ((rd_T91 l0 x3_1).f0.f1), .int .i64 ((rd_T91 l0 x3_1).f0.f2), .int .i64 ((rd_T91 l0 x3_1).f0.f3), .int .i64 ((rd_T91 l0 x3_1).f1)] 91 (0, 0)) (by (with_reducible repeat (first | refine blk_drewN ?_ _ | refine blk_drew ?_ | refine blk_alloc ?_ _)); refine blk_put (cs := #[.int .i64 ((rd_T91 l0 x3_1).f0.f0), .int .i64 ((rd_T91 l0 x3_1).f0.f1), .int .i64 ((rd_T91 l0 x3_1).f0.f2), .int .i64 ((rd_T91 l0 x3_1).f0.f3), .int .i64 0]) ?_ 4 _ rfl; (with_reducible repeat (first | refine blk_drewN ?_ _ | refine blk_drew ?_ | refine blk_alloc ?_ _)); refine blk_put (cs := #[.int .i64 ((rd_T91 l0 x3_1).f0.f0), .int .i64 ((rd_T91 l0 x3_1).f0.f1), .int .i64 ((rd_T91 l0 x3_1).f0.f2), .int .i64 0, .int .i64 0]) ?_ 3 _ rfl; (with_reducible repeat (first | refine blk_drewN ?_ _ | refine blk_drew ?_ | refine blk_alloc ?_ _)); refine blk_put (cs := #[.int .i64 ((rd_T91 l0 x3_1).f0.f0), .int .i64 ((rd_T91 l0 x3_1).f0.f1), .int .i64 0, .int .i64 0, .int .i64 0]) ?_ 2 _ rfl; (with_reducible repeat (first | refine blk_drewN ?_ _ | refine blk_drew ?_ | refine blk_alloc ?_ _)); refine blk_put (cs := #[.int .i64 ((rd_T91 l0 x3_1).f0.f0), .int .i64 0, .int .i64 0, .int .i64 0, .int .i64 0]) ?_ 1 _ rfl; (with_reducible repeat (first | refine blk_drewN ?_ _ | refine blk_drew ?_ | refine blk_alloc ?_ _)); refine blk_put (cs := #[.int .i64 0, .int .i64 0, .int .i64 0, .int .i64 0, .int .i64 0]) ?_ 0 _ rfl; (with_reducible repeat (first | refine blk_drewN ?_ _ | refine blk_drew ?_ | refine blk_alloc ?_ _)); exact K0.out) hb); have n1_ := Aside0.mk (below_step (by repeat (first | (with_reducible first | exact HB.out | apply below_alloc | apply pw_below_drewN | apply below_drew1 | refine below_set ?_ E0.out) | exact HB.out)) hb); clear K0; clear HB; have K0 := n0_; have HB := n1_; clear n0_ n1_; (try clear hb); (try clear hb2); (try clear hk); (try clear hi)))
         go_ret
         exact ⟨by first | rfl | (simp [errW_none, errW_some] <;> rfl) | (simp [*, errW_none, errW_some] <;> rfl), by repeat (first | (with_reducible first | exact HB.out | apply below_alloc | apply pw_below_drewN | apply below_drew1 | refine below_set ?_ E0.out) | exact HB.out)⟩
    ·rw [if_neg c3] at H
     exact absurd H (by simp)
   ·rw [if_neg c2] at H
    have c2b0 : decide (x3_1 < (l0.length : Int)) = false := decide_eq_false c2
    clear c2
    obtain rfl := Option.some.inj H
    go_wp2
    go_ret
    exact ⟨by first | rfl | (simp [errW_none, errW_some] <;> rfl) | (simp [*, errW_none, errW_some] <;> rfl), by repeat (first | (with_reducible first | exact HB.out | apply below_alloc | apply pw_below_drewN | apply below_drew1) | exact HB.out)⟩

end Go.Proofs.Ytlapbhgkmmeeoaa.PSpares
end
section
/- Contracts: what calls of these functions of the program do, each as a plain function; written by a program of this session. -/
namespace Go.Proofs.Ytlapbhgkmmeeoaa.PSpares
open Go.RowKit Go.Proofs.YtlapbhgkmmeeoaaW.PrintWords Go.Proofs.YtlapbhgkmmeeoaaW.PrintLast Go.Proofs.YtlapbhgkmmeeoaaW.PrintMore
attribute [local go_sem] max2_int min2_int max_two min_two max_three min_three max_four min_four   -- for this text's walks alone
set_option linter.unusedVariables false
set_option linter.unusedSimpArgs false

theorem eqA48 (d : Nat) (w : World) (x0 y0 : Int) (x1 y1 : Int) (x2 y2 : Int) (x3 y3 : Int) (x4 y4 : Int) :
  (Op.equalIn (d + 2) 48 (.agg #[.int .i64 x0, .int .i64 x1, .int .i64 x2, .int .i64 x3, .int .i64 x4]) (.agg #[.int .i64 y0, .int .i64 y1, .int .i64 y2, .int .i64 y3, .int .i64 y4])).run Try.prog w = .ok (x0 == y0 && (x1 == y1 && (x2 == y2 && (x3 == y3 && (x4 == y4))))) w := by
 refine eqA_of Try.underlying48 (by kernel_rfl) ?_
 refine eqf_cons (by rfl) (by go_simp; rfl) (by go_simp; rfl) (by go_simp) ?_
 refine eqf_cons (by rfl) (by go_simp; rfl) (by go_simp; rfl) (by go_simp) ?_
 refine eqf_cons (by rfl) (by go_simp; rfl) (by go_simp; rfl) (by go_simp) ?_
 refine eqf_cons (by rfl) (by go_simp; rfl) (by go_simp; rfl) (by go_simp) ?_
 exact eqf_last (by rfl) (by go_simp; rfl) (by go_simp; rfl) (by go_simp)
end Go.Proofs.Ytlapbhgkmmeeoaa.PSpares
end
section
/- Contracts: what calls of these functions of the program do, each as a plain function; written by a program of this session. -/
namespace Go.Proofs.Ytlapbhgkmmeeoaa.PSpares
open Go.RowKit Go.Proofs.YtlapbhgkmmeeoaaW.PrintWords Go.Proofs.YtlapbhgkmmeeoaaW.PrintLast Go.Proofs.YtlapbhgkmmeeoaaW.PrintMore
attribute [local go_sem] max2_int min2_int max_two min_two max_three min_three max_four min_four   -- for this text's walks alone
set_option linter.unusedVariables false
set_option linter.unusedSimpArgs false

/-! ### wharfageref10_nowMay: function 26 -/
def wharfageref10_nowMay.f (a0 : Int) : Option (Bool) := if a0 ≥ 0 then (some (decide (a0 ≤ 1048576))) else (some false)
set_option maxHeartbeats 8000000 in
set_option maxRecDepth 100000 in
theorem wharfageref10_nowMay.calls (a0 : Int) (r : Bool) (w : World) (h : wharfageref10_nowMay.f a0 = some r) :
  Calls Try.prog 26 #[.int .i64 a0] w fun e w' => e = .returned (.bool r) ∧ Drawn0 w w' := by
 have H : (if a0 ≥ 0 then (some (decide (a0 ≤ 1048576))) else (some false)) = some r := h
 clear h
 by_cases c2 : a0 ≥ 0
 ·rw [if_pos c2] at H
  have c2b0 : decide (0 ≤ a0) = true := decide_eq_true c2
  clear c2
  obtain rfl := Option.some.inj H
  go_enter Try.func26, Try.ntmps26
  go_wp2
  go_ret
  exact ⟨by first | rfl | (simp; done) | (simp [*]; done), by repeat (first | exact Drawn0.refl _ | apply Drawn0.step)⟩
 ·rw [if_neg c2] at H
  have c2b0 : decide (0 ≤ a0) = false := decide_eq_false c2
  clear c2
  obtain rfl := Option.some.inj H
  go_enter Try.func26, Try.ntmps26
  go_wp2
  go_ret
  exact ⟨by first | rfl | (simp; done) | (simp [*]; done), by repeat (first | exact Drawn0.refl _ | apply Drawn0.step)⟩

end Go.Proofs.Ytlapbhgkmmeeoaa.PSpares
end
section
/- Contracts: what calls of these functions of the program do, each as a plain function; written by a program of this session. -/
namespace Go.Proofs.Ytlapbhgkmmeeoaa.PSpares
open Go.RowKit Go.Proofs.YtlapbhgkmmeeoaaW.PrintWords Go.Proofs.YtlapbhgkmmeeoaaW.PrintLast Go.Proofs.YtlapbhgkmmeeoaaW.PrintMore
attribute [local go_sem] max2_int min2_int max_two min_two max_three min_three max_four min_four   -- for this text's walks alone
set_option linter.unusedVariables false
set_option linter.unusedSimpArgs false

/-! ### wharfageref1_FlowMay: function 63 -/
def wharfageref1_FlowMay.f (a0_0 : Int) (a0_1 : Int) (a0_2 : Int) (a0_3 : Int) (a0_4 : Int) : Option (Bool) := (wharfageref1_within.f a0_0 32).bind fun t163 => (if t163 = true then ((wharfageref1_within.f a0_1 32).bind fun t164 => (if t164 = true then (if a0_2 = 6 then ((wharfageref1_within.f a0_3 16).bind fun t165 => (if t165 = true then ((wharfageref1_within.f a0_4 16).bind fun t166 => (some t166)) else (some false))) else (if a0_2 = 17 then ((wharfageref1_within.f a0_3 16).bind fun t167 => (if t167 = true then ((wharfageref1_within.f a0_4 16).bind fun t168 => (some t168)) else (some false))) else (some false))) else (some false))) else (some false))
set_option maxHeartbeats 8000000 in
set_option maxRecDepth 100000 in
theorem wharfageref1_FlowMay.calls (a0_0 : Int) (a0_1 : Int) (a0_2 : Int) (a0_3 : Int) (a0_4 : Int) (r : Bool) (w : World) (h : wharfageref1_FlowMay.f a0_0 a0_1 a0_2 a0_3 a0_4 = some r) :
  Calls Try.prog 63 #[.agg #[.int .i64 a0_0, .int .i64 a0_1, .int .i64 a0_2, .int .i64 a0_3, .int .i64 a0_4]] w fun e w' => e = .returned (.bool r) ∧ Below w.heap.size w w' := by
 have hu48 := Try.underlying48
 have HB := Aside0.mk (Below.refl w.heap.size w)
 have H : ((wharfageref1_within.f a0_0 32).bind fun t163 => (if t163 = true then ((wharfageref1_within.f a0_1 32).bind fun t164 => (if t164 = true then (if a0_2 = 6 then ((wharfageref1_within.f a0_3 16).bind fun t165 => (if t165 = true then ((wharfageref1_within.f a0_4 16).bind fun t166 => (some t166)) else (some false))) else (if a0_2 = 17 then ((wharfageref1_within.f a0_3 16).bind fun t167 => (if t167 = true then ((wharfageref1_within.f a0_4 16).bind fun t168 => (some t168)) else (some false))) else (some false))) else (some false))) else (some false))) = some r := h
 clear h
 replace H := Option.bind_eq_some_iff.mp H
 obtain ⟨t163, A20, H⟩ := H
 replace H : (if t163 = true then ((wharfageref1_within.f a0_1 32).bind fun t164 => (if t164 = true then (if a0_2 = 6 then ((wharfageref1_within.f a0_3 16).bind fun t165 => (if t165 = true then ((wharfageref1_within.f a0_4 16).bind fun t166 => (some t166)) else (some false))) else (if a0_2 = 17 then ((wharfageref1_within.f a0_3 16).bind fun t167 => (if t167 = true then ((wharfageref1_within.f a0_4 16).bind fun t168 => (some t168)) else (some false))) else (some false))) else (some false))) else (some false)) = some r := H
 have A2 := Aside0.mk A20
 clear A20
 by_cases c3 : t163 = true
 ·subst c3
  have H1 : ((wharfageref1_within.f a0_1 32).bind fun t164 => (if t164 = true then (if a0_2 = 6 then ((wharfageref1_within.f a0_3 16).bind fun t165 => (if t165 = true then ((wharfageref1_within.f a0_4 16).bind fun t166 => (some t166)) else (some false))) else (if a0_2 = 17 then ((wharfageref1_within.f a0_3 16).bind fun t167 => (if t167 = true then ((wharfageref1_within.f a0_4 16).bind fun t168 => (some t168)) else (some false))) else (some false))) else (some false))) = some r := by rw [if_pos rfl] at H; exact H
  clear H
  have H := H1
  clear H1
  replace H := Option.bind_eq_some_iff.mp H
  obtain ⟨t164, A40, H⟩ := H
  replace H : (if t164 = true then (if a0_2 = 6 then ((wharfageref1_within.f a0_3 16).bind fun t165 => (if t165 = true then ((wharfageref1_within.f a0_4 16).bind fun t166 => (some t166)) else (some false))) else (if a0_2 = 17 then ((wharfageref1_within.f a0_3 16).bind fun t167 => (if t167 = true then ((wharfageref1_within.f a0_4 16).bind fun t168 => (some t168)) else (some false))) else (some false))) else (some false)) = some r := H
  have A4 := Aside0.mk A40
  clear A40
  by_cases c5 : t164 = true
  ·subst c5
   have H1 : (if a0_2 = 6 then ((wharfageref1_within.f a0_3 16).bind fun t165 => (if t165 = true then ((wharfageref1_within.f a0_4 16).bind fun t166 => (some t166)) else (some false))) else (if a0_2 = 17 then ((wharfageref1_within.f a0_3 16).bind fun t167 => (if t167 = true then ((wharfageref1_within.f a0_4 16).bind fun t168 => (some t168)) else (some false))) else (some false))) = some r := by rw [if_pos rfl] at H; exact H
   clear H
   have H := H1
   clear H1
   by_cases c6 : a0_2 = 6
   ·rw [if_pos c6] at H
    have c6b0 : (a0_2 == 6) = true := beq_iff_eq.mpr c6
    have c6b1 : (a0_2 != 6) = false := bne_eq_false_iff_eq.mpr c6
    clear c6
    replace H := Option.bind_eq_some_iff.mp H
    obtain ⟨t165, A70, H⟩ := H
    replace H : (if t165 = true then ((wharfageref1_within.f a0_4 16).bind fun t166 => (some t166)) else (some false)) = some r := H
    have A7 := Aside0.mk A70
    clear A70
    by_cases c8 : t165 = true
    ·subst c8
     have H1 : ((wharfageref1_within.f a0_4 16).bind fun t166 => (some t166)) = some r := by rw [if_pos rfl] at H; exact H
     clear H
     have H := H1
     clear H1
     replace H := Option.bind_eq_some_iff.mp H
     obtain ⟨t166, A90, H⟩ := H
     replace H : (some t166) = some r := H
     have A9 := Aside0.mk A90
     clear A90
     obtain rfl := Option.some.inj H
     go_enter Try.func63, Try.ntmps63
     go_wp2_with (first | ((with_reducible refine gate_dst (N := 1) rfl ?_); refine box_event ?hg (N := 1) ?hd (cs := #[.int .i64 a0_0, .int .i64 a0_1, .int .i64 a0_2, .int .i64 a0_3, .int .i64 a0_4]) (t := 48) ?hr ?_; (case hd => rfl); (case hg => rfl); (case hr => first | (go_simp; done) | (go_simp; rfl)); intro g0 hg w10 hbox hb; have n0_ := Aside0.mk (below_step (by repeat (first | (with_reducible first | exact HB.out | apply below_alloc | apply pw_below_drewN | apply below_drew1) | exact HB.out)) hb); have n1_ := Aside0.mk (hbox); have n2_ := Aside0.mk ((by rw [hg]; exact (below_size (by repeat (first | (with_reducible first | exact HB.out | apply below_alloc | apply pw_below_drewN | apply below_drew1) | exact HB.out))) : w.heap.size ≤ g0)); have n3_ := Aside0.mk ((by rw [hg]; exact (below_size (by repeat (first | (with_reducible first | exact HB.out | apply below_alloc | apply pw_below_drewN | apply below_drew1) | exact HB.out))) : w.heap.size ≤ g0)); clear HB; have HB := n0_; have K0 := n1_; have G0 := n2_; have E0 := n3_; clear n0_ n1_ n2_ n3_; clear hb hbox hg; have hcz11_0 : w10.cell? ⟨g0, 0, none⟩ = some (.int .i64 a0_0) := (blk_cell K0.out 0).trans rfl; have hcz11_1 : w10.cell? ⟨g0, 1, none⟩ = some (.int .i64 a0_1) := (blk_cell K0.out 1).trans rfl; have hcz11_2 : w10.cell? ⟨g0, 2, none⟩ = some (.int .i64 a0_2) := (blk_cell K0.out 2).trans rfl; have hcz11_3 : w10.cell? ⟨g0, 3, none⟩ = some (.int .i64 a0_3) := (blk_cell K0.out 3).trans rfl; have hcz11_4 : w10.cell? ⟨g0, 4, none⟩ = some (.int .i64 a0_4) := (blk_cell K0.out 4).trans rfl; have hfz11_0 := blk_frozen K0.out 0; have hfz11_1 := blk_frozen K0.out 1; have hfz11_2 := blk_frozen K0.out 2; have hfz11_3 := blk_frozen K0.out 3; have hfz11_4 := blk_frozen K0.out 4) | ((with_reducible refine gate_callee (f := 62) rfl ?_); refine goesL_ (some 5) rfl rfl Try.func62 (by kernel_rfl) rfl #[.int .i64 a0_0, .int .i64 32] rfl (by (try simp only [List.map_toArray, List.map_cons, List.map_nil]); first | done | rfl | (simp only [List.length_drop, List.length_take]; rfl)) ?_; (with_reducible refine (wharfageref1_within.calls a0_0 32 true _ A2.out).mono ?_); rintro e w' ⟨rfl, ⟨nd, rfl⟩⟩; refine ⟨_, rfl, ?_⟩) | (go_at_call 62; (with_reducible refine (wharfageref1_within.calls a0_1 32 true _ A4.out).mono ?_); rintro e w' ⟨rfl, ⟨nd, rfl⟩⟩) | (go_at_call 62; (with_reducible refine (wharfageref1_within.calls a0_3 16 true _ A7.out).mono ?_); rintro e w' ⟨rfl, ⟨nd, rfl⟩⟩) | (go_at_call 62; (with_reducible refine (wharfageref1_within.calls a0_4 16 t166 _ A9.out).mono ?_); rintro e w' ⟨rfl, ⟨nd, rfl⟩⟩))
     go_ret
     exact ⟨by first | rfl | (simp [errW_none, errW_some] <;> rfl) | (simp [*, errW_none, errW_some] <;> rfl), by repeat (first | (with_reducible first | exact HB.out | apply below_alloc | apply pw_below_drewN | apply below_drew1 | refine below_set ?_ E0.out) | exact HB.out)⟩
    ·replace c8 := Bool.eq_false_iff.mpr c8
     subst c8
     have H1 : (some false) = some r := by rw [if_neg (show ¬ (false = true) by decide)] at H; exact H
     clear H
     have H := H1
     clear H1
     obtain rfl := Option.some.inj H
     go_enter Try.func63, Try.ntmps63
     go_wp2_with (first | ((with_reducible refine gate_dst (N := 1) rfl ?_); refine box_event ?hg (N := 1) ?hd (cs := #[.int .i64 a0_0, .int .i64 a0_1, .int .i64 a0_2, .int .i64 a0_3, .int .i64 a0_4]) (t := 48) ?hr ?_; (case hd => rfl); (case hg => rfl); (case hr => first | (go_simp; done) | (go_simp; rfl)); intro g0 hg w12 hbox hb; have n0_ := Aside0.mk (below_step (by repeat (first | (with_reducible first | exact HB.out | apply below_alloc | apply pw_below_drewN | apply below_drew1) | exact HB.out)) hb); have n1_ := Aside0.mk (hbox); have n2_ := Aside0.mk ((by rw [hg]; exact (below_size (by repeat (first | (with_reducible first | exact HB.out | apply below_alloc | apply pw_below_drewN | apply below_drew1) | exact HB.out))) : w.heap.size ≤ g0)); have n3_ := Aside0.mk ((by rw [hg]; exact (below_size (by repeat (first | (with_reducible first | exact HB.out | apply below_alloc | apply pw_below_drewN | apply below_drew1) | exact HB.out))) : w.heap.size ≤ g0)); clear HB; have HB := n0_; have K0 := n1_; have G0 := n2_; have E0 := n3_; clear n0_ n1_ n2_ n3_; clear hb hbox hg; have hcz13_0 : w12.cell? ⟨g0, 0, none⟩ = some (.int .i64 a0_0) := (blk_cell K0.out 0).trans rfl; have hcz13_1 : w12.cell? ⟨g0, 1, none⟩ = some (.int .i64 a0_1) := (blk_cell K0.out 1).trans rfl; have hcz13_2 : w12.cell? ⟨g0, 2, none⟩ = some (.int .i64 a0_2) := (blk_cell K0.out 2).trans rfl; have hcz13_3 : w12.cell? ⟨g0, 3, none⟩ = some (.int .i64 a0_3) := (blk_cell K0.out 3).trans rfl; have hcz13_4 : w12.cell? ⟨g0, 4, none⟩ = some (.int .i64 a0_4) := (blk_cell K0.out 4).trans rfl; have hfz13_0 := blk_frozen K0.out 0; have hfz13_1 := blk_frozen K0.out 1; have hfz13_2 := blk_frozen K0.out 2; have hfz13_3 := blk_frozen K0.out 3; have hfz13_4 := blk_frozen K0.out 4) | ((with_reducible refine gate_callee (f := 62) rfl ?_); refine goesL_ (some 5) rfl rfl Try.func62 (by kernel_rfl) rfl #[.int .i64 a0_0, .int .i64 32] rfl (by (try simp only [List.map_toArray, List.map_cons, List.map_nil]); first | done | rfl | (simp only [List.length_drop, List.length_take]; rfl)) ?_; (with_reducible refine (wharfageref1_within.calls a0_0 32 true _ A2.out).mono ?_); rintro e w' ⟨rfl, ⟨nd, rfl⟩⟩; refine ⟨_, rfl, ?_⟩) | (go_at_call 62; (with_reducible refine (wharfageref1_within.calls a0_1 32 true _ A4.out).mono ?_); rintro e w' ⟨rfl, ⟨nd, rfl⟩⟩) | (go_at_call 62; (with_reducible refine (wharfageref1_within.calls a0_3 16 false _ A7.out).mono ?_); rintro e w' ⟨rfl, ⟨nd, rfl⟩⟩))
     go_ret
     exact ⟨by first | rfl | (simp [errW_none, errW_some] <;> rfl) | (simp [*, errW_none, errW_some] <;> rfl), by repeat (first | (with_reducible first | exact HB.out | apply below_alloc | apply pw_below_drewN | apply below_drew1 | refine below_set ?_ E0.out) | exact HB.out)⟩
   ·rw [if_neg c6] at H
    have c6b0 : (a0_2 == 6) = false := beq_eq_false_iff_ne.mpr c6
    have c6b1 : (a0_2 != 6) = true := bne_iff_ne.mpr c6
    by_cases c14 : a0_2 = 17
    ·rw [if_pos c14] at H
     have c14b0 : (a0_2 == 17) = true := beq_iff_eq.mpr c14
     have c14b1 : (a0_2 != 17) = false := bne_eq_false_iff_eq.mpr c14
     clear c14
     replace H := Option.bind_eq_some_iff.mp H
     obtain ⟨t167, A150, H⟩ := H
     replace H : (if t167 = true then ((wharfageref1_within.f a0_4 16).bind fun t168 => (some t168)) else (some false)) = some r := H
     have A15 := Aside0.mk A150
     clear A150
     by_cases c16 : t167 = true
     ·subst c16
      have H1 : ((wharfageref1_within.f a0_4 16).bind fun t168 => (some t168)) = some r := by rw [if_pos rfl] at H; exact H
      clear H
      have H := H1
      clear H1
      replace H := Option.bind_eq_some_iff.mp H
      obtain ⟨t168, A170, H⟩ := H
      replace H : (some t168) = some r := H
      have A17 := Aside0.mk A170
      clear A170
      obtain rfl := Option.some.inj H
      go_enter Try.func63, Try.ntmps63
      go_wp2_with (first | ((with_reducible refine gate_dst (N := 1) rfl ?_); refine box_event ?hg (N := 1) ?hd (cs := #[.int .i64 a0_0, .int .i64 a0_1, .int .i64 a0_2, .int .i64 a0_3, .int .i64 a0_4]) (t := 48) ?hr ?_; (case hd => rfl); (case hg => rfl); (case hr => first | (go_simp; done) | (go_simp; rfl)); intro g0 hg w18 hbox hb; have n0_ := Aside0.mk (below_step (by repeat (first | (with_reducible first | exact HB.out | apply below_alloc | apply pw_below_drewN | apply below_drew1) | exact HB.out)) hb); have n1_ := Aside0.mk (hbox); have n2_ := Aside0.mk ((by rw [hg]; exact (below_size (by repeat (first | (with_reducible first | exact HB.out | apply below_alloc | apply pw_below_drewN | apply below_drew1) | exact HB.out))) : w.heap.size ≤ g0)); have n3_ := Aside0.mk ((by rw [hg]; exact (below_size (by repeat (first | (with_reducible first | exact HB.out | apply below_alloc | apply pw_below_drewN | apply below_drew1) | exact HB.out))) : w.heap.size ≤ g0)); clear HB; have HB := n0_; have K0 := n1_; have G0 := n2_; have E0 := n3_; clear n0_ n1_ n2_ n3_; clear hb hbox hg; have hcz19_0 : w18.cell? ⟨g0, 0, none⟩ = some (.int .i64 a0_0) := (blk_cell K0.out 0).trans rfl; have hcz19_1 : w18.cell? ⟨g0, 1, none⟩ = some (.int .i64 a0_1) := (blk_cell K0.out 1).trans rfl; have hcz19_2 : w18.cell? ⟨g0, 2, none⟩ = some (.int .i64 a0_2) := (blk_cell K0.out 2).trans rfl; have hcz19_3 : w18.cell? ⟨g0, 3, none⟩ = some (.int .i64 a0_3) := (blk_cell K0.out 3).trans rfl; have hcz19_4 : w18.cell? ⟨g0, 4, none⟩ = some (.int .i64 a0_4) := (blk_cell K0.out 4).trans rfl; have hfz19_0 := blk_frozen K0.out 0; have hfz19_1 := blk_frozen K0.out 1; have hfz19_2 := blk_frozen K0.out 2; have hfz19_3 := blk_frozen K0.out 3; have hfz19_4 := blk_frozen K0.out 4) | ((with_reducible refine gate_callee (f := 62) rfl ?_); refine goesL_ (some 5) rfl rfl Try.func62 (by kernel_rfl) rfl #[.int .i64 a0_0, .int .i64 32] rfl (by (try simp only [List.map_toArray, List.map_cons, List.map_nil]); first | done | rfl | (simp only [List.length_drop, List.length_take]; rfl)) ?_; (with_reducible refine (wharfageref1_within.calls a0_0 32 true _ A2.out).mono ?_); rintro e w' ⟨rfl, ⟨nd, rfl⟩⟩; refine ⟨_, rfl, ?_⟩) | (go_at_call 62; (with_reducible refine (wharfageref1_within.calls a0_1 32 true _ A4.out).mono ?_); rintro e w' ⟨rfl, ⟨nd, rfl⟩⟩) | (go_at_call 62; (with_reducible refine (wharfageref1_within.calls a0_3 16 true _ A15.out).mono ?_); rintro e w' ⟨rfl, ⟨nd, rfl⟩⟩) | (go_at_call 62; (with_reducible refine (wharfageref1_within.calls a0_4 16 t168 _ A17.out).mono ?_); rintro e w' ⟨rfl, ⟨nd, rfl⟩⟩))
      go_ret
      exact ⟨by first | rfl | (simp [errW_none, errW_some] <;> rfl) | (simp [*, errW_none, errW_some] <;> rfl), by repeat (first | (with_reducible first | exact HB.out | apply below_alloc | apply pw_below_drewN | apply below_drew1 | refine below_set ?_ E0.out) | exact HB.out)⟩
     ·replace c16 := Bool.eq_false_iff.mpr c16
      subst c16
      have H1 : (some false) = some r := by rw [if_neg (show ¬ (false = true) by decide)] at H; exact H
      clear H
      have H := H1
      clear H1
      obtain rfl := Option.some.inj H
      go_enter Try.func63, Try.ntmps63
      go_wp2_with (first | ((with_reducible refine gate_dst (N := 1) rfl ?_); refine box_event ?hg (N := 1) ?hd (cs := #[.int .i64 a0_0, .int .i64 a0_1, .int .i64 a0_2, .int .i64 a0_3, .int .i64 a0_4]) (t := 48) ?hr ?_; (case hd => rfl); (case hg => rfl); (case hr => first | (go_simp; done) | (go_simp; rfl)); intro g0 hg w20 hbox hb; have n0_ := Aside0.mk (below_step (by repeat (first | (with_reducible first | exact HB.out | apply below_alloc | apply pw_below_drewN | apply below_drew1) | exact HB.out)) hb); have n1_ := Aside0.mk (hbox); have n2_ := Aside0.mk ((by rw [hg]; exact (below_size (by repeat (first | (with_reducible first | exact HB.out | apply below_alloc | apply pw_below_drewN | apply below_drew1) | exact HB.out))) : w.heap.size ≤ g0)); have n3_ := Aside0.mk ((by rw [hg]; exact (below_size (by repeat (first | (with_reducible first | exact HB.out | apply below_alloc | apply pw_below_drewN | apply below_drew1) | exact HB.out))) : w.heap.size ≤ g0)); clear HB; have HB := n0_; have K0 := n1_; have G0 := n2_; have E0 := n3_; clear n0_ n1_ n2_ n3_; clear hb hbox hg; have hcz21_0 : w20.cell? ⟨g0, 0, none⟩ = some (.int .i64 a0_0) := (blk_cell K0.out 0).trans rfl; have hcz21_1 : w20.cell? ⟨g0, 1, none⟩ = some (.int .i64 a0_1) := (blk_cell K0.out 1).trans rfl; have hcz21_2 : w20.cell? ⟨g0, 2, none⟩ = some (.int .i64 a0_2) := (blk_cell K0.out 2).trans rfl; have hcz21_3 : w20.cell? ⟨g0, 3, none⟩ = some (.int .i64 a0_3) := (blk_cell K0.out 3).trans rfl; have hcz21_4 : w20.cell? ⟨g0, 4, none⟩ = some (.int .i64 a0_4) := (blk_cell K0.out 4).trans rfl; have hfz21_0 := blk_frozen K0.out 0; have hfz21_1 := blk_frozen K0.out 1; have hfz21_2 := blk_frozen K0.out 2; have hfz21_3 := blk_frozen K0.out 3; have hfz21_4 := blk_frozen K0.out 4) | ((with_reducible refine gate_callee (f := 62) rfl ?_); refine goesL_ (some 5) rfl rfl Try.func62 (by kernel_rfl) rfl #[.int .i64 a0_0, .int .i64 32] rfl (by (try simp only [List.map_toArray, List.map_cons, List.map_nil]); first | done | rfl | (simp only [List.length_drop, List.length_take]; rfl)) ?_; (with_reducible refine (wharfageref1_within.calls a0_0 32 true _ A2.out).mono ?_); rintro e w' ⟨rfl, ⟨nd, rfl⟩⟩; refine ⟨_, rfl, ?_⟩) | (go_at_call 62; (with_reducible refine (wharfageref1_within.calls a0_1 32 true _ A4.out).mono ?_); rintro e w' ⟨rfl, ⟨nd, rfl⟩⟩) | (go_at_call 62; (with_reducible refine (wharfageref1_within.calls a0_3 16 false _ A15.out).mono ?_); rintro e w' ⟨rfl, ⟨nd, rfl⟩⟩))
      go_ret
      exact ⟨by first | rfl | (simp [errW_none, errW_some] <;> rfl) | (simp [*, errW_none, errW_some] <;> rfl), by repeat (first | (with_reducible first | exact HB.out | apply below_alloc | apply pw_below_drewN | apply below_drew1 | refine below_set ?_ E0.out) | exact HB.out)⟩
    ·rw [if_neg c14] at H
     have c14b0 : (a0_2 == 17) = false := beq_eq_false_iff_ne.mpr c14
     have c14b1 : (a0_2 != 17) = true := bne_iff_ne.mpr c14
     obtain rfl := Option.some.inj H
     go_enter Try.func63, Try.ntmps63
     go_wp2_with (first | ((with_reducible refine gate_dst (N := 1) rfl ?_); refine box_event ?hg (N := 1) ?hd (cs := #[.int .i64 a0_0, .int .i64 a0_1, .int .i64 a0_2, .int .i64 a0_3, .int .i64 a0_4]) (t := 48) ?hr ?_; (case hd => rfl); (case hg => rfl); (case hr => first | (go_simp; done) | (go_simp; rfl)); intro g0 hg w22 hbox hb; have n0_ := Aside0.mk (below_step (by repeat (first | (with_reducible first | exact HB.out | apply below_alloc | apply pw_below_drewN | apply below_drew1) | exact HB.out)) hb); have n1_ := Aside0.mk (hbox); have n2_ := Aside0.mk ((by rw [hg]; exact (below_size (by repeat (first | (with_reducible first | exact HB.out | apply below_alloc | apply pw_below_drewN | apply below_drew1) | exact HB.out))) : w.heap.size ≤ g0)); have n3_ := Aside0.mk ((by rw [hg]; exact (below_size (by repeat (first | (with_reducible first | exact HB.out | apply below_alloc | apply pw_below_drewN | apply below_drew1) | exact HB.out))) : w.heap.size ≤ g0)); clear HB; have HB := n0_; have K0 := n1_; have G0 := n2_; have E0 := n3_; clear n0_ n1_ n2_ n3_; clear hb hbox hg; have hcz23_0 : w22.cell? ⟨g0, 0, none⟩ = some (.int .i64 a0_0) := (blk_cell K0.out 0).trans rfl; have hcz23_1 : w22.cell? ⟨g0, 1, none⟩ = some (.int .i64 a0_1) := (blk_cell K0.out 1).trans rfl; have hcz23_2 : w22.cell? ⟨g0, 2, none⟩ = some (.int .i64 a0_2) := (blk_cell K0.out 2).trans rfl; have hcz23_3 : w22.cell? ⟨g0, 3, none⟩ = some (.int .i64 a0_3) := (blk_cell K0.out 3).trans rfl; have hcz23_4 : w22.cell? ⟨g0, 4, none⟩ = some (.int .i64 a0_4) := (blk_cell K0.out 4).trans rfl; have hfz23_0 := blk_frozen K0.out 0; have hfz23_1 := blk_frozen K0.out 1; have hfz23_2 := blk_frozen K0.out 2; have hfz23_3 := blk_frozen K0.out 3; have hfz23_4 := blk_frozen K0.out 4) | ((with_reducible refine gate_callee (f := 62) rfl ?_); refine goesL_ (some 5) rfl rfl Try.func62 (by kernel_rfl) rfl #[.int .i64 a0_0, .int .i64 32] rfl (by (try simp only [List.map_toArray, List.map_cons, List.map_nil]); first | done | rfl | (simp only [List.length_drop, List.length_take]; rfl)) ?_; (with_reducible refine (wharfageref1_within.calls a0_0 32 true _ A2.out).mono ?_); rintro e w' ⟨rfl, ⟨nd, rfl⟩⟩; refine ⟨_, rfl, ?_⟩) | (go_at_call 62; (with_reducible refine (wharfageref1_within.calls a0_1 32 true _ A4.out).mono ?_); rintro e w' ⟨rfl, ⟨nd, rfl⟩⟩))
     go_ret
     exact ⟨by first | rfl | (simp [errW_none, errW_some] <;> rfl) | (simp [*, errW_none, errW_some] <;> rfl), by repeat (first | (with_reducible first | exact HB.out | apply below_alloc | apply pw_below_drewN | apply below_drew1 | refine below_set ?_ E0.out) | exact HB.out)⟩
  ·replace c5 := Bool.eq_false_iff.mpr c5
   subst c5
   have H1 : (some false) = some r := by rw [if_neg (show ¬ (false = true) by decide)] at H; exact H
   clear H
   have H := H1
   clear H1
   obtain rfl := Option.some.inj H
   go_enter Try.func63, Try.ntmps63
   go_wp2_with (first | ((with_reducible refine gate_dst (N := 1) rfl ?_); refine box_event ?hg (N := 1) ?hd (cs := #[.int .i64 a0_0, .int .i64 a0_1, .int .i64 a0_2, .int .i64 a0_3, .int .i64 a0_4]) (t := 48) ?hr ?_; (case hd => rfl); (case hg => rfl); (case hr => first | (go_simp; done) | (go_simp; rfl)); intro g0 hg w24 hbox hb; have n0_ := Aside0.mk (below_step (by repeat (first | (with_reducible first | exact HB.out | apply below_alloc | apply pw_below_drewN | apply below_drew1) | exact HB.out)) hb); have n1_ := Aside0.mk (hbox); have n2_ := Aside0.mk ((by rw [hg]; exact (below_size (by repeat (first | (with_reducible first | exact HB.out | apply below_alloc | apply pw_below_drewN | apply below_drew1) | exact HB.out))) : w.heap.size ≤ g0)); have n3_ := Aside0.mk ((by rw [hg]; exact (below_size (by repeat (first | (with_reducible first | exact HB.out | apply below_alloc | apply pw_below_drewN | apply below_drew1) | exact HB.out))) : w.heap.size ≤ g0)); clear HB; have HB := n0_; have K0 := n1_; have G0 := n2_; have E0 := n3_; clear n0_ n1_ n2_ n3_; clear hb hbox hg; have hcz25_0 : w24.cell? ⟨g0, 0, none⟩ = some (.int .i64 a0_0) := (blk_cell K0.out 0).trans rfl; have hcz25_1 : w24.cell? ⟨g0, 1, none⟩ = some (.int .i64 a0_1) := (blk_cell K0.out 1).trans rfl; have hcz25_2 : w24.cell? ⟨g0, 2, none⟩ = some (.int .i64 a0_2) := (blk_cell K0.out 2).trans rfl; have hcz25_3 : w24.cell? ⟨g0, 3, none⟩ = some (.int .i64 a0_3) := (blk_cell K0.out 3).trans rfl; have hcz25_4 : w24.cell? ⟨g0, 4, none⟩ = some (.int .i64 a0_4) := (blk_cell K0.out 4).trans rfl; have hfz25_0 := blk_frozen K0.out 0; have hfz25_1 := blk_frozen K0.out 1; have hfz25_2 := blk_frozen K0.out 2; have hfz25_3 := blk_frozen K0.out 3; have hfz25_4 := blk_frozen K0.out 4) | ((with_reducible refine gate_callee (f := 62) rfl ?_); refine goesL_ (some 5) rfl rfl Try.func62 (by kernel_rfl) rfl #[.int .i64 a0_0, .int .i64 32] rfl (by (try simp only [List.map_toArray, List.map_cons, List.map_nil]); first | done | rfl | (simp only [List.length_drop, List.length_take]; rfl)) ?_; (with_reducible refine (wharfageref1_within.calls a0_0 32 true _ A2.out).mono ?_); rintro e w' ⟨rfl, ⟨nd, rfl⟩⟩; refine ⟨_, rfl, ?_⟩) | (go_at_call 62; (with_reducible refine (wharfageref1_within.calls a0_1 32 false _ A4.out).mono ?_); rintro e w' ⟨rfl, ⟨nd, rfl⟩⟩))
   go_ret
   exact ⟨by first | rfl | (simp [errW_none, errW_some] <;> rfl) | (simp [*, errW_none, errW_some] <;> rfl), by repeat (first | (with_reducible first | exact HB.out | apply below_alloc | apply pw_below_drewN | apply below_drew1 | refine below_set ?_ E0.out) | exact HB.out)⟩
 ·replace c3 := Bool.eq_false_iff.mpr c3
  subst c3
  have H1 : (some false) = some r := by rw [if_neg (show ¬ (false = true) by decide)] at H; exact H
  clear H
  have H := H1
  clear H1
  obtain rfl := Option.some.inj H
  go_enter Try.func63, Try.ntmps63
  go_wp2_with (first | ((with_reducible refine gate_dst (N := 1) rfl ?_); refine box_event ?hg (N := 1) ?hd (cs := #[.int .i64 a0_0, .int .i64 a0_1, .int .i64 a0_2, .int .i64 a0_3, .int .i64 a0_4]) (t := 48) ?hr ?_; (case hd => rfl); (case hg => rfl); (case hr => first | (go_simp; done) | (go_simp; rfl)); intro g0 hg w26 hbox hb; have n0_ := Aside0.mk (below_step (by repeat (first | (with_reducible first | exact HB.out | apply below_alloc | apply pw_below_drewN | apply below_drew1) | exact HB.out)) hb); have n1_ := Aside0.mk (hbox); have n2_ := Aside0.mk ((by rw [hg]; exact (below_size (by repeat (first | (with_reducible first | exact HB.out | apply below_alloc | apply pw_below_drewN | apply below_drew1) | exact HB.out))) : w.heap.size ≤ g0)); have n3_ := Aside0.mk ((by rw [hg]; exact (below_size (by repeat (first | (with_reducible first | exact HB.out | apply below_alloc | apply pw_below_drewN | apply below_drew1) | exact HB.out))) : w.heap.size ≤ g0)); clear HB; have HB := n0_; have K0 := n1_; have G0 := n2_; have E0 := n3_; clear n0_ n1_ n2_ n3_; clear hb hbox hg; have hcz27_0 : w26.cell? ⟨g0, 0, none⟩ = some (.int .i64 a0_0) := (blk_cell K0.out 0).trans rfl; have hcz27_1 : w26.cell? ⟨g0, 1, none⟩ = some (.int .i64 a0_1) := (blk_cell K0.out 1).trans rfl; have hcz27_2 : w26.cell? ⟨g0, 2, none⟩ = some (.int .i64 a0_2) := (blk_cell K0.out 2).trans rfl; have hcz27_3 : w26.cell? ⟨g0, 3, none⟩ = some (.int .i64 a0_3) := (blk_cell K0.out 3).trans rfl; have hcz27_4 : w26.cell? ⟨g0, 4, none⟩ = some (.int .i64 a0_4) := (blk_cell K0.out 4).trans rfl; have hfz27_0 := blk_frozen K0.out 0; have hfz27_1 := blk_frozen K0.out 1; have hfz27_2 := blk_frozen K0.out 2; have hfz27_3 := blk_frozen K0.out 3; have hfz27_4 := blk_frozen K0.out 4) | ((with_reducible refine gate_callee (f := 62) rfl ?_); refine goesL_ (some 5) rfl rfl Try.func62 (by kernel_rfl) rfl #[.int .i64 a0_0, .int .i64 32] rfl (by (try simp only [List.map_toArray, List.map_cons, List.map_nil]); first | done | rfl | (simp only [List.length_drop, List.length_take]; rfl)) ?_; (with_reducible refine (wharfageref1_within.calls a0_0 32 false _ A2.out).mono ?_); rintro e w' ⟨rfl, ⟨nd, rfl⟩⟩; refine ⟨_, rfl, ?_⟩))
  go_ret
  exact ⟨by first | rfl | (simp [errW_none, errW_some] <;> rfl) | (simp [*, errW_none, errW_some] <;> rfl), by repeat (first | (with_reducible first | exact HB.out | apply below_alloc | apply pw_below_drewN | apply below_drew1 | refine below_set ?_ E0.out) | exact HB.out)⟩

end Go.Proofs.Ytlapbhgkmmeeoaa.PSpares
end
section
/- Contracts: what calls of these functions of the program do, each as a plain function; written by a program of this session. -/
namespace Go.Proofs.Ytlapbhgkmmeeoaa.PSpares
open Go.RowKit Go.Proofs.YtlapbhgkmmeeoaaW.PrintWords Go.Proofs.YtlapbhgkmmeeoaaW.PrintLast Go.Proofs.YtlapbhgkmmeeoaaW.PrintMore
attribute [local go_sem] max2_int min2_int max_two min_two max_three min_three max_four min_four   -- for this text's walks alone
set_option linter.unusedVariables false
set_option linter.unusedSimpArgs false

/-! ### wharfageref10_phaseMay: function 64 -/
def wharfageref10_phaseMay.f (a0 : Int) : Option (Bool) := if a0 ≥ 0 then (some (decide (a0 ≤ 2))) else (some false)
set_option maxHeartbeats 8000000 in
set_option maxRecDepth 100000 in
theorem wharfageref10_phaseMay.calls (a0 : Int) (r : Bool) (w : World) (h : wharfageref10_phaseMay.f a0 = some r) :
  Calls Try.prog 64 #[.int .i64 a0] w fun e w' => e = .returned (.bool r) ∧ Drawn0 w w' := by
 have H : (if a0 ≥ 0 then (some (decide (a0 ≤ 2))) else (some false)) = some r := h
 clear h
 by_cases c2 : a0 ≥ 0
 ·rw [if_pos c2] at H
  have c2b0 : decide (0 ≤ a0) = true := decide_eq_true c2
  clear c2
  obtain rfl := Option.some.inj H
  go_enter Try.func64, Try.ntmps64
  go_wp2
  go_ret
  exact ⟨by first | rfl | (simp; done) | (simp [*]; done), by repeat (first | exact Drawn0.refl _ | apply Drawn0.step)⟩
 ·rw [if_neg c2] at H
  have c2b0 : decide (0 ≤ a0) = false := decide_eq_false c2
  clear c2
  obtain rfl := Option.some.inj H
  go_enter Try.func64, Try.ntmps64
  go_wp2
  go_ret
  exact ⟨by first | rfl | (simp; done) | (simp [*]; done), by repeat (first | exact Drawn0.refl _ | apply Drawn0.step)⟩

/-! ### wharfageref10_EntryMay: function 54 -/
def wharfageref10_EntryMay.f (a0_0 : Int) (a0_1 : Int) (a0_2 : Int) (a0_3 : Int) (a0_4 : Int) (a0_5 : Int) (a0_6 : Bool) (a0_7 : Int) (a0_8 : Int) : Option (Bool) := (wharfageref1_FlowMay.f a0_0 a0_1 a0_2 a0_3 a0_4).bind fun t170 => (if t170 = true then (if a0_5 ≥ 0 then (if a0_5 ≤ 255 then ((wharfageref10_phaseMay.f a0_7).bind fun t171 => (if t171 = true then ((wharfageref10_nowMay.f a0_8).bind fun t172 => (some t172)) else (some false))) else (some false)) else (some false)) else (some false))
set_option maxHeartbeats 8000000 in
set_option maxRecDepth 100000 in
theorem wharfageref10_EntryMay.calls (a0_0 : Int) (a0_1 : Int) (a0_2 : Int) (a0_3 : Int) (a0_4 : Int) (a0_5 : Int) (a0_6 : Bool) (a0_7 : Int) (a0_8 : Int) (r : Bool) (w : World) (h : wharfageref10_EntryMay.f a0_0 a0_1 a0_2 a0_3 a0_4 a0_5 a0_6 a0_7 a0_8 = some r) :
  Calls Try.prog 54 #[.agg #[.int .i64 a0_0, .int .i64 a0_1, .int .i64 a0_2, .int .i64 a0_3, .int .i64 a0_4, .int .i64 a0_5, .bool a0_6, .int .i64 a0_7, .int .i64 a0_8]] w fun e w' => e = .returned (.bool r) ∧ Below w.heap.size w w' := by
 have hu50 := Try.underlying50
 have hu48 := Try.underlying48
 have HB := Aside0.mk (Below.refl w.heap.size w)
 have H : ((wharfageref1_FlowMay.f a0_0 a0_1 a0_2 a0_3 a0_4).bind fun t170 => (if t170 = true then (if a0_5 ≥ 0 then (if a0_5 ≤ 255 then ((wharfageref10_phaseMay.f a0_7).bind fun t171 => (if t171 = true then ((wharfageref10_nowMay.f a0_8).bind fun t172 => (some t172)) else (some false))) else (some false)) else (some false)) else (some false))) = some r := h
 clear h
 replace H := Option.bind_eq_some_iff.mp H
 obtain ⟨t170, A20, H⟩ := H
 replace H : (if t170 = true then (if a0_5 ≥ 0 then (if a0_5 ≤ 255 then ((wharfageref10_phaseMay.f a0_7).bind fun t171 => (if t171 = true then ((wharfageref10_nowMay.f a0_8).bind fun t172 => (some t172)) else (some false))) else (some false)) else (some false)) else (some false)) = some r := H
 have A2 := Aside0.mk A20
 clear A20
 by_cases c3 : t170 = true
 ·subst c3
  have H1 : (if a0_5 ≥ 0 then (if a0_5 ≤ 255 then ((wharfageref10_phaseMay.f a0_7).bind fun t171 => (if t171 = true then ((wharfageref10_nowMay.f a0_8).bind fun t172 => (some t172)) else (some false))) else (some false)) else (some false)) = some r := by rw [if_pos rfl] at H; exact H
  clear H
  have H := H1
  clear H1
  by_cases c4 : a0_5 ≥ 0
  ·rw [if_pos c4] at H
   have c4b0 : decide (0 ≤ a0_5) = true := decide_eq_true c4
   clear c4
   by_cases c5 : a0_5 ≤ 255
   ·rw [if_pos c5] at H
    have c5b0 : decide (a0_5 ≤ 255) = true := decide_eq_true c5
    clear c5
    replace H := Option.bind_eq_some_iff.mp H
    obtain ⟨t171, A60, H⟩ := H
    replace H : (if t171 = true then ((wharfageref10_nowMay.f a0_8).bind fun t172 => (some t172)) else (some false)) = some r := H
    have A6 := Aside0.mk A60
    clear A60
    by_cases c7 : t171 = true
    ·subst c7
     have H1 : ((wharfageref10_nowMay.f a0_8).bind fun t172 => (some t172)) = some r := by rw [if_pos rfl] at H; exact H
     clear H
     have H := H1
     clear H1
     replace H := Option.bind_eq_some_iff.mp H
     obtain ⟨t172, A80, H⟩ := H
     replace H : (some t172) = some r := H
     have A8 := Aside0.mk A80
     clear A80
     obtain rfl := Option.some.inj H
     go_enter Try.func54, Try.ntmps54
     go_wp2_with (first | ((with_reducible refine gate_dst (N := 1) rfl ?_); refine box_event ?hg (N := 1) ?hd (cs := #[.int .i64 a0_0, .int .i64 a0_1, .int .i64 a0_2, .int .i64 a0_3, .int .i64 a0_4, .int .i64 a0_5, .bool a0_6, .int .i64 a0_7, .int .i64 a0_8]) (t := 50) ?hr ?_; (case hd => rfl); (case hg => rfl); (case hr => first | (go_simp; done) | (go_simp; rfl)); intro g0 hg w9 hbox hb; have n0_ := Aside0.mk (below_step (by repeat (first | (with_reducible first | exact HB.out | apply below_alloc | apply pw_below_drewN | apply below_drew1) | exact HB.out)) hb); have n1_ := Aside0.mk (hbox); have n2_ := Aside0.mk ((by rw [hg]; exact (below_size (by repeat (first | (with_reducible first | exact HB.out | apply below_alloc | apply pw_below_drewN | apply below_drew1) | exact HB.out))) : w.heap.size ≤ g0)); have n3_ := Aside0.mk ((by rw [hg]; exact (below_size (by repeat (first | (with_reducible first | exact HB.out | apply below_alloc | apply pw_below_drewN | apply below_drew1) | exact HB.out))) : w.heap.size ≤ g0)); clear HB; have HB := n0_; have K0 := n1_; have G0 := n2_; have E0 := n3_; clear n0_ n1_ n2_ n3_; clear hb hbox hg; have hcz10_0 : w9.cell? ⟨g0, 0, none⟩ = some (.int .i64 a0_0) := (blk_cell K0.out 0).trans rfl; have hcz10_1 : w9.cell? ⟨g0, 1, none⟩ = some (.int .i64 a0_1) := (blk_cell K0.out 1).trans rfl; have hcz10_2 : w9.cell? ⟨g0, 2, none⟩ = some (.int .i64 a0_2) := (blk_cell K0.out 2).trans rfl; have hcz10_3 : w9.cell? ⟨g0, 3, none⟩ = some (.int .i64 a0_3) := (blk_cell K0.out 3).trans rfl; have hcz10_4 : w9.cell? ⟨g0, 4, none⟩ = some (.int .i64 a0_4) := (blk_cell K0.out 4).trans rfl; have hcz10_5 : w9.cell? ⟨g0, 5, none⟩ = some (.int .i64 a0_5) := (blk_cell K0.out 5).trans rfl; have hcz10_6 : w9.cell? ⟨g0, 6, none⟩ = some (.bool a0_6) := (blk_cell K0.out 6).trans rfl; have hcz10_7 : w9.cell? ⟨g0, 7, none⟩ = some (.int .i64 a0_7) := (blk_cell K0.out 7).trans rfl; have hcz10_8 : w9.cell? ⟨g0, 8, none⟩ = some (.int .i64 a0_8) := (blk_cell K0.out 8).trans rfl; have hfz10_0 := blk_frozen K0.out 0; have hfz10_1 := blk_frozen K0.out 1; have hfz10_2 := blk_frozen K0.out 2; have hfz10_3 := blk_frozen K0.out 3; have hfz10_4 := blk_frozen K0.out 4; have hfz10_5 := blk_frozen K0.out 5; have hfz10_6 := blk_frozen K0.out 6; have hfz10_7 := blk_frozen K0.out 7; have hfz10_8 := blk_frozen K0.out 8) | ((with_reducible refine gate_callee (f := 63) rfl ?_); refine goesL_ (some 5) rfl rfl Try.func63 (by kernel_rfl) rfl #[.agg #[.int .i64 a0_0, .int .i64 a0_1, .int .i64 a0_2, .int .i64 a0_3, .int .i64 a0_4]] rfl (by (try simp only [List.map_toArray, List.map_cons, List.map_nil]); first | done | rfl | (simp only [List.length_drop, List.length_take]; rfl)) ?_; (with_reducible refine (wharfageref1_FlowMay.calls a0_0 a0_1 a0_2 a0_3 a0_4 true _ A2.out).mono ?_); rintro e w11 ⟨rfl, hb⟩; refine ⟨_, rfl, ?_⟩; have n0_ := Aside0.mk (blk_below (g := g0) (o := .cells #[.int .i64 a0_0, .int .i64 a0_1, .int .i64 a0_2, .int .i64 a0_3, .int .i64 a0_4, .int .i64 a0_5, .bool a0_6, .int .i64 a0_7, .int .i64 a0_8] 50 (0, 0)) (by (with_reducible repeat (first | refine blk_drewN ?_ _ | refine blk_drew ?_ | refine blk_alloc ?_ _)); exact K0.out) hb); have n1_ := Aside0.mk (below_step (by repeat (first | (with_reducible first | exact HB.out | apply below_alloc | apply pw_below_drewN | apply below_drew1 | refine below_set ?_ E0.out) | exact HB.out)) hb); clear K0; clear HB; have K0 := n0_; have HB := n1_; clear n0_ n1_; (try clear hb); (try clear hb2); (try clear hk); (try clear hi); have hcz12_0 : w11.cell? ⟨g0, 0, none⟩ = some (.int .i64 a0_0) := (blk_cell K0.out 0).trans rfl; have hcz12_1 : w11.cell? ⟨g0, 1, none⟩ = some (.int .i64 a0_1) := (blk_cell K0.out 1).trans rfl; have hcz12_2 : w11.cell? ⟨g0, 2, none⟩ = some (.int .i64 a0_2) := (blk_cell K0.out 2).trans rfl; have hcz12_3 : w11.cell? ⟨g0, 3, none⟩ = some (.int .i64 a0_3) := (blk_cell K0.out 3).trans rfl; have hcz12_4 : w11.cell? ⟨g0, 4, none⟩ = some (.int .i64 a0_4) := (blk_cell K0.out 4).trans rfl; have hcz12_5 : w11.cell? ⟨g0, 5, none⟩ = some (.int .i64 a0_5) := (blk_cell K0.out 5).trans rfl; have hcz12_6 : w11.cell? ⟨g0, 6, none⟩ = some (.bool a0_6) := (blk_cell K0.out 6).trans rfl; have hcz12_7 : w11.cell? ⟨g0, 7, none⟩ = some (.int .i64 a0_7) := (blk_cell K0.out 7).trans rfl; have hcz12_8 : w11.cell? ⟨g0, 8, none⟩ = some (.int .i64 a0_8) := (blk_cell K0.out 8).trans rfl; have hfz12_0 := blk_frozen K0.out 0; have hfz12_1 := blk_frozen K0.out 1; have hfz12_2 := blk_frozen K0.out 2; have hfz12_3 := blk_frozen K0.out 3; have hfz12_4 := blk_frozen K0.out 4; have hfz12_5 := blk_frozen K0.out 5; have hfz12_6 := blk_frozen K0.out 6; have hfz12_7 := blk_frozen K0.out 7; have hfz12_8 := blk_frozen K0.out 8) | (go_at_call 64; (with_reducible refine (wharfageref10_phaseMay.calls a0_7 true _ A6.out).mono ?_); rintro e w' ⟨rfl, ⟨nd, rfl⟩⟩) | (go_at_call 26; (with_reducible refine (wharfageref10_nowMay.calls a0_8 t172 _ A8.out).mono ?_); rintro e w' ⟨rfl, ⟨nd, rfl⟩⟩))
     go_ret
     exact ⟨by first | rfl | (simp [errW_none, errW_some] <;> rfl) | (simp [*, errW_none, errW_some] <;> rfl), by repeat (first | (with_reducible first | exact HB.out | apply below_alloc | apply pw_below_drewN | apply below_drew1 | refine below_set ?_ E0.out) | exact HB.out)⟩
    ·replace c7 := Bool.eq_false_iff.mpr c7
     subst c7
     have H1 : (some false) = some r := by rw [if_neg (show ¬ (false = true) by decide)] at H; exact H
     clear H
     have H := H1
     clear H1
     obtain rfl := Option.some.inj H
     go_enter Try.func54, Try.ntmps54
     go_wp2_with (first | ((with_reducible refine gate_dst (N := 1) rfl ?_); refine box_event ?hg (N := 1) ?hd (cs := #[.int .i64 a0_0, .int .i64 a0_1, .int .i64 a0_2, .int .i64 a0_3, .int .i64 a0_4, .int .i64 a0_5, .bool a0_6, .int .i64 a0_7, .int .i64 a0_8]) (t := 50) ?hr ?_; (case hd => rfl); (case hg => rfl); (case hr => first | (go_simp; done) | (go_simp; rfl)); intro g0 hg w13 hbox hb; have n0_ := Aside0.mk (below_step (by repeat (first | (with_reducible first | exact HB.out | apply below_alloc | apply pw_below_drewN | apply below_drew1) | exact HB.out)) hb); have n1_ := Aside0.mk (hbox); have n2_ := Aside0.mk ((by rw [hg]; exact (below_size (by repeat (first | (with_reducible first | exact HB.out | apply below_alloc | apply pw_below_drewN | apply below_drew1) | exact HB.out))) : w.heap.size ≤ g0)); have n3_ := Aside0.mk ((by rw [hg]; exact (below_size (by repeat (first | (with_reducible first | exact HB.out | apply below_alloc | apply pw_below_drewN | apply below_drew1) | exact HB.out))) : w.heap.size ≤ g0)); clear HB; have HB := n0_; have K0 := n1_; have G0 := n2_; have E0 := n3_; clear n0_ n1_ n2_ n3_; clear hb hbox hg; have hcz14_0 : w13.cell? ⟨g0, 0, none⟩ = some (.int .i64 a0_0) := (blk_cell K0.out 0).trans rfl; have hcz14_1 : w13.cell? ⟨g0, 1, none⟩ = some (.int .i64 a0_1) := (blk_cell K0.out 1).trans rfl; have hcz14_2 : w13.cell? ⟨g0, 2, none⟩ = some (.int .i64 a0_2) := (blk_cell K0.out 2).trans rfl; have hcz14_3 : w13.cell? ⟨g0, 3, none⟩ = some (.int .i64 a0_3) := (blk_cell K0.out 3).trans rfl; have hcz14_4 : w13.cell? ⟨g0, 4, none⟩ = some (.int .i64 a0_4) := (blk_cell K0.out 4).trans rfl; have hcz14_5 : w13.cell? ⟨g0, 5, none⟩ = some (.int .i64 a0_5) := (blk_cell K0.out 5).trans rfl; have hcz14_6 : w13.cell? ⟨g0, 6, none⟩ = some (.bool a0_6) := (blk_cell K0.out 6).trans rfl; have hcz14_7 : w13.cell? ⟨g0, 7, none⟩ = some (.int .i64 a0_7) := (blk_cell K0.out 7).trans rfl; have hcz14_8 : w13.cell? ⟨g0, 8, none⟩ = some (.int .i64 a0_8) := (blk_cell K0.out 8).trans rfl; have hfz14_0 := blk_frozen K0.out 0; have hfz14_1 := blk_frozen K0.out 1; have hfz14_2 := blk_frozen K0.out 2; have hfz14_3 := blk_frozen K0.out 3; have hfz14_4 := blk_frozen K0.out 4; have hfz14_5 := blk_frozen K0.out 5; have hfz14_6 := blk_frozen K0.out 6; have hfz14_7 := blk_frozen K0.out 7; have hfz14_8 := blk_frozen K0.out 8) | ((with_reducible refine gate_callee (f := 63) rfl ?_); refine goesL_ (some 5) rfl rfl Try.func63 (by kernel_rfl) rfl #[.agg #[.int .i64 a0_0, .int .i64 a0_1, .int .i64 a0_2, .int .i64 a0_3, .int .i64 a0_4]] rfl (by (try simp only [List.map_toArray, List.map_cons, List.map_nil]); first | done | rfl | (simp only [List.length_drop, List.length_take]; rfl)) ?_; (with_reducible refine (wharfageref1_FlowMay.calls a0_0 a0_1 a0_2 a0_3 a0_4 true _ A2.out).mono ?_); rintro e w15 ⟨rfl, hb⟩; refine ⟨_, rfl, ?_⟩; have n0_ := Aside0.mk (blk_below (g := g0) (o := .cells #[.int .i64 a0_0, .int .i64 a0_1, .int .i64 a0_2, .int .i64 a0_3, .int .i64 a0_4, .int .i64 a0_5, .bool a0_6, .int .i64 a0_7, .int .i64 a0_8] 50 (0, 0)) (by (with_reducible repeat (first | refine blk_drewN ?_ _ | refine blk_drew ?_ | refine blk_alloc ?_ _)); exact K0.out) hb); have n1_ := Aside0.mk (below_step (by repeat (first | (with_reducible first | exact HB.out | apply below_alloc | apply pw_below_drewN | apply below_drew1 | refine below_set ?_ E0.out) | exact HB.out)) hb); clear K0; clear HB; have K0 := n0_; have HB := n1_; clear n0_ n1_; (try clear hb); (try clear hb2); (try clear hk); (try clear hi); have hcz16_0 : w15.cell? ⟨g0, 0, none⟩ = some (.int .i64 a0_0) := (blk_cell K0.out 0).trans rfl; have hcz16_1 : w15.cell? ⟨g0, 1, none⟩ = some (.int .i64 a0_1) := (blk_cell K0.out 1).trans rfl; have hcz16_2 : w15.cell? ⟨g0, 2, none⟩ = some (.int .i64 a0_2) := (blk_cell K0.out 2).trans rfl; have hcz16_3 : w15.cell? ⟨g0, 3, none⟩ = some (.int .i64 a0_3) := (blk_cell K0.out 3).trans rfl; have hcz16_4 : w15.cell? ⟨g0, 4, none⟩ = some (.int .i64 a0_4) := (blk_cell K0.out 4).trans rfl; have hcz16_5 : w15.cell? ⟨g0, 5, none⟩ = some (.int .i64 a0_5) := (blk_cell K0.out 5).trans rfl; have hcz16_6 : w15.cell? ⟨g0, 6, none⟩ = some (.bool a0_6) := (blk_cell K0.out 6).trans rfl; have hcz16_7 : w15.cell? ⟨g0, 7, none⟩ = some (.int .i64 a0_7) := (blk_cell K0.out 7).trans rfl; have hcz16_8 : w15.cell? ⟨g0, 8, none⟩ = some (.int .i64 a0_8) := (blk_cell K0.out 8).trans rfl; have hfz16_0 := blk_frozen K0.out 0; have hfz16_1 := blk_frozen K0.out 1; have hfz16_2 := blk_frozen K0.out 2; have hfz16_3 := blk_frozen K0.out 3; have hfz16_4 := blk_frozen K0.out 4; have hfz16_5 := blk_frozen K0.out 5; have hfz16_6 := blk_frozen K0.out 6; have hfz16_7 := blk_frozen K0.out 7; have hfz16_8 := blk_frozen K0.out 8) | (go_at_call 64; (with_reducible refine (wharfageref10_phaseMay.calls a0_7 false _ A6.out).mono ?_); rintro e w' ⟨rfl, ⟨nd, rfl⟩⟩))
     go_ret
     exact ⟨by first | rfl | (simp [errW_none, errW_some] <;> rfl) | (simp [*, errW_none, errW_some] <;> rfl), by repeat (first | (with_reducible first | exact HB.out | apply below_alloc | apply pw_below_drewN | apply below_drew1 | refine below_set ?_ E0.out) | exact HB.out)⟩
   ·rw [if_neg c5] at H
    have c5b0 : decide (a0_5 ≤ 255) = false := decide_eq_false c5
    clear c5
    obtain rfl := Option.some.inj H
    go_enter Try.func54, Try.ntmps54
    go_wp2_with (first | ((with_reducible refine gate_dst (N := 1) rfl ?_); refine box_event ?hg (N := 1) ?hd (cs := #[.int .i64 a0_0, .int .i64 a0_1, .int .i64 a0_2, .int .i64 a0_3, .int .i64 a0_4, .int .i64 a0_5, .bool a0_6, .int .i64 a0_7, .int .i64 a0_8]) (t := 50) ?hr ?_; (case hd => rfl); (case hg => rfl); (case hr => first | (go_simp; done) | (go_simp; rfl)); intro g0 hg w17 hbox hb; have n0_ := Aside0.mk (below_step (by repeat (first | (with_reducible first | exact HB.out | apply below_alloc | apply pw_below_drewN | apply below_drew1) | exact HB.out)) hb); have n1_ := Aside0.mk (hbox); have n2_ := Aside0.mk ((by rw [hg]; exact (below_size (by repeat (first | (with_reducible first | exact HB.out | apply below_alloc | apply pw_below_drewN | apply below_drew1) | exact HB.out))) : w.heap.size ≤ g0)); have n3_ := Aside0.mk ((by rw [hg]; exact (below_size (by repeat (first | (with_reducible first | exact HB.out | apply below_alloc | apply pw_below_drewN | apply below_drew1) | exact HB.out))) : w.heap.size ≤ g0)); clear HB; have HB := n0_; have K0 := n1_; have G0 := n2_; have E0 := n3_; clear n0_ n1_ n2_ n3_; clear hb hbox hg; have hcz18_0 : w17.cell? ⟨g0, 0, none⟩ = some (.int .i64 a0_0) := (blk_cell K0.out 0).trans rfl; have hcz18_1 : w17.cell? ⟨g0, 1, none⟩ = some (.int .i64 a0_1) := (blk_cell K0.out 1).trans rfl; have hcz18_2 : w17.cell? ⟨g0, 2, none⟩ = some (.int .i64 a0_2) := (blk_cell K0.out 2).trans rfl; have hcz18_3 : w17.cell? ⟨g0, 3, none⟩ = some (.int .i64 a0_3) := (blk_cell K0.out 3).trans rfl; have hcz18_4 : w17.cell? ⟨g0, 4, none⟩ = some (.int .i64 a0_4) := (blk_cell K0.out 4).trans rfl; have hcz18_5 : w17.cell? ⟨g0, 5, none⟩ = some (.int .i64 a0_5) := (blk_cell K0.out 5).trans rfl; have hcz18_6 : w17.cell? ⟨g0, 6, none⟩ = some (.bool a0_6) := (blk_cell K0.out 6).trans rfl; have hcz18_7 : w17.cell? ⟨g0, 7, none⟩ = some (.int .i64 a0_7) := (blk_cell K0.out 7).trans rfl; have hcz18_8 : w17.cell? ⟨g0, 8, none⟩ = some (.int .i64 a0_8) := (blk_cell K0.out 8).trans rfl; have hfz18_0 := blk_frozen K0.out 0; have hfz18_1 := blk_frozen K0.out 1; have hfz18_2 := blk_frozen K0.out 2; have hfz18_3 := blk_frozen K0.out 3; have hfz18_4 := blk_frozen K0.out 4; have hfz18_5 := blk_frozen K0.out 5; have hfz18_6 := blk_frozen K0.out 6; have hfz18_7 := blk_frozen K0.out 7; have hfz18_8 := blk_frozen K0.out 8) | ((with_reducible refine gate_callee (f := 63) rfl ?_); refine goesL_ (some 5) rfl rfl Try.func63 (by kernel_rfl) rfl #[.agg #[.int .i64 a0_0, .int .i64 a0_1, .int .i64 a0_2, .int .i64 a0_3, .int .i64 a0_4]] rfl (by (try simp only [List.map_toArray, List.map_cons, List.map_nil]); first | done | rfl | (simp only [List.length_drop, List.length_take]; rfl)) ?_; (with_reducible refine (wharfageref1_FlowMay.calls a0_0 a0_1 a0_2 a0_3 a0_4 true _ A2.out).mono ?_); rintro e w19 ⟨rfl, hb⟩; refine ⟨_, rfl, ?_⟩; have n0_ := Aside0.mk (blk_below (g := g0) (o := .cells #[.int .i64 a0_0, .int .i64 a0_1, .int .i64 a0_2, .int .i64 a0_3, .int .i64 a0_4, .int .i64 a0_5, .bool a0_6, .int .i64 a0_7, .int .i64 a0_8] 50 (0, 0)) (by (with_reducible repeat (first | refine blk_drewN ?_ _ | refine blk_drew ?_ | refine blk_alloc ?_ _)); exact K0.out) hb); have n1_ := Aside0.mk (below_step (by repeat (first | (with_reducible first | exact HB.out | apply below_alloc | apply pw_below_drewN | apply below_drew1 | refine below_set ?_ E0.out) | exact HB.out)) hb); clear K0; clear HB; have K0 := n0_; have HB := n1_; clear n0_ n1_; (try clear hb); (try clear hb2); (try clear hk); (try clear hi); have hcz20_0 : w19.cell? ⟨g0, 0, none⟩ = some (.int .i64 a0_0) := (blk_cell K0.out 0).trans rfl; have hcz20_1 : w19.cell? ⟨g0, 1, none⟩ = some (.int .i64 a0_1) := (blk_cell K0.out 1).trans rfl; have hcz20_2 : w19.cell? ⟨g0, 2, none⟩ = some (.int .i64 a0_2) := (blk_cell K0.out 2).trans rfl; have hcz20_3 : w19.cell? ⟨g0, 3, none⟩ = some (.int .i64 a0_3) := (blk_cell K0.out 3).trans rfl; have hcz20_4 : w19.cell? ⟨g0, 4, none⟩ = some (.int .i64 a0_4) := (blk_cell K0.out 4).trans rfl; have hcz20_5 : w19.cell? ⟨g0, 5, none⟩ = some (.int .i64 a0_5) := (blk_cell K0.out 5).trans rfl; have hcz20_6 : w19.cell? ⟨g0, 6, none⟩ = some (.bool a0_6) := (blk_cell K0.out 6).trans rfl; have hcz20_7 : w19.cell? ⟨g0, 7, none⟩ = some (.int .i64 a0_7) := (blk_cell K0.out 7).trans rfl; have hcz20_8 : w19.cell? ⟨g0, 8, none⟩ = some (.int .i64 a0_8) := (blk_cell K0.out 8).trans rfl; have hfz20_0 := blk_frozen K0.out 0; have hfz20_1 := blk_frozen K0.out 1; have hfz20_2 := blk_frozen K0.out 2; have hfz20_3 := blk_frozen K0.out 3; have hfz20_4 := blk_frozen K0.out 4; have hfz20_5 := blk_frozen K0.out 5; have hfz20_6 := blk_frozen K0.out 6; have hfz20_7 := blk_frozen K0.out 7; have hfz20_8 := blk_frozen K0.out 8))
    go_ret
    exact ⟨by first | rfl | (simp [errW_none, errW_some] <;> rfl) | (simp [*, errW_none, errW_some] <;> rfl), by repeat (first | (with_reducible first | exact HB.out | apply below_alloc | apply pw_below_drewN | apply below_drew1 | refine below_set ?_ E0.out) | exact HB.out)⟩
  ·rw [if_neg c4] at H
   have c4b0 : decide (0 ≤ a0_5) = false := decide_eq_false c4
   clear c4
   obtain rfl := Option.some.inj H
   go_enter Try.func54, Try.ntmps54
   go_wp2_with (first | ((with_reducible refine gate_dst (N := 1) rfl ?_); refine box_event ?hg (N := 1) ?hd (cs := #[.int .i64 a0_0, .int .i64 a0_1, .int .i64 a0_2, .int .i64 a0_3, .int .i64 a0_4, .int .i64 a0_5, .bool a0_6, .int .i64 a0_7, .int .i64 a0_8]) (t := 50) ?hr ?_; (case hd => rfl); (case hg => rfl); (case hr => first | (go_simp; done) | (go_simp; rfl)); intro g0 hg w21 hbox hb; have n0_ := Aside0.mk (below_step (by repeat (first | (with_reducible first | exact HB.out | apply below_alloc | apply pw_below_drewN | apply below_drew1) | exact HB.out)) hb); have n1_ := Aside0.mk (hbox); have n2_ := Aside0.mk ((by rw [hg]; exact (below_size (by repeat (first | (with_reducible first | exact HB.out | apply below_alloc | apply pw_below_drewN | apply below_drew1) | exact HB.out))) : w.heap.size ≤ g0)); have n3_ := Aside0.mk ((by rw [hg]; exact (below_size (by repeat (first | (with_reducible first | exact HB.out | apply below_alloc | apply pw_below_drewN | apply below_drew1) | exact HB.out))) : w.heap.size ≤ g0)); clear HB; have HB := n0_; have K0 := n1_; have G0 := n2_; have E0 := n3_; clear n0_ n1_ n2_ n3_; clear hb hbox hg; have hcz22_0 : w21.cell? ⟨g0, 0, none⟩ = some (.int .i64 a0_0) := (blk_cell K0.out 0).trans rfl; have hcz22_1 : w21.cell? ⟨g0, 1, none⟩ = some (.int .i64 a0_1) := (blk_cell K0.out 1).trans rfl; have hcz22_2 : w21.cell? ⟨g0, 2, none⟩ = some (.int .i64 a0_2) := (blk_cell K0.out 2).trans rfl; have hcz22_3 : w21.cell? ⟨g0, 3, none⟩ = some (.int .i64 a0_3) := (blk_cell K0.out 3).trans rfl; have hcz22_4 : w21.cell? ⟨g0, 4, none⟩ = some (.int .i64 a0_4) := (blk_cell K0.out 4).trans rfl; have hcz22_5 : w21.cell? ⟨g0, 5, none⟩ = some (.int .i64 a0_5) := (blk_cell K0.out 5).trans rfl; have hcz22_6 : w21.cell? ⟨g0, 6, none⟩ = some (.bool a0_6) := (blk_cell K0.out 6).trans rfl; have hcz22_7 : w21.cell? ⟨g0, 7, none⟩ = some (.int .i64 a0_7) := (blk_cell K0.out 7).trans rfl; have hcz22_8 : w21.cell? ⟨g0, 8, none⟩ = some (.int .i64 a0_8) := (blk_cell K0.out 8).trans rfl; have hfz22_0 := blk_frozen K0.out 0; have hfz22_1 := blk_frozen K0.out 1; have hfz22_2 := blk_frozen K0.out 2; have hfz22_3 := blk_frozen K0.out 3; have hfz22_4 := blk_frozen K0.out 4; have hfz22_5 := blk_frozen K0.out 5; have hfz22_6 := blk_frozen K0.out 6; have hfz22_7 := blk_frozen K0.out 7; have hfz22_8 := blk_frozen K0.out 8) | ((with_reducible refine gate_callee (f := 63) rfl ?_); refine goesL_ (some 5) rfl rfl Try.func63 (by kernel_rfl) rfl #[.agg #[.int .i64 a0_0, .int .i64 a0_1, .int .i64 a0_2, .int .i64 a0_3, .int .i64 a0_4]] rfl (by (try simp only [List.map_toArray, List.map_cons, List.map_nil]); first | done | rfl | (simp only [List.length_drop, List.length_take]; rfl)) ?_; (with_reducible refine (wharfageref1_FlowMay.calls a0_0 a0_1 a0_2 a0_3 a0_4 true _ A2.out).mono ?_); rintro e w23 ⟨rfl, hb⟩; refine ⟨_, rfl, ?_⟩; have n0_ := Aside0.mk (blk_below (g := g0) (o := .cells #[.int .i64 a0_0, .int .i64 a0_1, .int .i64 a0_2, .int .i64 a0_3, .int .i64 a0_4, .int .i64 a0_5, .bool a0_6, .int .i64 a0_7, .int .i64 a0_8] 50 (0, 0)) (by (with_reducible repeat (first | refine blk_drewN ?_ _ | refine blk_drew ?_ | refine blk_alloc ?_ _)); exact K0.out) hb); have n1_ := Aside0.mk (below_step (by repeat (first | (with_reducible first | exact HB.out | apply below_alloc | apply pw_below_drewN | apply below_drew1 | refine below_set ?_ E0.out) | exact HB.out)) hb); clear K0; clear HB; have K0 := n0_; have HB := n1_; clear n0_ n1_; (try clear hb); (try clear hb2); (try clear hk); (try clear hi); have hcz24_0 : w23.cell? ⟨g0, 0, none⟩ = some (.int .i64 a0_0) := (blk_cell K0.out 0).trans rfl; have hcz24_1 : w23.cell? ⟨g0, 1, none⟩ = some (.int .i64 a0_1) := (blk_cell K0.out 1).trans rfl; have hcz24_2 : w23.cell? ⟨g0, 2, none⟩ = some (.int .i64 a0_2) := (blk_cell K0.out 2).trans rfl; have hcz24_3 : w23.cell? ⟨g0, 3, none⟩ = some (.int .i64 a0_3) := (blk_cell K0.out 3).trans rfl; have hcz24_4 : w23.cell? ⟨g0, 4, none⟩ = some (.int .i64 a0_4) := (blk_cell K0.out 4).trans rfl; have hcz24_5 : w23.cell? ⟨g0, 5, none⟩ = some (.int .i64 a0_5) := (blk_cell K0.out 5).trans rfl; have hcz24_6 : w23.cell? ⟨g0, 6, none⟩ = some (.bool a0_6) := (blk_cell K0.out 6).trans rfl; have hcz24_7 : w23.cell? ⟨g0, 7, none⟩ = some (.int .i64 a0_7) := (blk_cell K0.out 7).trans rfl; have hcz24_8 : w23.cell? ⟨g0, 8, none⟩ = some (.int .i64 a0_8) := (blk_cell K0.out 8).trans rfl; have hfz24_0 := blk_frozen K0.out 0; have hfz24_1 := blk_frozen K0.out 1; have hfz24_2 := blk_frozen K0.out 2; have hfz24_3 := blk_frozen K0.out 3; have hfz24_4 := blk_frozen K0.out 4; have hfz24_5 := blk_frozen K0.out 5; have hfz24_6 := blk_frozen K0.out 6; have hfz24_7 := blk_frozen K0.out 7; have hfz24_8 := blk_frozen K0.out 8))
   go_ret
   exact ⟨by first | rfl | (simp [errW_none, errW_some] <;> rfl) | (simp [*, errW_none, errW_some] <;> rfl), by repeat (first | (with_reducible first | exact HB.out | apply below_alloc | apply pw_below_drewN | apply below_drew1 | refine below_set ?_ E0.out) | exact HB.out)⟩
 ·replace c3 := Bool.eq_false_iff.mpr c3
  subst c3
  have H1 : (some false) = some r := by rw [if_neg (show ¬ (false = true) by decide)] at H; exact H
  clear H
  have H := H1
  clear H1
  obtain rfl := Option.some.inj H
  go_enter Try.func54, Try.ntmps54
  go_wp2_with (first | ((with_reducible refine gate_dst (N := 1) rfl ?_); refine box_event ?hg (N := 1) ?hd (cs := #[.int .i64 a0_0, .int .i64 a0_1, .int .i64 a0_2, .int .i64 a0_3, .int .i64 a0_4, .int .i64 a0_5, .bool a0_6, .int .i64 a0_7, .int .i64 a0_8]) (t := 50) ?hr ?_; (case hd => rfl); (case hg => rfl); (case hr => first | (go_simp; done) | (go_simp; rfl)); intro g0 hg w25 hbox hb; have n0_ := Aside0.mk (below_step (by repeat (first | (with_reducible first | exact HB.out | apply below_alloc | apply pw_below_drewN | apply below_drew1) | exact HB.out)) hb); have n1_ := Aside0.mk (hbox); have n2_ := Aside0.mk ((by rw [hg]; exact (below_size (by repeat (first | (with_reducible first | exact HB.out | apply below_alloc | apply pw_below_drewN | apply below_drew1) | exact HB.out))) : w.heap.size ≤ g0)); have n3_ := Aside0.mk ((by rw [hg]; exact (below_size (by repeat (first | (with_reducible first | exact HB.out | apply below_alloc | apply pw_below_drewN | apply below_drew1) | exact HB.out))) : w.heap.size ≤ g0)); clear HB; have HB := n0_; have K0 := n1_; have G0 := n2_; have E0 := n3_; clear n0_ n1_ n2_ n3_; clear hb hbox hg; have hcz26_0 : w25.cell? ⟨g0, 0, none⟩ = some (.int .i64 a0_0) := (blk_cell K0.out 0).trans rfl; have hcz26_1 : w25.cell? ⟨g0, 1, none⟩ = some (.int .i64 a0_1) := (blk_cell K0.out 1).trans rfl; have hcz26_2 : w25.cell? ⟨g0, 2, none⟩ = some (.int .i64 a0_2) := (blk_cell K0.out 2).trans rfl; have hcz26_3 : w25.cell? ⟨g0, 3, none⟩ = some (.int .i64 a0_3) := (blk_cell K0.out 3).trans rfl; have hcz26_4 : w25.cell? ⟨g0, 4, none⟩ = some (.int .i64 a0_4) := (blk_cell K0.out 4).trans rfl; have hcz26_5 : w25.cell? ⟨g0, 5, none⟩ = some (.int .i64 a0_5) := (blk_cell K0.out 5).trans rfl; have hcz26_6 : w25.cell? ⟨g0, 6, none⟩ = some (.bool a0_6) := (blk_cell K0.out 6).trans rfl; have hcz26_7 : w25.cell? ⟨g0, 7, none⟩ = some (.int .i64 a0_7) := (blk_cell K0.out 7).trans rfl; have hcz26_8 : w25.cell? ⟨g0, 8, none⟩ = some (.int .i64 a0_8) := (blk_cell K0.out 8).trans rfl; have hfz26_0 := blk_frozen K0.out 0; have hfz26_1 := blk_frozen K0.out 1; have hfz26_2 := blk_frozen K0.out 2; have hfz26_3 := blk_frozen K0.out 3; have hfz26_4 := blk_frozen K0.out 4; have hfz26_5 := blk_frozen K0.out 5; have hfz26_6 := blk_frozen K0.out 6; have hfz26_7 := blk_frozen K0.out 7; have hfz26_8 := blk_frozen K0.out 8) | ((with_reducible refine gate_callee (f := 63) rfl ?_); refine goesL_ (some 5) rfl rfl Try.func63 (by kernel_rfl) rfl #[.agg #[.int .i64 a0_0, .int .i64 a0_1, .int .i64 a0_2, .int .i64 a0_3, .int .i64 a0_4]] rfl (by (try simp only [List.map_toArray, List.map_cons, List.map_nil]); first | done | rfl | (simp only [List.length_drop, List.length_take]; rfl)) ?_; (with_reducible refine (wharfageref1_FlowMay.calls a0_0 a0_1 a0_2 a0_3 a0_4 false _ A2.out).mono ?_); rintro e w27 ⟨rfl, hb⟩; refine ⟨_, rfl, ?_⟩; have n0_ := Aside0.mk (blk_below (g := g0) (o := .cells #[.int .i64 a0_0, .int .i64 a0_1, .int .i64 a0_2, .int .i64 a0_3, .int .i64 a0_4, .int .i64 a0_5, .bool a0_6, .int .i64 a0_7, .int .i64 a0_8] 50 (0, 0)) (by (with_reducible repeat (first | refine blk_drewN ?_ _ | refine blk_drew ?_ | refine blk_alloc ?_ _)); exact K0.out) hb); have n1_ := Aside0.mk (below_step (by repeat (first | (with_reducible first | exact HB.out | apply below_alloc | apply pw_below_drewN | apply below_drew1 | refine below_set ?_ E0.out) | exact HB.out)) hb); clear K0; clear HB; have K0 := n0_; have HB := n1_; clear n0_ n1_; (try clear hb); (try clear hb2); (try clear hk); (try clear hi)))
  go_ret
  exact ⟨by first | rfl | (simp [errW_none, errW_some] <;> rfl) | (simp [*, errW_none, errW_some] <;> rfl), by repeat (first | (with_reducible first | exact HB.out | apply below_alloc | apply pw_below_drewN | apply below_drew1 | refine below_set ?_ E0.out) | exact HB.out)⟩

end Go.Proofs.Ytlapbhgkmmeeoaa.PSpares
end
section
/- Contracts: what calls of these functions of the program do, each as a plain function; written by a program of this session. -/
namespace Go.Proofs.Ytlapbhgkmmeeoaa.PSpares
open Go.RowKit Go.Proofs.YtlapbhgkmmeeoaaW.PrintWords Go.Proofs.YtlapbhgkmmeeoaaW.PrintLast Go.Proofs.YtlapbhgkmmeeoaaW.PrintMore
attribute [local go_sem] max2_int min2_int max_two min_two max_three min_three max_four min_four   -- for this text's walks alone
set_option linter.unusedVariables false
set_option linter.unusedSimpArgs false

attribute [local go_sem high] eqA48
/-! ### wharfageref10_CacheMay: function 42 -/
mutual
def wharfageref10_CacheMay.l0 : Nat → List (S50) → Int → Option (Bool)
 | 0, _, _ => none
 | k + 1, x0, x3 => if x3 < (x0.length : Int) then (if 0 ≤ x3 then ((wharfageref10_EntryMay.f ((rd_T50 x0 x3).f0.f0) ((rd_T50 x0 x3).f0.f1) ((rd_T50 x0 x3).f0.f2) ((rd_T50 x0 x3).f0.f3) ((rd_T50 x0 x3).f0.f4) ((rd_T50 x0 x3).f1) ((rd_T50 x0 x3).f2) ((rd_T50 x0 x3).f3) ((rd_T50 x0 x3).f4)).bind fun t174 => (if t174 = true then (wharfageref10_CacheMay.l1 k x0 x3 0) else (some false))) else (none)) else (some (decide ((x0.length : Int) ≤ 8)))
def wharfageref10_CacheMay.l1 : Nat → List (S50) → Int → Int → Option (Bool)
 | 0, _, _, _ => none
 | k + 1, x0, x3, x4 => if x4 < x3 then (if 0 ≤ x4 then (if x4 < (x0.length : Int) then (if 0 ≤ x3 then (if x3 < (x0.length : Int) then (if (((rd_T50 x0 x4).f0.f0) == ((rd_T50 x0 x3).f0.f0) && (((rd_T50 x0 x4).f0.f1) == ((rd_T50 x0 x3).f0.f1) && (((rd_T50 x0 x4).f0.f2) == ((rd_T50 x0 x3).f0.f2) && (((rd_T50 x0 x4).f0.f3) == ((rd_T50 x0 x3).f0.f3) && (((rd_T50 x0 x4).f0.f4) == ((rd_T50 x0 x3).f0.f4)))))) = true then (some false) else (wharfageref10_CacheMay.l1 k x0 x3 (wrap64 (x4 + 1)))) else (none)) else (none)) else (none)) else (none)) else (wharfageref10_CacheMay.l0 k x0 (wrap64 (x3 + 1)))
end
def wharfageref10_CacheMay.f (k : Nat) (l0 : List (S50)) : Option (Bool) := wharfageref10_CacheMay.l0 k l0 0
theorem wharfageref10_CacheMay.mono_l : ∀ k, (∀ y0 y1, LeO (wharfageref10_CacheMay.l0 k y0 y1) (wharfageref10_CacheMay.l0 (k + 1) y0 y1)) ∧ (∀ y0 y1 y2, LeO (wharfageref10_CacheMay.l1 k y0 y1 y2) (wharfageref10_CacheMay.l1 (k + 1) y0 y1 y2))
 | 0 => ⟨fun _ _ r h => by simp [wharfageref10_CacheMay.l0] at h, fun _ _ _ r h => by simp [wharfageref10_CacheMay.l1] at h⟩
 | k + 1 => by
  obtain ⟨ih0, ih1⟩ := wharfageref10_CacheMay.mono_l k
  refine ⟨?_, ?_⟩
  ·intro y0 y1
   unfold wharfageref10_CacheMay.l0
   repeat' first
   | (with_reducible exact ih0 _ _)
   | (with_reducible exact ih1 _ _ _)
   | (with_reducible exact LeO.refl _)
   | (with_reducible exact LeO.none _)
   | (with_reducible refine LeO.ite ?_ ?_)
   | (with_reducible refine LeO.bind ?_ (fun _ => ?_))
   | exact ih0 _ _
   | exact ih1 _ _ _
   | exact LeO.none _
   | refine LeO.ite ?_ ?_
   | refine LeO.bind ?_ (fun _ => ?_)
  ·intro y0 y1 y2
   unfold wharfageref10_CacheMay.l1
   repeat' first
   | (with_reducible exact ih0 _ _)
   | (with_reducible exact ih1 _ _ _)
   | (with_reducible exact LeO.refl _)
   | (with_reducible exact LeO.none _)
   | (with_reducible refine LeO.ite ?_ ?_)
   | (with_reducible refine LeO.bind ?_ (fun _ => ?_))
   | exact ih0 _ _
   | exact ih1 _ _ _
   | exact LeO.none _
   | refine LeO.ite ?_ ?_
   | refine LeO.bind ?_ (fun _ => ?_)
theorem wharfageref10_CacheMay.mono : ∀ a0 k, LeO (wharfageref10_CacheMay.f k a0) (wharfageref10_CacheMay.f (k + 1) a0) := by
 intro a0 k
 obtain ⟨ih0, ih1⟩ := wharfageref10_CacheMay.mono_l k
 unfold wharfageref10_CacheMay.f
 repeat' first
   | (with_reducible exact ih0 _ _)
   | (with_reducible exact ih1 _ _ _)
   | (with_reducible exact LeO.refl _)
   | (with_reducible exact LeO.none _)
   | (with_reducible refine LeO.ite ?_ ?_)
   | (with_reducible refine LeO.bind ?_ (fun _ => ?_))
   | exact ih0 _ _
   | exact ih1 _ _ _
   | exact LeO.none _
   | refine LeO.ite ?_ ?_
   | refine LeO.bind ?_ (fun _ => ?_)
set_option maxHeartbeats 8000000 in
set_option maxRecDepth 100000 in
theorem wharfageref10_CacheMay.calls (k : Nat) (A0 : Option Addr) (c0 : Nat) (l0 : List (S50)) (r : Bool) (w : World) (hr0 : Kd.C k50 w A0 l0.length l0) (hc0 : l0.length ≤ c0) (h : wharfageref10_CacheMay.f k l0 = some r) :
  Calls Try.prog 42 #[.slice A0 l0.length c0] w fun e w' => e = .returned (.bool r) ∧ Below w.heap.size w w' := by
 have hu50 := Try.underlying50
 have hu48 := Try.underlying48
 have HR0 := Aside0.mk hr0
 have HC0 := Aside0.mk hc0
 clear hr0 hc0
 have HB := Aside0.mk (Below.refl w.heap.size w)
 have H : (wharfageref10_CacheMay.l0 k l0 0) = some r := h
 clear h
 have H' := Aside0.mk H
 clear H
 go_enter Try.func42, Try.ntmps42
 go_wp2
 repeat (go_quiet (fail); try go_wp2)
 go_loopg [3] k (fun kq v3 w' => ∃ (x3_1 : Int), v3 = .int .i64 x3_1 ∧ Aside0 (wharfageref10_CacheMay.l0 kq l0 x3_1 = some r) ∧ Aside0 (kq ≤ k) ∧ Aside0 (Below w.heap.size w w'))
 case atStart => exact ⟨(0), (by first | rfl | (simp; done) | (simp [*]; done)), H', ⟨Nat.le_refl _⟩, ⟨by repeat (first | (with_reducible first | exact HB.out | apply below_alloc | apply pw_below_drewN | apply below_drew1) | exact HB.out)⟩⟩
 case round =>
  clear H'
  obtain ⟨x3_1, rfl, HA, HK1, HB⟩ := hrel
  cases gk with
  | zero => exact absurd HA.out (by simp [wharfageref10_CacheMay.l0])
  | succ k1 =>
   have H := HA.out
   clear HA
   simp only [wharfageref10_CacheMay.l0] at H
   by_cases c2 : x3_1 < (l0.length : Int)
   ·rw [if_pos c2] at H
    have c2b0 : decide (x3_1 < (l0.length : Int)) = true := decide_eq_true c2
    clear c2
    by_cases c3 : 0 ≤ x3_1
    ·rw [if_pos c3] at H
     have c3b0 : decide (0 ≤ x3_1) = true := decide_eq_true c3
     clear c3
     replace H := Option.bind_eq_some_iff.mp H
     obtain ⟨t174, A40, H⟩ := H
     replace H : (if t174 = true then (wharfageref10_CacheMay.l1 k1 l0 x3_1 0) else (some false)) = some r := H
     have A4 := Aside0.mk A40
     clear A40
     by_cases c5 : t174 = true
     ·subst c5
      have H1 : (wharfageref10_CacheMay.l1 k1 l0 x3_1 0) = some r := by rw [if_pos rfl] at H; exact H
      clear H
      have H := H1
      clear H1
      have H' := Aside0.mk H
      clear H
      have p173 : 0 ≤ (x3_1 : Int) := of_decide_eq_true (by first | (with_reducible assumption) | assumption)
      have q173 : x3_1 < (l0.length : Int) := of_decide_eq_true (by first | (with_reducible assumption) | assumption)
      obtain ⟨ad173, e173, hx173_0, hx173_1, hx173_2, hx173_3, hx173_4, hx173_5, hx173_6, hx173_7, hx173_8⟩ := at_T50 HR0.out x3_1 p173 q173
      cases e173
      replace hx173_0 := (HB.out.cell (World.block_lt_of_cell? w _ hx173_0)).trans hx173_0
      replace hx173_1 := (HB.out.cell (World.block_lt_of_cell? w _ hx173_1)).trans hx173_1
      replace hx173_2 := (HB.out.cell (World.block_lt_of_cell? w _ hx173_2)).trans hx173_2
      replace hx173_3 := (HB.out.cell (World.block_lt_of_cell? w _ hx173_3)).trans hx173_3
      replace hx173_4 := (HB.out.cell (World.block_lt_of_cell? w _ hx173_4)).trans hx173_4
      replace hx173_5 := (HB.out.cell (World.block_lt_of_cell? w _ hx173_5)).trans hx173_5
      replace hx173_6 := (HB.out.cell (World.block_lt_of_cell? w _ hx173_6)).trans hx173_6
      replace hx173_7 := (HB.out.cell (World.block_lt_of_cell? w _ hx173_7)).trans hx173_7
      replace hx173_8 := (HB.out.cell (World.block_lt_of_cell? w _ hx173_8)).trans hx173_8
      replace p173 := eq_true p173
      replace q173 := eq_true q173
      go_wp2_with (first | (go_at_call 54; (with_reducible refine (wharfageref10_EntryMay.calls ((rd_T50 l0 x3_1).f0.f0) ((rd_T50 l0 x3_1).f0.f1) ((rd_T50 l0 x3_1).f0.f2) ((rd_T50 l0 x3_1).f0.f3) ((rd_T50 l0 x3_1).f0.f4) ((rd_T50 l0 x3_1).f1) ((rd_T50 l0 x3_1).f2) ((rd_T50 l0 x3_1).f3) ((rd_T50 l0 x3_1).f4) true _ A4.out).mono ?_); rintro e w6 ⟨rfl, hb⟩; have n0_ := Aside0.mk (below_step (by repeat (first | (with_reducible first | exact HB.out | apply below_alloc | apply pw_below_drewN | apply below_drew1) | exact HB.out)) hb); clear HB; have HB := n0_; clear n0_; (try clear hb); (try clear hb2); (try clear hk); (try clear hi)))
      repeat (go_quiet (first | (go_at_call 54; (with_reducible refine (wharfageref10_EntryMay.calls ((rd_T50 l0 x3_1).f0.f0) ((rd_T50 l0 x3_1).f0.f1) ((rd_T50 l0 x3_1).f0.f2) ((rd_T50 l0 x3_1).f0.f3) ((rd_T50 l0 x3_1).f0.f4) ((rd_T50 l0 x3_1).f1) ((rd_T50 l0 x3_1).f2) ((rd_T50 l0 x3_1).f3) ((rd_T50 l0 x3_1).f4) true _ A4.out).mono ?_); rintro e w6 ⟨rfl, hb⟩; have n0_ := Aside0.mk (below_step (by repeat (first | (with_reducible first | exact HB.out | apply below_alloc | apply pw_below_drewN | apply below_drew1) | exact HB.out)) hb); clear HB; have HB := n0_; clear n0_; (try clear hb); (try clear hb2); (try clear hk); (try clear hi))); try go_wp2_with (first | (go_at_call 54; (with_reducible refine (wharfageref10_EntryMay.calls ((rd_T50 l0 x3_1).f0.f0) ((rd_T50 l0 x3_1).f0.f1) ((rd_T50 l0 x3_1).f0.f2) ((rd_T50 l0 x3_1).f0.f3) ((rd_T50 l0 x3_1).f0.f4) ((rd_T50 l0 x3_1).f1) ((rd_T50 l0 x3_1).f2) ((rd_T50 l0 x3_1).f3) ((rd_T50 l0 x3_1).f4) true _ A4.out).mono ?_); rintro e w6 ⟨rfl, hb⟩; have n0_ := Aside0.mk (below_step (by repeat (first | (with_reducible first | exact HB.out | apply below_alloc | apply pw_below_drewN | apply below_drew1) | exact HB.out)) hb); clear HB; have HB := n0_; clear n0_; (try clear hb); (try clear hb2); (try clear hk); (try clear hi))))
      go_loopg [4] k1 (fun kq v4 w' => ∃ (x4_2 : Int), v4 = .int .i64 x4_2 ∧ Aside0 (wharfageref10_CacheMay.l1 kq l0 x3_1 x4_2 = some r) ∧ Aside0 (kq ≤ k1) ∧ Aside0 (Below w.heap.size w w'))
      case atStart => exact ⟨(0), (by first | rfl | (simp; done) | (simp [*]; done)), H', ⟨Nat.le_refl _⟩, ⟨by repeat (first | (with_reducible first | exact HB.out | apply below_alloc | apply pw_below_drewN | apply below_drew1) | exact HB.out)⟩⟩
      case round =>
       clear H'
       try clear p1
       try clear q1
       try clear hx1
       try clear c2
       try clear c2b0
       try clear p2
       try clear c3
       try clear c3b0
       try clear c4
       try clear c5
       try clear hx173_0
       try clear hx173_1
       try clear hx173_2
       try clear hx173_3
       try clear hx173_4
       try clear hx173_5
       try clear hx173_6
       try clear hx173_7
       try clear hx173_8
       try clear p173
       try clear q173
       obtain ⟨x4_2, rfl, HA, HK2, HB⟩ := hrel
       cases gk with
       | zero => exact absurd HA.out (by simp [wharfageref10_CacheMay.l1])
       | succ k2 =>
        have H := HA.out
        clear HA
        simp only [wharfageref10_CacheMay.l1] at H
        by_cases c7 : x4_2 < x3_1
        ·rw [if_pos c7] at H
         have c7b0 : decide (x4_2 < x3_1) = true := decide_eq_true c7
         clear c7
         by_cases c8 : 0 ≤ x4_2
         ·rw [if_pos c8] at H
          have c8b0 : decide (0 ≤ x4_2) = true := decide_eq_true c8
          clear c8
          by_cases c9 : x4_2 < (l0.length : Int)
          ·rw [if_pos c9] at H
           have c9b0 : decide (x4_2 < (l0.length : Int)) = true := decide_eq_true c9
           clear c9
           by_cases c10 : 0 ≤ x3_1
           ·rw [if_pos c10] at H
            have c10b0 : decide (0 ≤ x3_1) = true := decide_eq_true c10
            clear c10
            by_cases c11 : x3_1 < (l0.length : Int)
            ·rw [if_pos c11] at H
             have c11b0 : decide (x3_1 < (l0.length : Int)) = true := decide_eq_true c11
             clear c11
             by_cases c12 : (((rd_T50 l0 x4_2).f0.f0) == ((rd_T50 l0 x3_1).f0.f0) && (((rd_T50 l0 x4_2).f0.f1) == ((rd_T50 l0 x3_1).f0.f1) && (((rd_T50 l0 x4_2).f0.f2) == ((rd_T50 l0 x3_1).f0.f2) && (((rd_T50 l0 x4_2).f0.f3) == ((rd_T50 l0 x3_1).f0.f3) && (((rd_T50 l0 x4_2).f0.f4) == ((rd_T50 l0 x3_1).f0.f4)))))) = true
             ·rw [if_pos c12] at H
              have c12b0 : (((rd_T50 l0 x4_2).f0.f0) == ((rd_T50 l0 x3_1).f0.f0) && (((rd_T50 l0 x4_2).f0.f1) == ((rd_T50 l0 x3_1).f0.f1) && (((rd_T50 l0 x4_2).f0.f2) == ((rd_T50 l0 x3_1).f0.f2) && (((rd_T50 l0 x4_2).f0.f3) == ((rd_T50 l0 x3_1).f0.f3) && (((rd_T50 l0 x4_2).f0.f4) == ((rd_T50 l0 x3_1).f0.f4)))))) = true := c12
              (try (have c12b1 : decide (((rd_T50 l0 x4_2).f0.f0) = ((rd_T50 l0 x3_1).f0.f0) && (((rd_T50 l0 x4_2).f0.f1) == ((rd_T50 l0 x3_1).f0.f1) && (((rd_T50 l0 x4_2).f0.f2) == ((rd_T50 l0 x3_1).f0.f2) && (((rd_T50 l0 x4_2).f0.f3) == ((rd_T50 l0 x3_1).f0.f3) && (((rd_T50 l0 x4_2).f0.f4) == ((rd_T50 l0 x3_1).f0.f4)))))) = true := by simpa using c12))
              (try (have c12b2 : (((rd_T50 l0 x4_2).f0.f0) == ((rd_T50 l0 x3_1).f0.f0) && (((rd_T50 l0 x4_2).f0.f1) == ((rd_T50 l0 x3_1).f0.f1) && (((rd_T50 l0 x4_2).f0.f2) == ((rd_T50 l0 x3_1).f0.f2) && (((rd_T50 l0 x4_2).f0.f3) == ((rd_T50 l0 x3_1).f0.f3) && (((rd_T50 l0 x4_2).f0.f4) == ((rd_T50 l0 x3_1).f0.f4)))))) = true := by simpa using c12))
              clear c12
              obtain rfl := Option.some.inj H
              have p175 : 0 ≤ (x4_2 : Int) := of_decide_eq_true (by first | (with_reducible assumption) | assumption)
              have q175 : x4_2 < (l0.length : Int) := of_decide_eq_true (by first | (with_reducible assumption) | assumption)
              obtain ⟨ad175, e175, hx175_0, hx175_1, hx175_2, hx175_3, hx175_4, hx175_5, hx175_6, hx175_7, hx175_8⟩ := at_T50 HR0.out x4_2 p175 q175
              obtain rfl : ad173 = ad175 := (by injection e175)
              replace hx175_0 := (HB.out.cell (World.block_lt_of_cell? w _ hx175_0)).trans hx175_0
              replace hx175_1 := (HB.out.cell (World.block_lt_of_cell? w _ hx175_1)).trans hx175_1
              replace hx175_2 := (HB.out.cell (World.block_lt_of_cell? w _ hx175_2)).trans hx175_2
              replace hx175_3 := (HB.out.cell (World.block_lt_of_cell? w _ hx175_3)).trans hx175_3
              replace hx175_4 := (HB.out.cell (World.block_lt_of_cell? w _ hx175_4)).trans hx175_4
              replace hx175_5 := (HB.out.cell (World.block_lt_of_cell? w _ hx175_5)).trans hx175_5
              replace hx175_6 := (HB.out.cell (World.block_lt_of_cell? w _ hx175_6)).trans hx175_6
              replace hx175_7 := (HB.out.cell (World.block_lt_of_cell? w _ hx175_7)).trans hx175_7
              replace hx175_8 := (HB.out.cell (World.block_lt_of_cell? w _ hx175_8)).trans hx175_8
              replace p175 := eq_true p175
              replace q175 := eq_true q175
              have p176 : 0 ≤ (x3_1 : Int) := of_decide_eq_true (by first | (with_reducible assumption) | assumption)
              have q176 : x3_1 < (l0.length : Int) := of_decide_eq_true (by first | (with_reducible assumption) | assumption)
              obtain ⟨ad176, e176, hx176_0, hx176_1, hx176_2, hx176_3, hx176_4, hx176_5, hx176_6, hx176_7, hx176_8⟩ := at_T50 HR0.out x3_1 p176 q176
              obtain rfl : ad173 = ad176 := (by injection e176)
              replace hx176_0 := (HB.out.cell (World.block_lt_of_cell? w _ hx176_0)).trans hx176_0
              replace hx176_1 := (HB.out.cell (World.block_lt_of_cell? w _ hx176_1)).trans hx176_1
              replace hx176_2 := (HB.out.cell (World.block_lt_of_cell? w _ hx176_2)).trans hx176_2
              replace hx176_3 := (HB.out.cell (World.block_lt_of_cell? w _ hx176_3)).trans hx176_3
              replace hx176_4 := (HB.out.cell (World.block_lt_of_cell? w _ hx176_4)).trans hx176_4
              replace hx176_5 := (HB.out.cell (World.block_lt_of_cell? w _ hx176_5)).trans hx176_5
              replace hx176_6 := (HB.out.cell (World.block_lt_of_cell? w _ hx176_6)).trans hx176_6
              replace hx176_7 := (HB.out.cell (World.block_lt_of_cell? w _ hx176_7)).trans hx176_7
              replace hx176_8 := (HB.out.cell (World.block_lt_of_cell? w _ hx176_8)).trans hx176_8
              replace p176 := eq_true p176
              replace q176 := eq_true q176
              go_wp2
              repeat (go_quiet (fail); try go_wp2)
              go_ret
              exact ⟨by first | rfl | (simp [errW_none, errW_some] <;> rfl) | (simp [*, errW_none, errW_some] <;> rfl), by repeat (first | (with_reducible first | exact HB.out | apply below_alloc | apply pw_below_drewN | apply below_drew1) | exact HB.out)⟩
             ·rw [if_neg c12] at H
              have c12b0 : (((rd_T50 l0 x4_2).f0.f0) == ((rd_T50 l0 x3_1).f0.f0) && (((rd_T50 l0 x4_2).f0.f1) == ((rd_T50 l0 x3_1).f0.f1) && (((rd_T50 l0 x4_2).f0.f2) == ((rd_T50 l0 x3_1).f0.f2) && (((rd_T50 l0 x4_2).f0.f3) == ((rd_T50 l0 x3_1).f0.f3) && (((rd_T50 l0 x4_2).f0.f4) == ((rd_T50 l0 x3_1).f0.f4)))))) = false := by simpa using c12
              (try (have c12b1 : decide (((rd_T50 l0 x4_2).f0.f0) = ((rd_T50 l0 x3_1).f0.f0) && (((rd_T50 l0 x4_2).f0.f1) == ((rd_T50 l0 x3_1).f0.f1) && (((rd_T50 l0 x4_2).f0.f2) == ((rd_T50 l0 x3_1).f0.f2) && (((rd_T50 l0 x4_2).f0.f3) == ((rd_T50 l0 x3_1).f0.f3) && (((rd_T50 l0 x4_2).f0.f4) == ((rd_T50 l0 x3_1).f0.f4)))))) = false := by simpa using c12))
              (try (have c12b2 : (((rd_T50 l0 x4_2).f0.f0) == ((rd_T50 l0 x3_1).f0.f0) && (((rd_T50 l0 x4_2).f0.f1) == ((rd_T50 l0 x3_1).f0.f1) && (((rd_T50 l0 x4_2).f0.f2) == ((rd_T50 l0 x3_1).f0.f2) && (((rd_T50 l0 x4_2).f0.f3) == ((rd_T50 l0 x3_1).f0.f3) && (((rd_T50 l0 x4_2).f0.f4) == ((rd_T50 l0 x3_1).f0.f4)))))) = false := by simpa using c12))
              (try (have c12b3 : ¬ (((rd_T50 l0 x4_2).f0.f0) = ((rd_T50 l0 x3_1).f0.f0) && (((rd_T50 l0 x4_2).f0.f1) == ((rd_T50 l0 x3_1).f0.f1) && (((rd_T50 l0 x4_2).f0.f2) == ((rd_T50 l0 x3_1).f0.f2) && (((rd_T50 l0 x4_2).f0.f3) == ((rd_T50 l0 x3_1).f0.f3) && (((rd_T50 l0 x4_2).f0.f4) == ((rd_T50 l0 x3_1).f0.f4)))))) := by simpa using c12))
              clear c12
              have H' := Aside0.mk H
              clear H
              have p175 : 0 ≤ (x4_2 : Int) := of_decide_eq_true (by first | (with_reducible assumption) | assumption)
              have q175 : x4_2 < (l0.length : Int) := of_decide_eq_true (by first | (with_reducible assumption) | assumption)
              obtain ⟨ad175, e175, hx175_0, hx175_1, hx175_2, hx175_3, hx175_4, hx175_5, hx175_6, hx175_7, hx175_8⟩ := at_T50 HR0.out x4_2 p175 q175
              obtain rfl : ad173 = ad175 := (by injection e175)
              replace hx175_0 := (HB.out.cell (World.block_lt_of_cell? w _ hx175_0)).trans hx175_0
              replace hx175_1 := (HB.out.cell (World.block_lt_of_cell? w _ hx175_1)).trans hx175_1
              replace hx175_2 := (HB.out.cell (World.block_lt_of_cell? w _ hx175_2)).trans hx175_2
              replace hx175_3 := (HB.out.cell (World.block_lt_of_cell? w _ hx175_3)).trans hx175_3
              replace hx175_4 := (HB.out.cell (World.block_lt_of_cell? w _ hx175_4)).trans hx175_4
              replace hx175_5 := (HB.out.cell (World.block_lt_of_cell? w _ hx175_5)).trans hx175_5
              replace hx175_6 := (HB.out.cell (World.block_lt_of_cell? w _ hx175_6)).trans hx175_6
              replace hx175_7 := (HB.out.cell (World.block_lt_of_cell? w _ hx175_7)).trans hx175_7
              replace hx175_8 := (HB.out.cell (World.block_lt_of_cell? w _ hx175_8)).trans hx175_8
              replace p175 := eq_true p175
              replace q175 := eq_true q175
              have p176 : 0 ≤ (x3_1 : Int) := of_decide_eq_true (by first | (with_reducible assumption) | assumption)
              have q176 : x3_1 < (l0.length : Int) := of_decide_eq_true (by first | (with_reducible assumption) | assumption)
              obtain ⟨ad176, e176, hx176_0, hx176_1, hx176_2, hx176_3, hx176_4, hx176_5, hx176_6, hx176_7, hx176_8⟩ := at_T50 HR0.out x3_1 p176 q176
              obtain rfl : ad173 = ad176 := (by injection e176)
              replace hx176_0 := (HB.out.cell (World.block_lt_of_cell? w _ hx176_0)).trans hx176_0
              replace hx176_1 := (HB.out.cell (World.block_lt_of_cell? w _ hx176_1)).trans hx176_1
              replace hx176_2 := (HB.out.cell (World.block_lt_of_cell? w _ hx176_2)).trans hx176_2
              replace hx176_3 := (HB.out.cell (World.block_lt_of_cell? w _ hx176_3)).trans hx176_3
              replace hx176_4 := (HB.out.cell (World.block_lt_of_cell? w _ hx176_4)).trans hx176_4
              replace hx176_5 := (HB.out.cell (World.block_lt_of_cell? w _ hx176_5)).trans hx176_5
              replace hx176_6 := (HB.out.cell (World.block_lt_of_cell? w _ hx176_6)).trans hx176_6
              replace hx176_7 := (HB.out.cell (World.block_lt_of_cell? w _ hx176_7)).trans hx176_7
              replace hx176_8 := (HB.out.cell (World.block_lt_of_cell? w _ hx176_8)).trans hx176_8
              replace p176 := eq_true p176
              replace q176 := eq_true q176
              go_wp2
              repeat (go_quiet (fail); try go_wp2)
              go_roundg k2
              case measure => have := HK1.out; have := HK2.out; omega
              case rel => exact ⟨(wrap64 (x4_2 + 1)), (by first | rfl | (simp; done) | (simp [*]; done)), H', ⟨by have := HK1.out; have := HK2.out; omega⟩, ⟨by repeat (first | (with_reducible first | exact HB.out | apply below_alloc | apply pw_below_drewN | apply below_drew1) | exact HB.out)⟩⟩
            ·rw [if_neg c11] at H
             exact absurd H (by simp)
           ·rw [if_neg c10] at H
            exact absurd H (by simp)
          ·rw [if_neg c9] at H
           exact absurd H (by simp)
         ·rw [if_neg c8] at H
          exact absurd H (by simp)
        ·rw [if_neg c7] at H
         have c7b0 : decide (x4_2 < x3_1) = false := decide_eq_false c7
         clear c7
         have H' := Aside0.mk H
         clear H
         go_wp2
         repeat (go_quiet (fail); try go_wp2)
         go_roundg k2
         case measure => have := HK1.out; have := HK2.out; omega
         case rel => exact ⟨(wrap64 (x3_1 + 1)), (by first | rfl | (simp; done) | (simp [*]; done)), H', ⟨by have := HK1.out; have := HK2.out; omega⟩, ⟨by repeat (first | (with_reducible first | exact HB.out | apply below_alloc | apply pw_below_drewN | apply below_drew1) | exact HB.out)⟩⟩
     ·replace c5 := Bool.eq_false_iff.mpr c5
      subst c5
      have H1 : (some false) = some r := by rw [if_neg (show ¬ (false = true) by decide)] at H; exact H
      clear H
      have H := H1
      clear H1
      obtain rfl := Option.some.inj H
      have p173 : 0 ≤ (x3_1 : Int) := of_decide_eq_true (by first | (with_reducible assumption) | assumption)
      have q173 : x3_1 < (l0.length : Int) := of_decide_eq_true (by first | (with_reducible assumption) | assumption)
      obtain ⟨ad173, e173, hx173_0, hx173_1, hx173_2, hx173_3, hx173_4, hx173_5, hx173_6, hx173_7, hx173_8⟩ := at_T50 HR0.out x3_1 p173 q173
      cases e173
      replace hx173_0 := (HB.out.cell (World.block_lt_of_cell? w _ hx173_0)).trans hx173_0
      replace hx173_1 := (HB.out.cell (World.block_lt_of_cell? w _ hx173_1)).trans hx173_1
      replace hx173_2 := (HB.out.cell (World.block_lt_of_cell? w _ hx173_2)).trans hx173_2
      replace hx173_3 := (HB.out.cell (World.block_lt_of_cell? w _ hx173_3)).trans hx173_3
      replace hx173_4 := (HB.out.cell (World.block_lt_of_cell? w _ hx173_4)).trans hx173_4
      replace hx173_5 := (HB.out.cell (World.block_lt_of_cell? w _ hx173_5)).trans hx173_5
      replace hx173_6 := (HB.out.cell (World.block_lt_of_cell? w _ hx173_6)).trans hx173_6
      replace hx173_7 := (HB.out.cell (World.block_lt_of_cell? w _ hx173_7)).trans hx173_7
      replace hx173_8 := (HB.out.cell (World.block_lt_of_cell? w _ hx173_8)).trans hx173_8
      replace p173 := eq_true p173
      replace q173 := eq_true q173
      go_wp2_with (first | (go_at_call 54; (with_reducible refine (wharfageref10_EntryMay.calls ((rd_T50 l0 x3_1).f0.f0) ((rd_T50 l0 x3_1).f0.f1) ((rd_T50 l0 x3_1).f0.f2) ((rd_T50 l0 x3_1).f0.f3) ((rd_T50 l0 x3_1).f0.f4) ((rd_T50 l0 x3_1).f1) ((rd_T50 l0 x3_1).f2) ((rd_T50 l0 x3_1).f3) ((rd_T50 l0 x3_1).f4) false _ A4.out).mono ?_); rintro e w13 ⟨rfl, hb⟩; have n0_ := Aside0.mk (below_step (by repeat (first | (with_reducible first | exact HB.out | apply below_alloc | apply pw_below_drewN | apply below_drew1) | exact HB.out)) hb); clear HB; have HB := n0_; clear n0_; (try clear hb); (try clear hb2); (try clear hk); (try clear hi)))
      repeat (go_quiet (first | (go_at_call 54; (with_reducible refine (wharfageref10_EntryMay.calls ((rd_T50 l0 x3_1).f0.f0) ((rd_T50 l0 x3_1).f0.f1) ((rd_T50 l0 x3_1).f0.f2) ((rd_T50 l0 x3_1).f0.f3) ((rd_T50 l0 x3_1).f0.f4) ((rd_T50 l0 x3_1).f1) ((rd_T50 l0 x3_1).f2) ((rd_T50 l0 x3_1).f3) ((rd_T50 l0 x3_1).f4) false _ A4.out).mono ?_); rintro e w13 ⟨rfl, hb⟩; have n0_ := Aside0.mk (below_step (by repeat (first | (with_reducible first | exact HB.out | apply below_alloc | apply pw_below_drewN | apply below_drew1) | exact HB.out)) hb); clear HB; have HB := n0_; clear n0_; (try clear hb); (try clear hb2); (try clear hk); (try clear hi))); try go_wp2_with (first | (go_at_call 54; (with_reducible refine (wharfageref10_EntryMay.calls ((rd_T50 l0 x3_1).f0.f0) ((rd_T50 l0 x3_1).f0.f1) ((rd_T50 l0 x3_1).f0.f2) ((rd_T50 l0 x3_1).f0.f3) ((rd_T50 l0 x3_1).f0.f4) ((rd_T50 l0 x3_1).f1) ((rd_T50 l0 x3_1).f2) ((rd_T50 l0 x3_1).f3) ((rd_T50 l0 x3_1).f4) false _ A4.out).mono ?_); rintro e w13 ⟨rfl, hb⟩; have n0_ := Aside0.mk (below_step (by repeat (first | (with_reducible first | exact HB.out | apply below_alloc | apply pw_below_drewN | apply below_drew1) | exact HB.out)) hb); clear HB; have HB := n0_; clear n0_; (try clear hb); (try clear hb2); (try clear hk); (try clear hi))))
      go_ret
      exact ⟨by first | rfl | (simp [errW_none, errW_some] <;> rfl) | (simp [*, errW_none, errW_some] <;> rfl), by repeat (first | (with_reducible first | exact HB.out | apply below_alloc | apply pw_below_drewN | apply below_drew1) | exact HB.out)⟩
    ·rw [if_neg c3] at H
     exact absurd H (by simp)
   ·rw [if_neg c2] at H
    have c2b0 : decide (x3_1 < (l0.length : Int)) = false := decide_eq_false c2
    clear c2
    obtain rfl := Option.some.inj H
    go_wp2
    repeat (go_quiet (fail); try go_wp2)
    go_ret
    exact ⟨by first | rfl | (simp [errW_none, errW_some] <;> rfl) | (simp [*, errW_none, errW_some] <;> rfl), by repeat (first | (with_reducible first | exact HB.out | apply below_alloc | apply pw_below_drewN | apply below_drew1) | exact HB.out)⟩

end Go.Proofs.Ytlapbhgkmmeeoaa.PSpares
end
section
/- Contracts: what calls of these functions of the program do, each as a plain function; written by a program of this session. -/
namespace Go.Proofs.Ytlapbhgkmmeeoaa.PSpares
open Go.RowKit Go.Proofs.YtlapbhgkmmeeoaaW.PrintWords Go.Proofs.YtlapbhgkmmeeoaaW.PrintLast Go.Proofs.YtlapbhgkmmeeoaaW.PrintMore
attribute [local go_sem] max2_int min2_int max_two min_two max_three min_three max_four min_four   -- for this text's walks alone
set_option linter.unusedVariables false
set_option linter.unusedSimpArgs false

/-! ### wharfageref10_spareMay: function 20 -/
def wharfageref10_spareMay.f (k : Nat) (a0_0 : Int) (a0_1 : Int) (l0_2 : List (S53)) (l0_3 : List (S86)) (l0_4 : List (S91)) (l0_5 : List (S50)) (a0_6 : Int) : Option (Bool) := (wharfageref10_ConfMay.f k a0_1 l0_2).bind fun t178 => (if t178 = true then (if a0_0 ≥ 0 then (if a0_0 < 3 then ((wharfageref10_healthsMay.f k l0_3 4).bind fun t179 => (if t179 = true then ((wharfageref10_ViewMay.f k l0_4).bind fun t180 => (if t180 = true then ((wharfageref10_CacheMay.f k l0_5).bind fun t181 => (some t181)) else (some false))) else (some false))) else (some false)) else (some false)) else (some false))
theorem wharfageref10_spareMay.mono : ∀ a0 a1 a2 a3 a4 a5 a6 k, LeO (wharfageref10_spareMay.f k a0 a1 a2 a3 a4 a5 a6) (wharfageref10_spareMay.f (k + 1) a0 a1 a2 a3 a4 a5 a6) := by
 intro a0 a1 a2 a3 a4 a5 a6 k
 unfold wharfageref10_spareMay.f
 repeat' first
   | (with_reducible exact wharfageref10_CacheMay.mono _ _)
   | (with_reducible exact wharfageref10_ConfMay.mono _ _ _)
   | (with_reducible exact wharfageref10_ViewMay.mono _ _)
   | (with_reducible exact wharfageref10_healthsMay.mono _ _ _)
   | (with_reducible exact LeO.refl _)
   | (with_reducible exact LeO.none _)
   | (with_reducible refine LeO.ite ?_ ?_)
   | (with_reducible refine LeO.bind ?_ (fun _ => ?_))
   | exact wharfageref10_CacheMay.mono _ _
   | exact wharfageref10_ConfMay.mono _ _ _
   | exact wharfageref10_ViewMay.mono _ _
   | exact wharfageref10_healthsMay.mono _ _ _
   | exact LeO.none _
   | refine LeO.ite ?_ ?_
   | refine LeO.bind ?_ (fun _ => ?_)
set_option maxHeartbeats 8000000 in
set_option maxRecDepth 100000 in
theorem wharfageref10_spareMay.calls (k : Nat) (a0_0 : Int) (a0_1 : Int) (A0_2 : Option Addr) (c0_2 : Nat) (l0_2 : List (S53)) (A0_3 : Option Addr) (c0_3 : Nat) (l0_3 : List (S86)) (A0_4 : Option Addr) (c0_4 : Nat) (l0_4 : List (S91)) (A0_5 : Option Addr) (c0_5 : Nat) (l0_5 : List (S50)) (a0_6 : Int) (r : Bool) (w : World) (hr0_2 : Kd.C k53 w A0_2 l0_2.length l0_2) (hc0_2 : l0_2.length ≤ c0_2) (hr0_3 : Kd.C k86 w A0_3 l0_3.length l0_3) (hc0_3 : l0_3.length ≤ c0_3) (hr0_4 : Kd.C k91 w A0_4 l0_4.length l0_4) (hc0_4 : l0_4.length ≤ c0_4) (hr0_5 : Kd.C k50 w A0_5 l0_5.length l0_5) (hc0_5 : l0_5.length ≤ c0_5) (h : wharfageref10_spareMay.f k a0_0 a0_1 l0_2 l0_3 l0_4 l0_5 a0_6 = some r) :
  Calls Try.prog 20 #[.agg #[.int .i64 a0_0, .int .i64 a0_1, .slice A0_2 l0_2.length c0_2, .slice A0_3 l0_3.length c0_3, .slice A0_4 l0_4.length c0_4, .slice A0_5 l0_5.length c0_5, .int .i64 a0_6]] w fun e w' => e = .returned (.bool r) ∧ Below w.heap.size w w' := by
 have hu29 := Try.underlying29
 have hu24 := Try.underlying24
 have HR0_2 := Aside0.mk hr0_2
 have HC0_2 := Aside0.mk hc0_2
 clear hr0_2 hc0_2
 have HR0_3 := Aside0.mk hr0_3
 have HC0_3 := Aside0.mk hc0_3
 clear hr0_3 hc0_3
 have HR0_4 := Aside0.mk hr0_4
 have HC0_4 := Aside0.mk hc0_4
 clear hr0_4 hc0_4
 have HR0_5 := Aside0.mk hr0_5
 have HC0_5 := Aside0.mk hc0_5
 clear hr0_5 hc0_5
 have HB := Aside0.mk (Below.refl w.heap.size w)
 have H : ((wharfageref10_ConfMay.f k a0_1 l0_2).bind fun t178 => (if t178 = true then (if a0_0 ≥ 0 then (if a0_0 < 3 then ((wharfageref10_healthsMay.f k l0_3 4).bind fun t179 => (if t179 = true then ((wharfageref10_ViewMay.f k l0_4).bind fun t180 => (if t180 = true then ((wharfageref10_CacheMay.f k l0_5).bind fun t181 => (some t181)) else (some false))) else (some false))) else (some false)) else (some false)) else (some false))) = some r := h
 clear h
 replace H := Option.bind_eq_some_iff.mp H
 obtain ⟨t178, A20, H⟩ := H
 replace H : (if t178 = true then (if a0_0 ≥ 0 then (if a0_0 < 3 then ((wharfageref10_healthsMay.f k l0_3 4).bind fun t179 => (if t179 = true then ((wharfageref10_ViewMay.f k l0_4).bind fun t180 => (if t180 = true then ((wharfageref10_CacheMay.f k l0_5).bind fun t181 => (some t181)) else (some false))) else (some false))) else (some false)) else (some false)) else (some false)) = some r := H
 have A2 := Aside0.mk A20
 clear A20
 by_cases c3 : t178 = true
 ·subst c3
  have H1 : (if a0_0 ≥ 0 then (if a0_0 < 3 then ((wharfageref10_healthsMay.f k l0_3 4).bind fun t179 => (if t179 = true then ((wharfageref10_ViewMay.f k l0_4).bind fun t180 => (if t180 = true then ((wharfageref10_CacheMay.f k l0_5).bind fun t181 => (some t181)) else (some false))) else (some false))) else (some false)) else (some false)) = some r := by rw [if_pos rfl] at H; exact H
  clear H
  have H := H1
  clear H1
  by_cases c4 : a0_0 ≥ 0
  ·rw [if_pos c4] at H
   have c4b0 : decide (0 ≤ a0_0) = true := decide_eq_true c4
   clear c4
   by_cases c5 : a0_0 < 3
   ·rw [if_pos c5] at H
    have c5b0 : decide (a0_0 < 3) = true := decide_eq_true c5
    clear c5
    replace H := Option.bind_eq_some_iff.mp H
    obtain ⟨t179, A60, H⟩ := H
    replace H : (if t179 = true then ((wharfageref10_ViewMay.f k l0_4).bind fun t180 => (if t180 = true then ((wharfageref10_CacheMay.f k l0_5).bind fun t181 => (some t181)) else (some false))) else (some false)) = some r := H
    have A6 := Aside0.mk A60
    clear A60
    by_cases c7 : t179 = true
    ·subst c7
     have H1 : ((wharfageref10_ViewMay.f k l0_4).bind fun t180 => (if t180 = true then ((wharfageref10_CacheMay.f k l0_5).bind fun t181 => (some t181)) else (some false))) = some r := by rw [if_pos rfl] at H; exact H
     clear H
     have H := H1
     clear H1
     replace H := Option.bind_eq_some_iff.mp H
     obtain ⟨t180, A80, H⟩ := H
     replace H : (if t180 = true then ((wharfageref10_CacheMay.f k l0_5).bind fun t181 => (some t181)) else (some false)) = some r := H
     have A8 := Aside0.mk A80
     clear A80
     by_cases c9 : t180 = true
     ·subst c9
      have H1 : ((wharfageref10_CacheMay.f k l0_5).bind fun t181 => (some t181)) = some r := by rw [if_pos rfl] at H; exact H
      clear H
      have H := H1
      clear H1
      replace H := Option.bind_eq_some_iff.mp H
      obtain ⟨t181, A100, H⟩ := H
      replace H : (some t181) = some r := H
      have A10 := Aside0.mk A100
      clear A100
      obtain rfl := Option.some.inj H
      go_enter Try.func20, Try.ntmps20
      go_wp2_with (first | ((with_reducible refine gate_dst (N := 1) rfl ?_); refine box_event ?hg (N := 1) ?hd (cs := #[.int .i64 a0_0, .int .i64 a0_1, .slice A0_2 l0_2.length c0_2, .slice A0_3 l0_3.length c0_3, .slice A0_4 l0_4.length c0_4, .slice A0_5 l0_5.length c0_5, .int .i64 a0_6]) (t := 29) ?hr ?_; (case hd => rfl); (case hg => rfl); (case hr => first | (go_simp; done) | (go_simp; rfl)); intro g0 hg w11 hbox hb; have n0_ := Aside0.mk (below_step (by repeat (first | (with_reducible first | exact HB.out | apply below_alloc | apply pw_below_drewN | apply below_drew1) | exact HB.out)) hb); have n1_ := Aside0.mk (hbox); have n2_ := Aside0.mk ((by rw [hg]; exact (below_size (by repeat (first | (with_reducible first | exact HB.out | apply below_alloc | apply pw_below_drewN | apply below_drew1) | exact HB.out))) : w.heap.size ≤ g0)); have n3_ := Aside0.mk ((by rw [hg]; exact (below_size (by repeat (first | (with_reducible first | exact HB.out | apply below_alloc | apply pw_below_drewN | apply below_drew1) | exact HB.out))) : w.heap.size ≤ g0)); clear HB; have HB := n0_; have K0 := n1_; have G0 := n2_; have E0 := n3_; clear n0_ n1_ n2_ n3_; clear hb hbox hg; have hcz12_0 : w11.cell? ⟨g0, 0, none⟩ = some (.int .i64 a0_0) := (blk_cell K0.out 0).trans rfl; have hcz12_1 : w11.cell? ⟨g0, 1, none⟩ = some (.int .i64 a0_1) := (blk_cell K0.out 1).trans rfl; have hcz12_2 : w11.cell? ⟨g0, 2, none⟩ = some (.slice A0_2 l0_2.length c0_2) := (blk_cell K0.out 2).trans rfl; have hcz12_3 : w11.cell? ⟨g0, 3, none⟩ = some (.slice A0_3 l0_3.length c0_3) := (blk_cell K0.out 3).trans rfl; have hcz12_4 : w11.cell? ⟨g0, 4, none⟩ = some (.slice A0_4 l0_4.length c0_4) := (blk_cell K0.out 4).trans rfl; have hcz12_5 : w11.cell? ⟨g0, 5, none⟩ = some (.slice A0_5 l0_5.length c0_5) := (blk_cell K0.out 5).trans rfl; have hcz12_6 : w11.cell? ⟨g0, 6, none⟩ = some (.int .i64 a0_6) := (blk_cell K0.out 6).trans rfl; have hfz12_0 := blk_frozen K0.out 0; have hfz12_1 := blk_frozen K0.out 1; have hfz12_2 := blk_frozen K0.out 2; have hfz12_3 := blk_frozen K0.out 3; have hfz12_4 := blk_frozen K0.out 4; have hfz12_5 := blk_frozen K0.out 5; have hfz12_6 := blk_frozen K0.out 6) | ((with_reducible refine gate_callee (f := 39) rfl ?_); refine goesL_ (some 5) rfl rfl Try.func39 (by kernel_rfl) rfl #[.agg #[.int .i64 a0_1, .slice A0_2 l0_2.length c0_2]] rfl (by (try simp only [List.map_toArray, List.map_cons, List.map_nil]); first | done | rfl | (simp only [List.length_drop, List.length_take]; rfl)) ?_; (with_reducible refine (wharfageref10_ConfMay.calls k a0_1 _ _ l0_2 true _ ?side1 ?side2 A2.out).mono ?_); (case side1 => repeat (first | exact (Kd.C_below HR0_2.out HB.out) | (with_reducible refine Kd.C_alloc ?_ _) | (with_reducible refine Kd.C_drewN ?_ _) | (with_reducible refine Kd.C_drew ?_))); (case side2 => exact HC0_2.out); rintro e w13 ⟨rfl, hb⟩; refine ⟨_, rfl, ?_⟩; have n0_ := Aside0.mk (blk_below (g := g0) (o := .cells #[.int .i64 a0_0, .int .i64 a0_1, .slice A0_2 l0_2.length c0_2, .slice A0_3 l0_3.length c0_3, .slice A0_4 l0_4.length c0_4, .slice A0_5 l0_5.length c0_5, .int .i64 a0_6] 29 (0, 0)) (by (with_reducible repeat (first | refine blk_drewN ?_ _ | refine blk_drew ?_ | refine blk_alloc ?_ _)); exact K0.out) hb); have n1_ := Aside0.mk (below_step (by repeat (first | (with_reducible first | exact HB.out | apply below_alloc | apply pw_below_drewN | apply below_drew1 | refine below_set ?_ E0.out) | exact HB.out)) hb); clear K0; clear HB; have K0 := n0_; have HB := n1_; clear n0_ n1_; (try clear hb); (try clear hb2); (try clear hk); (try clear hi); have hcz14_0 : w13.cell? ⟨g0, 0, none⟩ = some (.int .i64 a0_0) := (blk_cell K0.out 0).trans rfl; have hcz14_1 : w13.cell? ⟨g0, 1, none⟩ = some (.int .i64 a0_1) := (blk_cell K0.out 1).trans rfl; have hcz14_2 : w13.cell? ⟨g0, 2, none⟩ = some (.slice A0_2 l0_2.length c0_2) := (blk_cell K0.out 2).trans rfl; have hcz14_3 : w13.cell? ⟨g0, 3, none⟩ = some (.slice A0_3 l0_3.length c0_3) := (blk_cell K0.out 3).trans rfl; have hcz14_4 : w13.cell? ⟨g0, 4, none⟩ = some (.slice A0_4 l0_4.length c0_4) := (blk_cell K0.out 4).trans rfl; have hcz14_5 : w13.cell? ⟨g0, 5, none⟩ = some (.slice A0_5 l0_5.length c0_5) := (blk_cell K0.out 5).trans rfl; have hcz14_6 : w13.cell? ⟨g0, 6, none⟩ = some (.int .i64 a0_6) := (blk_cell K0.out 6).trans rfl; have hfz14_0 := blk_frozen K0.out 0; have hfz14_1 := blk_frozen K0.out 1; have hfz14_2 := blk_frozen K0.out 2; have hfz14_3 := blk_frozen K0.out 3; have hfz14_4 := blk_frozen K0.out 4; have hfz14_5 := blk_frozen K0.out 5; have hfz14_6 := blk_frozen K0.out 6) | (go_at_call 40; (with_reducible refine (wharfageref10_healthsMay.calls k _ _ l0_3 4 true _ ?side1 ?side2 A6.out).mono ?_); (case side1 => repeat (first | exact (Kd.C_below HR0_3.out HB.out) | (with_reducible refine Kd.C_alloc ?_ _) | (with_reducible refine Kd.C_drewN ?_ _) | (with_reducible refine Kd.C_drew ?_))); (case side2 => exact HC0_3.out); rintro e w15 ⟨rfl, hb⟩; have n0_ := Aside0.mk (blk_below (g := g0) (o := .cells #[.int .i64 a0_0, .int .i64 a0_1, .slice A0_2 l0_2.length c0_2, .slice A0_3 l0_3.length c0_3, .slice A0_4 l0_4.length c0_4, .slice A0_5 l0_5.length c0_5, .int .i64 a0_6] 29 (0, 0)) (by (with_reducible repeat (first | refine blk_drewN ?_ _ | refine blk_drew ?_ | refine blk_alloc ?_ _)); exact K0.out) hb); have n1_ := Aside0.mk (below_step (by repeat (first | (with_reducible first | exact HB.out | apply below_alloc | apply pw_below_drewN | apply below_drew1 | refine below_set ?_ E0.out) | exact HB.out)) hb); clear K0; clear HB; have K0 := n0_; have HB := n1_; clear n0_ n1_; (try clear hb); (try clear hb2); (try clear hk); (try clear hi); have hcz16_0 : w15.cell? ⟨g0, 0, none⟩ = some (.int .i64 a0_0) := (blk_cell K0.out 0).trans rfl; have hcz16_1 : w15.cell? ⟨g0, 1, none⟩ = some (.int .i64 a0_1) := (blk_cell K0.out 1).trans rfl; have hcz16_2 : w15.cell? ⟨g0, 2, none⟩ = some (.slice A0_2 l0_2.length c0_2) := (blk_cell K0.out 2).trans rfl; have hcz16_3 : w15.cell? ⟨g0, 3, none⟩ = some (.slice A0_3 l0_3.length c0_3) := (blk_cell K0.out 3).trans rfl; have hcz16_4 : w15.cell? ⟨g0, 4, none⟩ = some (.slice A0_4 l0_4.length c0_4) := (blk_cell K0.out 4).trans rfl; have hcz16_5 : w15.cell? ⟨g0, 5, none⟩ = some (.slice A0_5 l0_5.length c0_5) := (blk_cell K0.out 5).trans rfl; have hcz16_6 : w15.cell? ⟨g0, 6, none⟩ = some (.int .i64 a0_6) := (blk_cell K0.out 6).trans rfl; have hfz16_0 := blk_frozen K0.out 0; have hfz16_1 := blk_frozen K0.out 1; have hfz16_2 := blk_frozen K0.out 2; have hfz16_3 := blk_frozen K0.out 3; have hfz16_4 := blk_frozen K0.out 4; have hfz16_5 := blk_frozen K0.out 5; have hfz16_6 := blk_frozen K0.out 6) | (go_at_call 41; (with_reducible refine (wharfageref10_ViewMay.calls k _ _ l0_4 true _ ?side1 ?side2 A8.out).mono ?_); (case side1 => repeat (first | exact (Kd.C_below HR0_4.out HB.out) | (with_reducible refine Kd.C_alloc ?_ _) | (with_reducible refine Kd.C_drewN ?_ _) | (with_reducible refine Kd.C_drew ?_))); (case side2 => exact HC0_4.out); rintro e w17 ⟨rfl, hb⟩; have n0_ := Aside0.mk (blk_below (g := g0) (o := .cells #[.int .i64 a0_0, .int .i64 a0_1, .slice A0_2 l0_2.length c0_2, .slice A0_3 l0_3.length c0_3, .slice A0_4 l0_4.length c0_4, .slice A0_5 l0_5.length c0_5, .int .i64 a0_6] 29 (0, 0)) (by (with_reducible repeat (first | refine blk_drewN ?_ _ | refine blk_drew ?_ | refine blk_alloc ?_ _)); exact K0.out) hb); have n1_ := Aside0.mk (below_step (by repeat (first | (with_reducible first | exact HB.out | apply below_alloc | apply pw_below_drewN | apply below_drew1 | refine below_set ?_ E0.out) | exact HB.out)) hb); clear K0; clear HB; have K0 := n0_; have HB := n1_; clear n0_ n1_; (try clear hb); (try clear hb2); (try clear hk); (try clear hi); have hcz18_0 : w17.cell? ⟨g0, 0, none⟩ = some (.int .i64 a0_0) := (blk_cell K0.out 0).trans rfl; have hcz18_1 : w17.cell? ⟨g0, 1, none⟩ = some (.int .i64 a0_1) := (blk_cell K0.out 1).trans rfl; have hcz18_2 : w17.cell? ⟨g0, 2, none⟩ = some (.slice A0_2 l0_2.length c0_2) := (blk_cell K0.out 2).trans rfl; have hcz18_3 : w17.cell? ⟨g0, 3, none⟩ = some (.slice A0_3 l0_3.length c0_3) := (blk_cell K0.out 3).trans rfl; have hcz18_4 : w17.cell? ⟨g0, 4, none⟩ = some (.slice A0_4 l0_4.length c0_4) := (blk_cell K0.out 4).trans rfl; have hcz18_5 : w17.cell? ⟨g0, 5, none⟩ = some (.slice A0_5 l0_5.length c0_5) := (blk_cell K0.out 5).trans rfl; have hcz18_6 : w17.cell? ⟨g0, 6, none⟩ = some (.int .i64 a0_6) := (blk_cell K0.out 6).trans rfl; have hfz18_0 := blk_frozen K0.out 0; have hfz18_1 := blk_frozen K0.out 1; have hfz18_2 := blk_frozen K0.out 2; have hfz18_3 := blk_frozen K0.out 3; have hfz18_4 := blk_frozen K0.out 4; have hfz18_5 := blk_frozen K0.out 5; have hfz18_6 := blk_frozen K0.out 6) | (go_at_call 42; (with_reducible refine (wharfageref10_CacheMay.calls k _ _ l0_5 t181 _ ?side1 ?side2 A10.out).mono ?_); (case side1 => repeat (first | exact (Kd.C_below HR0_5.out HB.out) | (with_reducible refine Kd.C_alloc ?_ _) | (with_reducible refine Kd.C_drewN ?_ _) | (with_reducible refine Kd.C_drew ?_))); (case side2 => exact HC0_5.out); rintro e w19 ⟨rfl, hb⟩; have n0_ := Aside0.mk (blk_below (g := g0) (o := .cells #[.int .i64 a0_0, .int .i64 a0_1, .slice A0_2 l0_2.length c0_2, .slice A0_3 l0_3.length c0_3, .slice A0_4 l0_4.length c0_4, .slice A0_5 l0_5.length c0_5, .int .i64 a0_6] 29 (0, 0)) (by (with_reducible repeat (first | refine blk_drewN ?_ _ | refine blk_drew ?_ | refine blk_alloc ?_ _)); exact K0.out) hb); have n1_ := Aside0.mk (below_step (by repeat (first | (with_reducible first | exact HB.out | apply below_alloc | apply pw_below_drewN | apply below_drew1 | refine below_set ?_ E0.out) | exact HB.out)) hb); clear K0; clear HB; have K0 := n0_; have HB := n1_; clear n0_ n1_; (try clear hb); (try clear hb2); (try clear hk); (try clear hi)))
      go_ret
      exact ⟨by first | rfl | (simp [errW_none, errW_some] <;> rfl) | (simp [*, errW_none, errW_some] <;> rfl), by repeat (first | (with_reducible first | exact HB.out | apply below_alloc | apply pw_below_drewN | apply below_drew1 | refine below_set ?_ E0.out) | exact HB.out)⟩
     ·replace c9 := Bool.eq_false_iff.mpr c9
      subst c9
      have H1 : (some false) = some r := by rw [if_neg (show ¬ (false = true) by decide)] at H; exact H
      clear H
      have H := H1
      clear H1
      obtain rfl := Option.some.inj H
      go_enter Try.func20, Try.ntmps20
      go_wp2_with (first | ((with_reducible refine gate_dst (N := 1) rfl ?_); refine box_event ?hg (N := 1) ?hd (cs := #[.int .i64 a0_0, .int .i64 a0_1, .slice A0_2 l0_2.length c0_2, .slice A0_3 l0_3.length c0_3, .slice A0_4 l0_4.length c0_4, .slice A0_5 l0_5.length c0_5, .int .i64 a0_6]) (t := 29) ?hr ?_; (case hd => rfl); (case hg => rfl); (case hr => first | (go_simp; done) | (go_simp; rfl)); intro g0 hg w20 hbox hb; have n0_ := Aside0.mk (below_step (by repeat (first | (with_reducible first | exact HB.out | apply below_alloc | apply pw_below_drewN | apply below_drew1) | exact HB.out)) hb); have n1_ := Aside0.mk (hbox); have n2_ := Aside0.mk ((by rw [hg]; exact (below_size (by repeat (first | (with_reducible first | exact HB.out | apply below_alloc | apply pw_below_drewN | apply below_drew1) | exact HB.out))) : w.heap.size ≤ g0)); have n3_ := Aside0.mk ((by rw [hg]; exact (below_size (by repeat (first | (with_reducible first | exact HB.out | apply below_alloc | apply pw_below_drewN | apply below_drew1) | exact HB.out))) : w.heap.size ≤ g0)); clear HB; have HB := n0_; have K0 := n1_; have G0 := n2_; have E0 := n3_; clear n0_ n1_ n2_ n3_; clear hb hbox hg; have hcz21_0 : w20.cell? ⟨g0, 0, none⟩ = some (.int .i64 a0_0) := (blk_cell K0.out 0).trans rfl; have hcz21_1 : w20.cell? ⟨g0, 1, none⟩ = some (.int .i64 a0_1) := (blk_cell K0.out 1).trans rfl; have hcz21_2 : w20.cell? ⟨g0, 2, none⟩ = some (.slice A0_2 l0_2.length c0_2) := (blk_cell K0.out 2).trans rfl; have hcz21_3 : w20.cell? ⟨g0, 3, none⟩ = some (.slice A0_3 l0_3.length c0_3) := (blk_cell K0.out 3).trans rfl; have hcz21_4 : w20.cell? ⟨g0, 4, none⟩ = some (.slice A0_4 l0_4.length c0_4) := (blk_cell K0.out 4).trans rfl; have hcz21_5 : w20.cell? ⟨g0, 5, none⟩ = some (.slice A0_5 l0_5.length c0_5) := (blk_cell K0.out 5).trans rfl; have hcz21_6 : w20.cell? ⟨g0, 6, none⟩ = some (.int .i64 a0_6) := (blk_cell K0.out 6).trans rfl; have hfz21_0 := blk_frozen K0.out 0; have hfz21_1 := blk_frozen K0.out 1; have hfz21_2 := blk_frozen K0.out 2; have hfz21_3 := blk_frozen K0.out 3; have hfz21_4 := blk_frozen K0.out 4; have hfz21_5 := blk_frozen K0.out 5; have hfz21_6 := blk_frozen K0.out 6) | ((with_reducible refine gate_callee (f := 39) rfl ?_); refine goesL_ (some 5) rfl rfl Try.func39 (by kernel_rfl) rfl #[.agg #[.int .i64 a0_1, .slice A0_2 l0_2.length c0_2]] rfl (by (try simp only [List.map_toArray, List.map_cons, List.map_nil]); first | done | rfl | (simp only [List.length_drop, List.length_take]; rfl)) ?_; (with_reducible refine (wharfageref10_ConfMay.calls k a0_1 _ _ l0_2 true _ ?side1 ?side2 A2.out).mono ?_); (case side1 => repeat (first | exact (Kd.C_below HR0_2.out HB.out) | (with_reducible refine Kd.C_alloc ?_ _) | (with_reducible refine Kd.C_drewN ?_ _) | (with_reducible refine Kd.C_drew ?_))); (case side2 => exact HC0_2.out); rintro e w22 ⟨rfl, hb⟩; refine ⟨_, rfl, ?_⟩; have n0_ := Aside0.mk (blk_below (g := g0) (o := .cells #[.int .i64 a0_0, .int .i64 a0_1, .slice A0_2 l0_2.length c0_2, .slice A0_3 l0_3.length c0_3, .slice A0_4 l0_4.length c0_4, .slice A0_5 l0_5.length c0_5, .int .i64 a0_6] 29 (0, 0)) (by (with_reducible repeat (first | refine blk_drewN ?_ _ | refine blk_drew ?_ | refine blk_alloc ?_ _)); exact K0.out) hb); have n1_ := Aside0.mk (below_step (by repeat (first | (with_reducible first | exact HB.out | apply below_alloc | apply pw_below_drewN | apply below_drew1 | refine below_set ?_ E0.out) | exact HB.out)) hb); clear K0; clear HB; have K0 := n0_; have HB := n1_; clear n0_ n1_; (try clear hb); (try clear hb2); (try clear hk); (try clear hi); have hcz23_0 : w22.cell? ⟨g0, 0, none⟩ = some (.int .i64 a0_0) := (blk_cell K0.out 0).trans rfl; have hcz23_1 : w22.cell? ⟨g0, 1, none⟩ = some (.int .i64 a0_1) := (blk_cell K0.out 1).trans rfl; have hcz23_2 : w22.cell? ⟨g0, 2, none⟩ = some (.slice A0_2 l0_2.length c0_2) := (blk_cell K0.out 2).trans rfl; have hcz23_3 : w22.cell? ⟨g0, 3, none⟩ = some (.slice A0_3 l0_3.length c0_3) := (blk_cell K0.out 3).trans rfl; have hcz23_4 : w22.cell? ⟨g0, 4, none⟩ = some (.slice A0_4 l0_4.length c0_4) := (blk_cell K0.out 4).trans rfl; have hcz23_5 : w22.cell? ⟨g0, 5, none⟩ = some (.slice A0_5 l0_5.length c0_5) := (blk_cell K0.out 5).trans rfl; have hcz23_6 : w22.cell? ⟨g0, 6, none⟩ = some (.int .i64 a0_6) := (blk_cell K0.out 6).trans rfl; have hfz23_0 := blk_frozen K0.out 0; have hfz23_1 := blk_frozen K0.out 1; have hfz23_2 := blk_frozen K0.out 2; have hfz23_3 := blk_frozen K0.out 3; have hfz23_4 := blk_frozen K0.out 4; have hfz23_5 := blk_frozen K0.out 5; have hfz23_6 := blk_frozen K0.out 6) | (go_at_call 40; (with_reducible refine (wharfageref10_healthsMay.calls k _ _ l0_3 4 true _ ?side1 ?side2 A6.out).mono ?_); (case side1 => repeat (first | exact (Kd.C_below HR0_3.out HB.out) | (with_reducible refine Kd.C_alloc ?_ _) | (with_reducible refine Kd.C_drewN ?_ _) | (with_reducible refine Kd.C_drew ?_))); (case side2 => exact HC0_3.out); rintro e w24 ⟨rfl, hb⟩; have n0_ := Aside0.mk (blk_below (g := g0) (o := .cells #[.int .i64 a0_0, .int .i64 a0_1, .slice A0_2 l0_2.length c0_2, .slice A0_3 l0_3.length c0_3, .slice A0_4 l0_4.length c0_4, .slice A0_5 l0_5.length c0_5, .int .i64 a0_6] 29 (0, 0)) (by (with_reducible repeat (first | refine blk_drewN ?_ _ | refine blk_drew ?_ | refine blk_alloc ?_ _)); exact K0.out) hb); have n1_ := Aside0.mk (below_step (by repeat (first | (with_reducible first | exact HB.out | apply below_alloc | apply pw_below_drewN | apply below_drew1 | refine below_set ?_ E0.out) | exact HB.out)) hb); clear K0; clear HB; have K0 := n0_; have HB := n1_; clear n0_ n1_; (try clear hb); (try clear hb2); (try clear hk); (try clear hi); have hcz25_0 : w24.cell? ⟨g0, 0, none⟩ = some (.int .i64 a0_0) := (blk_cell K0.out 0).trans rfl; have hcz25_1 : w24.cell? ⟨g0, 1, none⟩ = some (.int .i64 a0_1) := (blk_cell K0.out 1).trans rfl; have hcz25_2 : w24.cell? ⟨g0, 2, none⟩ = some (.slice A0_2 l0_2.length c0_2) := (blk_cell K0.out 2).trans rfl; have hcz25_3 : w24.cell? ⟨g0, 3, none⟩ = some (.slice A0_3 l0_3.length c0_3) := (blk_cell K0.out 3).trans rfl; have hcz25_4 : w24.cell? ⟨g0, 4, none⟩ = some (.slice A0_4 l0_4.length c0_4) := (blk_cell K0.out 4).trans rfl; have hcz25_5 : w24.cell? ⟨g0, 5, none⟩ = some (.slice A0_5 l0_5.length c0_5) := (blk_cell K0.out 5).trans rfl; have hcz25_6 : w24.cell? ⟨g0, 6, none⟩ = some (.int .i64 a0_6) := (blk_cell K0.out 6).trans rfl; have hfz25_0 := blk_frozen K0.out 0; have hfz25_1 := blk_frozen K0.out 1; have hfz25_2 := blk_frozen K0.out 2; have hfz25_3 := blk_frozen K0.out 3; have hfz25_4 := blk_frozen K0.out 4; have hfz25_5 := blk_frozen K0.out 5; have hfz25_6 := blk_frozen K0.out 6) | (go_at_call 41; (with_reducible refine (wharfageref10_ViewMay.calls k _ _ l0_4 false _ ?side1 ?side2 A8.out).mono ?_); (case side1 => repeat (first | exact (Kd.C_below HR0_4.out HB.out) | (with_reducible refine Kd.C_alloc ?_ _) | (with_reducible refine Kd.C_drewN ?_ _) | (with_reducible refine Kd.C_drew ?_))); (case side2 => exact HC0_4.out); rintro e w26 ⟨rfl, hb⟩; have n0_ := Aside0.mk (blk_below (g := g0) (o := .cells #[.int .i64 a0_0, .int .i64 a0_1, .slice A0_2 l0_2.length c0_2, .slice A0_3 l0_3.length c0_3, .slice A0_4 l0_4.length c0_4, .slice A0_5 l0_5.length c0_5, .int .i64 a0_6] 29 (0, 0)) (by (with_reducible repeat (first | refine blk_drewN ?_ _ | refine blk_drew ?_ | refine blk_alloc ?_ _)); exact K0.out) hb); have n1_ := Aside0.mk (below_step (by repeat (first | (with_reducible first | exact HB.out | apply below_alloc | apply pw_below_drewN | apply below_drew1 | refine below_set ?_ E0.out) | exact HB.out)) hb); clear K0; clear HB; have K0 := n0_; have HB := n1_; clear n0_ n1_; (try clear hb); (try clear hb2); (try clear hk); (try clear hi)))
      go_ret
      exact ⟨by first | rfl | (simp [errW_none, errW_some] <;> rfl) | (simp [*, errW_none, errW_some] <;> rfl), by repeat (first | (with_reducible first | exact HB.out | apply below_alloc | apply pw_below_drewN | apply below_drew1 | refine below_set ?_ E0.out) | exact HB.out)⟩
    ·replace c7 := Bool.eq_false_iff.mpr c7
     subst c7
     have H1 : (some false) = some r := by rw [if_neg (show ¬ (false = true) by decide)] at H; exact H
     clear H
     have H := H1
     clear H1
     obtain rfl := Option.some.inj H
     go_enter Try.func20, Try.ntmps20
     go_wp2_with (first | ((with_reducible refine gate_dst (N := 1) rfl ?_); refine box_event ?hg (N := 1) ?hd (cs := #[.int .i64 a0_0, .int .i64 a0_1, .slice A0_2 l0_2.length c0_2, .slice A0_3 l0_3.length c0_3, .slice A0_4 l0_4.length c0_4, .slice A0_5 l0_5.length c0_5, .int .i64 a0_6]) (t := 29) ?hr ?_; (case hd => rfl); (case hg => rfl); (case hr => first | (go_simp; done) | (go_simp; rfl)); intro g0 hg w27 hbox hb; have n0_ := Aside0.mk (below_step (by repeat (first | (with_reducible first | exact HB.out | apply below_alloc | apply pw_below_drewN | apply below_drew1) | exact HB.out)) hb); have n1_ := Aside0.mk (hbox); have n2_ := Aside0.mk ((by rw [hg]; exact (below_size (by repeat (first | (with_reducible first | exact HB.out | apply below_alloc | apply pw_below_drewN | apply below_drew1) | exact HB.out))) : w.heap.size ≤ g0)); have n3_ := Aside0.mk ((by rw [hg]; exact (below_size (by repeat (first | (with_reducible first | exact HB.out | apply below_alloc | apply pw_below_drewN | apply below_drew1) | exact HB.out))) : w.heap.size ≤ g0)); clear HB; have HB := n0_; have K0 := n1_; have G0 := n2_; have E0 := n3_; clear n0_ n1_ n2_ n3_; clear hb hbox hg; have hcz28_0 : w27.cell? ⟨g0, 0, none⟩ = some (.int .i64 a0_0) := (blk_cell K0.out 0).trans rfl; have hcz28_1 : w27.cell? ⟨g0, 1, none⟩ = some (.int .i64 a0_1) := (blk_cell K0.out 1).trans rfl; have hcz28_2 : w27.cell? ⟨g0, 2, none⟩ = some (.slice A0_2 l0_2.length c0_2) := (blk_cell K0.out 2).trans rfl; have hcz28_3 : w27.cell? ⟨g0, 3, none⟩ = some (.slice A0_3 l0_3.length c0_3) := (blk_cell K0.out 3).trans rfl; have hcz28_4 : w27.cell? ⟨g0, 4, none⟩ = some (.slice A0_4 l0_4.length c0_4) := (blk_cell K0.out 4).trans rfl; have hcz28_5 : w27.cell? ⟨g0, 5, none⟩ = some (.slice A0_5 l0_5.length c0_5) := (blk_cell K0.out 5).trans rfl; have hcz28_6 : w27.cell? ⟨g0, 6, none⟩ = some (.int .i64 a0_6) := (blk_cell K0.out 6).trans rfl; have hfz28_0 := blk_frozen K0.out 0; have hfz28_1 := blk_frozen K0.out 1; have hfz28_2 := blk_frozen K0.out 2; have hfz28_3 := blk_frozen K0.out 3; have hfz28_4 := blk_frozen K0.out 4; have hfz28_5 := blk_frozen K0.out 5; have hfz28_6 := blk_frozen K0.out 6) | ((with_reducible refine gate_callee (f := 39) rfl ?_); refine goesL_ (some 5) rfl rfl Try.func39 (by kernel_rfl) rfl #[.agg #[.int .i64 a0_1, .slice A0_2 l0_2.length c0_2]] rfl (by (try simp only [List.map_toArray, List.map_cons, List.map_nil]); first | done | rfl | (simp only [List.length_drop, List.length_take]; rfl)) ?_; (with_reducible refine (wharfageref10_ConfMay.calls k a0_1 _ _ l0_2 true _ ?side1 ?side2 A2.out).mono ?_); (case side1 => repeat (first | exact (Kd.C_below HR0_2.out HB.out) | (with_reducible refine Kd.C_alloc ?_ _) | (with_reducible refine Kd.C_drewN ?_ _) | (with_reducible refine Kd.C_drew ?_))); (case side2 => exact HC0_2.out); rintro e w29 ⟨rfl, hb⟩; refine ⟨_, rfl, ?_⟩; have n0_ := Aside0.mk (blk_below (g := g0) (o := .cells #[.int .i64 a0_0, .int .i64 a0_1, .slice A0_2 l0_2.length c0_2, .slice A0_3 l0_3.length c0_3, .slice A0_4 l0_4.length c0_4, .slice A0_5 l0_5.length c0_5, .int .i64 a0_6] 29 (0, 0)) (by (with_reducible repeat (first | refine blk_drewN ?_ _ | refine blk_drew ?_ | refine blk_alloc ?_ _)); exact K0.out) hb); have n1_ := Aside0.mk (below_step (by repeat (first | (with_reducible first | exact HB.out | apply below_alloc | apply pw_below_drewN | apply below_drew1 | refine below_set ?_ E0.out) | exact HB.out)) hb); clear K0; clear HB; have K0 := n0_; have HB := n1_; clear n0_ n1_; (try clear hb); (try clear hb2); (try clear hk); (try clear hi); have hcz30_0 : w29.cell? ⟨g0, 0, none⟩ = some (.int .i64 a0_0) := (blk_cell K0.out 0).trans rfl; have hcz30_1 : w29.cell? ⟨g0, 1, none⟩ = some (.int .i64 a0_1) := (blk_cell K0.out 1).trans rfl; have hcz30_2 : w29.cell? ⟨g0, 2, none⟩ = some (.slice A0_2 l0_2.length c0_2) := (blk_cell K0.out 2).trans rfl; have hcz30_3 : w29.cell? ⟨g0, 3, none⟩ = some (.slice A0_3 l0_3.length c0_3) := (blk_cell K0.out 3).trans rfl; have hcz30_4 : w29.cell? ⟨g0, 4, none⟩ = some (.slice A0_4 l0_4.length c0_4) := (blk_cell K0.out 4).trans rfl; have hcz30_5 : w29.cell? ⟨g0, 5, none⟩ = some (.slice A0_5 l0_5.length c0_5) := (blk_cell K0.out 5).trans rfl; have hcz30_6 : w29.cell? ⟨g0, 6, none⟩ = some (.int .i64 a0_6) := (blk_cell K0.out 6).trans rfl; have hfz30_0 := blk_frozen K0.out 0; have hfz30_1 := blk_frozen K0.out 1; have hfz30_2 := blk_frozen K0.out 2; have hfz30_3 := blk_frozen K0.out 3; have hfz30_4 := blk_frozen K0.out 4; have hfz30_5 := blk_frozen K0.out 5; have hfz30_6 := blk_frozen K0.out 6) | (go_at_call 40; (with_reducible refine (wharfageref10_healthsMay.calls k _ _ l0_3 4 false _ ?side1 ?side2 A6.out).mono ?_); (case side1 => repeat (first | exact (Kd.C_below HR0_3.out HB.out) | (with_reducible refine Kd.C_alloc ?_ _) | (with_reducible refine Kd.C_drewN ?_ _) | (with_reducible refine Kd.C_drew ?_))); (case side2 => exact HC0_3.out); rintro e w31 ⟨rfl, hb⟩; have n0_ := Aside0.mk (blk_below (g := g0) (o := .cells #[.int .i64 a0_0, .int .i64 a0_1, .slice A0_2 l0_2.length c0_2, .slice A0_3 l0_3.length c0_3, .slice A0_4 l0_4.length c0_4, .slice A0_5 l0_5.length c0_5, .int .i64 a0_6] 29 (0, 0)) (by (with_reducible repeat (first | refine blk_drewN ?_ _ | refine blk_drew ?_ | refine blk_alloc ?_ _)); exact K0.out) hb); have n1_ := Aside0.mk (below_step (by repeat (first | (with_reducible first | exact HB.out | apply below_alloc | apply pw_below_drewN | apply below_drew1 | refine below_set ?_ E0.out) | exact HB.out)) hb); clear K0; clear HB; have K0 := n0_; have HB := n1_; clear n0_ n1_; (try clear hb); (try clear hb2); (try clear hk); (try clear hi)))
     go_ret
     exact ⟨by first | rfl | (simp [errW_none, errW_some] <;> rfl) | (simp [*, errW_none, errW_some] <;> rfl), by repeat (first | (with_reducible first | exact HB.out | apply below_alloc | apply pw_below_drewN | apply below_drew1 | refine below_set ?_ E0.out) | exact HB.out)⟩
   ·rw [if_neg c5] at H
    have c5b0 : decide (a0_0 < 3) = false := decide_eq_false c5
    clear c5
    obtain rfl := Option.some.inj H
    go_enter Try.func20, Try.ntmps20
    go_wp2_with (first | ((with_reducible refine gate_dst (N := 1) rfl ?_); refine box_event ?hg (N := 1) ?hd (cs := #[.int .i64 a0_0, .int .i64 a0_1, .slice A0_2 l0_2.length c0_2, .slice A0_3 l0_3.length c0_3, .slice A0_4 l0_4.length c0_4, .slice A0_5 l0_5.length c0_5, .int .i64 a0_6]) (t := 29) ?hr ?_; (case hd => rfl); (case hg => rfl); (case hr => first | (go_simp; done) | (go_simp; rfl)); intro g0 hg w32 hbox hb; have n0_ := Aside0.mk (below_step (by repeat (first | (with_reducible first | exact HB.out | apply below_alloc | apply pw_below_drewN | apply below_drew1) | exact HB.out)) hb); have n1_ := Aside0.mk (hbox); have n2_ := Aside0.mk ((by rw [hg]; exact (below_size (by repeat (first | (with_reducible first | exact HB.out | apply below_alloc | apply pw_below_drewN | apply below_drew1) | exact HB.out))) : w.heap.size ≤ g0)); have n3_ := Aside0.mk ((by rw [hg]; exact (below_size (by repeat (first | (with_reducible first | exact HB.out | apply below_alloc | apply pw_below_drewN | apply below_drew1) | exact HB.out))) : w.heap.size ≤ g0)); clear HB; have HB := n0_; have K0 := n1_; have G0 := n2_; have E0 := n3_; clear n0_ n1_ n2_ n3_; clear hb hbox hg; have hcz33_0 : w32.cell? ⟨g0, 0, none⟩ = some (.int .i64 a0_0) := (blk_cell K0.out 0).trans rfl; have hcz33_1 : w32.cell? ⟨g0, 1, none⟩ = some (.int .i64 a0_1) := (blk_cell K0.out 1).trans rfl; have hcz33_2 : w32.cell? ⟨g0, 2, none⟩ = some (.slice A0_2 l0_2.length c0_2) := (blk_cell K0.out 2).trans rfl; have hcz33_3 : w32.cell? ⟨g0, 3, none⟩ = some (.slice A0_3 l0_3.length c0_3) := (blk_cell K0.out 3).trans rfl; have hcz33_4 : w32.cell? ⟨g0, 4, none⟩ = some (.slice A0_4 l0_4.length c0_4) := (blk_cell K0.out 4).trans rfl; have hcz33_5 : w32.cell? ⟨g0, 5, none⟩ = some (.slice A0_5 l0_5.length c0_5) := (blk_cell K0.out 5).trans rfl; have hcz33_6 : w32.cell? ⟨g0, 6, none⟩ = some (.int .i64 a0_6) := (blk_cell K0.out 6).trans rfl; have hfz33_0 := blk_frozen K0.out 0; have hfz33_1 := blk_frozen K0.out 1; have hfz33_2 := blk_frozen K0.out 2; have hfz33_3 := blk_frozen K0.out 3; have hfz33_4 := blk_frozen K0.out 4; have hfz33_5 := blk_frozen K0.out 5; have hfz33_6 := blk_frozen K0.out 6) | ((with_reducible refine gate_callee (f := 39) rfl ?_); refine goesL_ (some 5) rfl rfl Try.func39 (by kernel_rfl) rfl #[.agg #[.int .i64 a0_1, .slice A0_2 l0_2.length c0_2]] rfl (by (try simp only [List.map_toArray, List.map_cons, List.map_nil]); first | done | rfl | (simp only [List.length_drop, List.length_take]; rfl)) ?_; (with_reducible refine (wharfageref10_ConfMay.calls k a0_1 _ _ l0_2 true _ ?side1 ?side2 A2.out).mono ?_); (case side1 => repeat (first | exact (Kd.C_below HR0_2.out HB.out) | (with_reducible refine Kd.C_alloc ?_ _) | (with_reducible refine Kd.C_drewN ?_ _) | (with_reducible refine Kd.C_drew ?_))); (case side2 => exact HC0_2.out); rintro e w34 ⟨rfl, hb⟩; refine ⟨_, rfl, ?_⟩; have n0_ := Aside0.mk (blk_below (g := g0) (o := .cells #[.int .i64 a0_0, .int .i64 a0_1, .slice A0_2 l0_2.length c0_2, .slice A0_3 l0_3.length c0_3, .slice A0_4 l0_4.length c0_4, .slice A0_5 l0_5.length c0_5, .int .i64 a0_6] 29 (0, 0)) (by (with_reducible repeat (first | refine blk_drewN ?_ _ | refine blk_drew ?_ | refine blk_alloc ?_ _)); exact K0.out) hb); have n1_ := Aside0.mk (below_step (by repeat (first | (with_reducible first | exact HB.out | apply below_alloc | apply pw_below_drewN | apply below_drew1 | refine below_set ?_ E0.out) | exact HB.out)) hb); clear K0; clear HB; have K0 := n0_; have HB := n1_; clear n0_ n1_; (try clear hb); (try clear hb2); (try clear hk); (try clear hi); have hcz35_0 : w34.cell? ⟨g0, 0, none⟩ = some (.int .i64 a0_0) := (blk_cell K0.out 0).trans rfl; have hcz35_1 : w34.cell? ⟨g0, 1, none⟩ = some (.int .i64 a0_1) := (blk_cell K0.out 1).trans rfl; have hcz35_2 : w34.cell? ⟨g0, 2, none⟩ = some (.slice A0_2 l0_2.length c0_2) := (blk_cell K0.out 2).trans rfl; have hcz35_3 : w34.cell? ⟨g0, 3, none⟩ = some (.slice A0_3 l0_3.length c0_3) := (blk_cell K0.out 3).trans rfl; have hcz35_4 : w34.cell? ⟨g0, 4, none⟩ = some (.slice A0_4 l0_4.length c0_4) := (blk_cell K0.out 4).trans rfl; have hcz35_5 : w34.cell? ⟨g0, 5, none⟩ = some (.slice A0_5 l0_5.length c0_5) := (blk_cell K0.out 5).trans rfl; have hcz35_6 : w34.cell? ⟨g0, 6, none⟩ = some (.int .i64 a0_6) := (blk_cell K0.out 6).trans rfl; have hfz35_0 := blk_frozen K0.out 0; have hfz35_1 := blk_frozen K0.out 1; have hfz35_2 := blk_frozen K0.out 2; have hfz35_3 := blk_frozen K0.out 3; have hfz35_4 := blk_frozen K0.out 4; have hfz35_5 := blk_frozen K0.out 5; have hfz35_6 := blk_frozen K0.out 6))
    go_ret
    exact ⟨by first | rfl | (simp [errW_none, errW_some] <;> rfl) | (simp [*, errW_none, errW_some] <;> rfl), by repeat (first | (with_reducible first | exact HB.out | apply below_alloc | apply pw_below_drewN | apply below_drew1 | refine below_set ?_ E0.out) | exact HB.out)⟩
  ·rw [if_neg c4] at H
   have c4b0 : decide (0 ≤ a0_0) = false := decide_eq_false c4
   clear c4
   obtain rfl := Option.some.inj H
   go_enter Try.func20, Try.ntmps20
   go_wp2_with (first | ((with_reducible refine gate_dst (N := 1) rfl ?_); refine box_event ?hg (N := 1) ?hd (cs := #[.int .i64 a0_0, .int .i64 a0_1, .slice A0_2 l0_2.length c0_2, .slice A0_3 l0_3.length c0_3, .slice A0_4 l0_4.length c0_4, .slice A0_5 l0_5.length c0_5, .int .i64 a0_6]) (t := 29) ?hr ?_; (case hd => rfl); (case hg => rfl); (case hr => first | (go_simp; done) | (go_simp; rfl)); intro g0 hg w36 hbox hb; have n0_ := Aside0.mk (below_step (by repeat (first | (with_reducible first | exact HB.out | apply below_alloc | apply pw_below_drewN | apply below_drew1) | exact HB.out)) hb); have n1_ := Aside0.mk (hbox); have n2_ := Aside0.mk ((by rw [hg]; exact (below_size (by repeat (first | (with_reducible first | exact HB.out | apply below_alloc | apply pw_below_drewN | apply below_drew1) | exact HB.out))) : w.heap.size ≤ g0)); have n3_ := Aside0.mk ((by rw [hg]; exact (below_size (by repeat (first | (with_reducible first | exact HB.out | apply below_alloc | apply pw_below_drewN | apply below_drew1) | exact HB.out))) : w.heap.size ≤ g0)); clear HB; have HB := n0_; have K0 := n1_; have G0 := n2_; have E0 := n3_; clear n0_ n1_ n2_ n3_; clear hb hbox hg; have hcz37_0 : w36.cell? ⟨g0, 0, none⟩ = some (.int .i64 a0_0) := (blk_cell K0.out 0).trans rfl; have hcz37_1 : w36.cell? ⟨g0, 1, none⟩ = some (.int .i64 a0_1) := (blk_cell K0.out 1).trans rfl; have hcz37_2 : w36.cell? ⟨g0, 2, none⟩ = some (.slice A0_2 l0_2.length c0_2) := (blk_cell K0.out 2).trans rfl; have hcz37_3 : w36.cell? ⟨g0, 3, none⟩ = some (.slice A0_3 l0_3.length c0_3) := (blk_cell K0.out 3).trans rfl; have hcz37_4 : w36.cell? ⟨g0, 4, none⟩ = some (.slice A0_4 l0_4.length c0_4) := (blk_cell K0.out 4).trans rfl; have hcz37_5 : w36.cell? ⟨g0, 5, none⟩ = some (.slice A0_5 l0_5.length c0_5) := (blk_cell K0.out 5).trans rfl; have hcz37_6 : w36.cell? ⟨g0, 6, none⟩ = some (.int .i64 a0_6) := (blk_cell K0.out 6).trans rfl; have hfz37_0 := blk_frozen K0.out 0; have hfz37_1 := blk_frozen K0.out 1; have hfz37_2 := blk_frozen K0.out 2; have hfz37_3 := blk_frozen K0.out 3; have hfz37_4 := blk_frozen K0.out 4; have hfz37_5 := blk_frozen K0.out 5; have hfz37_6 := blk_frozen K0.out 6) | ((with_reducible refine gate_callee (f := 39) rfl ?_); refine goesL_ (some 5) rfl rfl Try.func39 (by kernel_rfl) rfl #[.agg #[.int .i64 a0_1, .slice A0_2 l0_2.length c0_2]] rfl (by (try simp only [List.map_toArray, List.map_cons, List.map_nil]); first | done | rfl | (simp only [List.length_drop, List.length_take]; rfl)) ?_; (with_reducible refine (wharfageref10_ConfMay.calls k a0_1 _ _ l0_2 true _ ?side1 ?side2 A2.out).mono ?_); (case side1 => repeat (first | exact (Kd.C_below HR0_2.out HB.out) | (with_reducible refine Kd.C_alloc ?_ _) | (with_reducible refine Kd.C_drewN ?_ _) | (with_reducible refine Kd.C_drew ?_))); (case side2 => exact HC0_2.out); rintro e w38 ⟨rfl, hb⟩; refine ⟨_, rfl, ?_⟩; have n0_ := Aside0.mk (blk_below (g := g0) (o := .cells #[.int .i64 a0_0, .int .i64 a0_1, .slice A0_2 l0_2.length c0_2, .slice A0_3 l0_3.length c0_3, .slice A0_4 l0_4.length c0_4, .slice A0_5 l0_5.length c0_5, .int .i64 a0_6] 29 (0, 0)) (by (with_reducible repeat (first | refine blk_drewN ?_ _ | refine blk_drew ?_ | refine blk_alloc ?_ _)); exact K0.out) hb); have n1_ := Aside0.mk (below_step (by repeat (first | (with_reducible first | exact HB.out | apply below_alloc | apply pw_below_drewN | apply below_drew1 | refine below_set ?_ E0.out) | exact HB.out)) hb); clear K0; clear HB; have K0 := n0_; have HB := n1_; clear n0_ n1_; (try clear hb); (try clear hb2); (try clear hk); (try clear hi); have hcz39_0 : w38.cell? ⟨g0, 0, none⟩ = some (.int .i64 a0_0) := (blk_cell K0.out 0).trans rfl; have hcz39_1 : w38.cell? ⟨g0, 1, none⟩ = some (.int .i64 a0_1) := (blk_cell K0.out 1).trans rfl; have hcz39_2 : w38.cell? ⟨g0, 2, none⟩ = some (.slice A0_2 l0_2.length c0_2) := (blk_cell K0.out 2).trans rfl; have hcz39_3 : w38.cell? ⟨g0, 3, none⟩ = some (.slice A0_3 l0_3.length c0_3) := (blk_cell K0.out 3).trans rfl; have hcz39_4 : w38.cell? ⟨g0, 4, none⟩ = some (.slice A0_4 l0_4.length c0_4) := (blk_cell K0.out 4).trans rfl; have hcz39_5 : w38.cell? ⟨g0, 5, none⟩ = some (.slice A0_5 l0_5.length c0_5) := (blk_cell K0.out 5).trans rfl; have hcz39_6 : w38.cell? ⟨g0, 6, none⟩ = some (.int .i64 a0_6) := (blk_cell K0.out 6).trans rfl; have hfz39_0 := blk_frozen K0.out 0; have hfz39_1 := blk_frozen K0.out 1; have hfz39_2 := blk_frozen K0.out 2; have hfz39_3 := blk_frozen K0.out 3; have hfz39_4 := blk_frozen K0.out 4; have hfz39_5 := blk_frozen K0.out 5; have hfz39_6 := blk_frozen K0.out 6))
   go_ret
   exact ⟨by first | rfl | (simp [errW_none, errW_some] <;> rfl) | (simp [*, errW_none, errW_some] <;> rfl), by repeat (first | (with_reducible first | exact HB.out | apply below_alloc | apply pw_below_drewN | apply below_drew1 | refine below_set ?_ E0.out) | exact HB.out)⟩
 ·replace c3 := Bool.eq_false_iff.mpr c3
  subst c3
  have H1 : (some false) = some r := by rw [if_neg (show ¬ (false = true) by decide)] at H; exact H
  clear H
  have H := H1
  clear H1
  obtain rfl := Option.some.inj H
  go_enter Try.func20, Try.ntmps20
  go_wp2_with (first | ((with_reducible refine gate_dst (N := 1) rfl ?_); refine box_event ?hg (N := 1) ?hd (cs := #[.int .i64 a0_0, .int .i64 a0_1, .slice A0_2 l0_2.length c0_2, .slice A0_3 l0_3.length c0_3, .slice A0_4 l0_4.length c0_4, .slice A0_5 l0_5.length c0_5, .int .i64 a0_6]) (t := 29) ?hr ?_; (case hd => rfl); (case hg => rfl); (case hr => first | (go_simp; done) | (go_simp; rfl)); intro g0 hg w40 hbox hb; have n0_ := Aside0.mk (below_step (by repeat (first | (with_reducible first | exact HB.out | apply below_alloc | apply pw_below_drewN | apply below_drew1) | exact HB.out)) hb); have n1_ := Aside0.mk (hbox); have n2_ := Aside0.mk ((by rw [hg]; exact (below_size (by repeat (first | (with_reducible first | exact HB.out | apply below_alloc | apply pw_below_drewN | apply below_drew1) | exact HB.out))) : w.heap.size ≤ g0)); have n3_ := Aside0.mk ((by rw [hg]; exact (below_size (by repeat (first | (with_reducible first | exact HB.out | apply below_alloc | apply pw_below_drewN | apply below_drew1) | exact HB.out))) : w.heap.size ≤ g0)); clear HB; have HB := n0_; have K0 := n1_; have G0 := n2_; have E0 := n3_; clear n0_ n1_ n2_ n3_; clear hb hbox hg; have hcz41_0 : w40.cell? ⟨g0, 0, none⟩ = some (.int .i64 a0_0) := (blk_cell K0.out 0).trans rfl; have hcz41_1 : w40.cell? ⟨g0, 1, none⟩ = some (.int .i64 a0_1) := (blk_cell K0.out 1).trans rfl; have hcz41_2 : w40.cell? ⟨g0, 2, none⟩ = some (.slice A0_2 l0_2.length c0_2) := (blk_cell K0.out 2).trans rfl; have hcz41_3 : w40.cell? ⟨g0, 3, none⟩ = some (.slice A0_3 l0_3.length c0_3) := (blk_cell K0.out 3).trans rfl; have hcz41_4 : w40.cell? ⟨g0, 4, none⟩ = some (.slice A0_4 l0_4.length c0_4) := (blk_cell K0.out 4).trans rfl; have hcz41_5 : w40.cell? ⟨g0, 5, none⟩ = some (.slice A0_5 l0_5.length c0_5) := (blk_cell K0.out 5).trans rfl; have hcz41_6 : w40.cell? ⟨g0, 6, none⟩ = some (.int .i64 a0_6) := (blk_cell K0.out 6).trans rfl; have hfz41_0 := blk_frozen K0.out 0; have hfz41_1 := blk_frozen K0.out 1; have hfz41_2 := blk_frozen K0.out 2; have hfz41_3 := blk_frozen K0.out 3; have hfz41_4 := blk_frozen K0.out 4; have hfz41_5 := blk_frozen K0.out 5; have hfz41_6 := blk_frozen K0.out 6) | ((with_reducible refine gate_callee (f := 39) rfl ?_); refine goesL_ (some 5) rfl rfl Try.func39 (by kernel_rfl) rfl #[.agg #[.int .i64 a0_1, .slice A0_2 l0_2.length c0_2]] rfl (by (try simp only [List.map_toArray, List.map_cons, List.map_nil]); first | done | rfl | (simp only [List.length_drop, List.length_take]; rfl)) ?_; (with_reducible refine (wharfageref10_ConfMay.calls k a0_1 _ _ l0_2 false _ ?side1 ?side2 A2.out).mono ?_); (case side1 => repeat (first | exact (Kd.C_below HR0_2.out HB.out) | (with_reducible refine Kd.C_alloc ?_ _) | (with_reducible refine Kd.C_drewN ?_ _) | (with_reducible refine Kd.C_drew ?_))); (case side2 => exact HC0_2.out); rintro e w42 ⟨rfl, hb⟩; refine ⟨_, rfl, ?_⟩; have n0_ := Aside0.mk (blk_below (g := g0) (o := .cells #[.int .i64 a0_0, .int .i64 a0_1, .slice A0_2 l0_2.length c0_2, .slice A0_3 l0_3.length c0_3, .slice A0_4 l0_4.length c0_4, .slice A0_5 l0_5.length c0_5, .int .i64 a0_6] 29 (0, 0)) (by (with_reducible repeat (first | refine blk_drewN ?_ _ | refine blk_drew ?_ | refine blk_alloc ?_ _)); exact K0.out) hb); have n1_ := Aside0.mk (below_step (by repeat (first | (with_reducible first | exact HB.out | apply below_alloc | apply pw_below_drewN | apply below_drew1 | refine below_set ?_ E0.out) | exact HB.out)) hb); clear K0; clear HB; have K0 := n0_; have HB := n1_; clear n0_ n1_; (try clear hb); (try clear hb2); (try clear hk); (try clear hi)))
  go_ret
  exact ⟨by first | rfl | (simp [errW_none, errW_some] <;> rfl) | (simp [*, errW_none, errW_some] <;> rfl), by repeat (first | (with_reducible first | exact HB.out | apply below_alloc | apply pw_below_drewN | apply below_drew1 | refine below_set ?_ E0.out) | exact HB.out)⟩

end Go.Proofs.Ytlapbhgkmmeeoaa.PSpares
end
