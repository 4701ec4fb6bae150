/- Contracts: what calls of these functions of the program do, each as a plain function; written by a program of this session. -/
import Derived.Test.YtnocfhnandedoabPViewx0
import Derived.Test.YtnocfhnandedoabPViewx3
import Derived.Test.YtnocfhnandedoabPViewx7
import Derived.Test.YtnocfhnandedoabPViewx10
import Derived.Test.YtnocfhnandedoabPViewx11
namespace Go.Proofs.Ytnocfhnandedoab.PView
open Go.RowKit Go.Proofs.YtnocfhnandedoabW.PrintWords Go.Proofs.YtnocfhnandedoabW.PrintLast Go.Proofs.YtnocfhnandedoabW.PrintMore
attribute [local go_sem] max2_int min2_int max_two min_two max_three min_three max_four min_four   -- for this text's walks alone
set_option linter.unusedVariables false
set_option linter.unusedSimpArgs false

/-! ### wharfagelaw12_ViewRound: function 14 -/
def wharfagelaw12_ViewRound.l0 : Nat → List Int → List (S85) → Int → Int → Option (Bool)
  | 0, _, _, _, _ => none
  | k + 1, x1, x5, x6, x7 => if x7 < (x1.length : Int) then (if x7 < 30 then ((view_Take.f x5 1 x6 x7 0 x7).bind fun bt197 => ((wharfagelaw0_Num.f bt197.2.2).bind fun t202 => (if t202 = 0 then (if bt197.2.1 = true then (if (bt197.1.length : Int) = 3 then (if 1 < (bt197.1.length : Int) then (if ((rd_T85 bt197.1 1).f1) = x7 then (if ((rd_T85 bt197.1 1).f0.f1) = x6 then (if 0 ≤ x7 then (wharfagelaw12_ViewRound.l0 k x1 bt197.1 (Int.tmod (wrap64 ((wrap64 (x6 + 1)) + (Go.bits .and .i64 (rd x1 x7) 16383))) 65536) (wrap64 (x7 + 1))) else (none)) else (none)) else (none)) else (none)) else (none)) else (none)) else (none)))) else (some true)) else (some true)
def wharfagelaw12_ViewRound.f (k : Nat) (a0 : Int) (l1 : List Int) : Option (Bool) := (wharfagelaw12_awake.f k).bind fun t193 => (if t193 = true then ((view_New.f).bind fun t194 => (wharfagelaw12_ViewRound.l0 k l1 t194 (Go.bits .and .i64 a0 65535) 0)) else (none))
theorem wharfagelaw12_ViewRound.mono_l : ∀ k, (∀ y0 y1 y2 y3, LeO (wharfagelaw12_ViewRound.l0 k y0 y1 y2 y3) (wharfagelaw12_ViewRound.l0 (k + 1) y0 y1 y2 y3))
  | 0 => fun _ _ _ _ r h => by simp [wharfagelaw12_ViewRound.l0] at h
  | k + 1 => by
    have ih0 := wharfagelaw12_ViewRound.mono_l k
    · intro y0 y1 y2 y3
      unfold wharfagelaw12_ViewRound.l0
      repeat' first
      | (with_reducible exact ih0 _ _ _ _)
      | (with_reducible exact wharfagelaw12_awake.mono _)
      | (with_reducible exact LeO.refl _)
      | (with_reducible exact LeO.none _)
      | (with_reducible refine LeO.ite ?_ ?_)
      | (with_reducible refine LeO.bind ?_ (fun _ => ?_))
      | exact ih0 _ _ _ _
      | exact wharfagelaw12_awake.mono _
      | exact LeO.none _
      | refine LeO.ite ?_ ?_
      | refine LeO.bind ?_ (fun _ => ?_)
theorem wharfagelaw12_ViewRound.mono : ∀ a0 a1 k, LeO (wharfagelaw12_ViewRound.f k a0 a1) (wharfagelaw12_ViewRound.f (k + 1) a0 a1) := by
  intro a0 a1 k
  have ih0 := wharfagelaw12_ViewRound.mono_l k
  unfold wharfagelaw12_ViewRound.f
  repeat' first
      | (with_reducible exact ih0 _ _ _ _)
      | (with_reducible exact wharfagelaw12_awake.mono _)
      | (with_reducible exact LeO.refl _)
      | (with_reducible exact LeO.none _)
      | (with_reducible refine LeO.ite ?_ ?_)
      | (with_reducible refine LeO.bind ?_ (fun _ => ?_))
      | exact ih0 _ _ _ _
      | exact wharfagelaw12_awake.mono _
      | exact LeO.none _
      | refine LeO.ite ?_ ?_
      | refine LeO.bind ?_ (fun _ => ?_)
set_option maxHeartbeats 8000000 in
set_option maxRecDepth 100000 in
theorem wharfagelaw12_ViewRound.calls (k : Nat) (a0 : Int) (A1 : Option Addr) (c1 : Nat) (l1 : List Int) (r : Bool) (w : World) (hr1 : Kd.C (Kd.int .i64) w A1 l1.length l1) (hc1 : l1.length ≤ c1) (h : wharfagelaw12_ViewRound.f k a0 l1 = some r) :
    Calls Try.prog 14 #[.int .i64 a0, .slice A1 l1.length c1] w fun e w' => e = .returned (.bool r) ∧ Below w.heap.size w w' := by
  have hu68 := Try.underlying68
  have HR1 := Aside0.mk hr1
  have HC1 := Aside0.mk hc1
  clear hr1 hc1
  have HB := Aside0.mk (Below.refl w.heap.size w)
  have H : ((wharfagelaw12_awake.f k).bind fun t193 => (if t193 = true then ((view_New.f).bind fun t194 => (wharfagelaw12_ViewRound.l0 k l1 t194 (Go.bits .and .i64 a0 65535) 0)) else (none))) = some r := h
  clear h
  replace H := Option.bind_eq_some_iff.mp H
  obtain ⟨t193, A30, H⟩ := H
  replace H : (if t193 = true then ((view_New.f).bind fun t194 => (wharfagelaw12_ViewRound.l0 k l1 t194 (Go.bits .and .i64 a0 65535) 0)) else (none)) = some r := H
  have A3 := Aside0.mk A30
  clear A30
  by_cases c4 : t193 = true
  · subst c4
    have H1 : ((view_New.f).bind fun t194 => (wharfagelaw12_ViewRound.l0 k l1 t194 (Go.bits .and .i64 a0 65535) 0)) = some r := by rw [if_pos rfl] at H; exact H
    clear H
    have H := H1
    clear H1
    replace H := Option.bind_eq_some_iff.mp H
    obtain ⟨t194, A50, H⟩ := H
    replace H : (wharfagelaw12_ViewRound.l0 k l1 t194 (Go.bits .and .i64 a0 65535) 0) = some r := H
    have A5 := Aside0.mk A50
    clear A50
    have H' := Aside0.mk H
    clear H
    go_enter Try.func14, Try.ntmps14
    go_wp2_with (first | ((with_reducible refine gate_callee (f := 50) rfl ?_); refine goesL_ (some 11) rfl rfl Try.func50 (by kernel_rfl) rfl #[] rfl (by (try simp only [List.map_toArray, List.map_cons, List.map_nil]); first | done | rfl | (simp only [List.length_drop, List.length_take]; rfl)) ?_; (with_reducible refine (wharfagelaw12_awake.calls k  true _ A3.out).mono ?_); rintro e w6 ⟨rfl, hb⟩; refine ⟨_, rfl, ?_⟩; have n0_ := Aside0.mk (below_step (by repeat (first | (with_reducible first | exact HB.out | apply below_alloc | apply pw_below_drewN | apply below_drew1) | exact HB.out)) hb); clear HB; have HB := n0_; clear n0_; (try clear hb); (try clear hb2); (try clear hk); (try clear hi)) | ((with_reducible refine gate_callee (f := 46) rfl ?_); refine goesL_ (some 13) rfl rfl Try.func46 (by kernel_rfl) rfl #[] rfl (by (try simp only [List.map_toArray, List.map_cons, List.map_nil]); first | done | rfl | (simp only [List.length_drop, List.length_take]; rfl)) ?_; (with_reducible refine (view_New.calls  t194 _ A5.out).mono ?_); rintro e w7 ⟨v195, rfl, ho0, hb⟩; refine ⟨_, rfl, ?_⟩; have n0_ := Aside0.mk (Kd.R_lower ho0 (below_size (by repeat (first | (with_reducible first | exact HB.out | apply below_alloc | apply pw_below_drewN | apply below_drew1) | exact HB.out)))); have n1_ := Aside0.mk (below_step (by repeat (first | (with_reducible first | exact HB.out | apply below_alloc | apply pw_below_drewN | apply below_drew1) | exact HB.out)) hb); clear HB; have HO196 := n0_; have HB := n1_; clear n0_ n1_; (try clear hb); (try clear hb2); (try clear hk); (try clear hi); (try clear ho0)))
    go_loopg [5, 6, 7] k (fun kq v5 v6 v7 w' => ∃ (x5_1 : List (S85)) (x6_1 : Int) (x7_1 : Int), v6 = .int .i64 x6_1 ∧ v7 = .int .i64 x7_1 ∧ Aside0 (wharfagelaw12_ViewRound.l0 kq l1 x5_1 x6_1 x7_1 = some r) ∧ Aside0 (kq ≤ k) ∧ Aside0 (Kd.R k85 85 w' w.heap.size (fun _ => True) v5 x5_1) ∧ Aside0 (Below w.heap.size w w'))
    case atStart => exact ⟨(t194), (Go.bits .and .i64 a0 65535), (0), (by first | rfl | (simp; done) | (simp [*]; done)), (by first | rfl | (simp; done) | (simp [*]; done)), H', ⟨Nat.le_refl _⟩, ⟨by (with_reducible repeat (first | apply Kd.R_alloc | apply Kd.R_drewN | apply Kd.R_drew)); exact HO196.out⟩, ⟨by repeat (first | (with_reducible first | exact HB.out | apply below_alloc | apply pw_below_drewN | apply below_drew1) | exact HB.out)⟩⟩
    case round =>
      clear H'
      try clear c1
      try clear p2
      try clear c4
      try clear c5
      obtain ⟨x5_1, x6_1, x7_1, rfl, rfl, HA, HK1, HO_5, HB⟩ := hrel
      cases gk with
      | zero => exact absurd HA.out (by simp [wharfagelaw12_ViewRound.l0])
      | succ k1 =>
        have H := HA.out
        clear HA
        simp only [wharfagelaw12_ViewRound.l0] at H
        by_cases c8 : x7_1 < (l1.length : Int)
        · rw [if_pos c8] at H
          have c8b0 : decide (x7_1 < (l1.length : Int)) = true := decide_eq_true c8
          clear c8
          by_cases c9 : x7_1 < 30
          · rw [if_pos c9] at H
            have c9b0 : decide (x7_1 < 30) = true := decide_eq_true c9
            clear c9
            replace H := Option.bind_eq_some_iff.mp H
            obtain ⟨⟨t197, t200, t201⟩, A100, H⟩ := H
            replace H : ((wharfagelaw0_Num.f t201).bind fun t202 => (if t202 = 0 then (if t200 = true then (if (t197.length : Int) = 3 then (if 1 < (t197.length : Int) then (if ((rd_T85 t197 1).f1) = x7_1 then (if ((rd_T85 t197 1).f0.f1) = x6_1 then (if 0 ≤ x7_1 then (wharfagelaw12_ViewRound.l0 k1 l1 t197 (Int.tmod (wrap64 ((wrap64 (x6_1 + 1)) + (Go.bits .and .i64 (rd l1 x7_1) 16383))) 65536) (wrap64 (x7_1 + 1))) else (none)) else (none)) else (none)) else (none)) else (none)) else (none)) else (none))) = some r := H
            have A10 := Aside0.mk A100
            clear A100
            replace H := Option.bind_eq_some_iff.mp H
            obtain ⟨t202, A110, H⟩ := H
            replace H : (if t202 = 0 then (if t200 = true then (if (t197.length : Int) = 3 then (if 1 < (t197.length : Int) then (if ((rd_T85 t197 1).f1) = x7_1 then (if ((rd_T85 t197 1).f0.f1) = x6_1 then (if 0 ≤ x7_1 then (wharfagelaw12_ViewRound.l0 k1 l1 t197 (Int.tmod (wrap64 ((wrap64 (x6_1 + 1)) + (Go.bits .and .i64 (rd l1 x7_1) 16383))) 65536) (wrap64 (x7_1 + 1))) else (none)) else (none)) else (none)) else (none)) else (none)) else (none)) else (none)) = some r := H
            have A11 := Aside0.mk A110
            clear A110
            by_cases c12 : t202 = 0
            · rw [if_pos c12] at H
              have c12b0 : (t202 == 0) = true := beq_iff_eq.mpr c12
              have c12b1 : (t202 != 0) = false := bne_eq_false_iff_eq.mpr c12
              clear c12
              by_cases c13 : t200 = true
              · subst c13
                have H1 : (if (t197.length : Int) = 3 then (if 1 < (t197.length : Int) then (if ((rd_T85 t197 1).f1) = x7_1 then (if ((rd_T85 t197 1).f0.f1) = x6_1 then (if 0 ≤ x7_1 then (wharfagelaw12_ViewRound.l0 k1 l1 t197 (Int.tmod (wrap64 ((wrap64 (x6_1 + 1)) + (Go.bits .and .i64 (rd l1 x7_1) 16383))) 65536) (wrap64 (x7_1 + 1))) else (none)) else (none)) else (none)) else (none)) else (none)) = some r := by rw [if_pos rfl] at H; exact H
                clear H
                have H := H1
                clear H1
                by_cases c14 : (t197.length : Int) = 3
                · rw [if_pos c14] at H
                  have c14b0 : ((t197.length : Int) == 3) = true := beq_iff_eq.mpr c14
                  have c14b1 : ((t197.length : Int) != 3) = false := bne_eq_false_iff_eq.mpr c14
                  clear c14
                  by_cases c15 : 1 < (t197.length : Int)
                  · rw [if_pos c15] at H
                    have c15b0 : decide (1 < (t197.length : Int)) = true := decide_eq_true c15
                    have c15b1 : decide (1 < t197.length) = true := decide_eq_true (by omega)
                    clear c15
                    by_cases c16 : ((rd_T85 t197 1).f1) = x7_1
                    · rw [if_pos c16] at H
                      have c16b0 : (((rd_T85 t197 1).f1) == x7_1) = true := beq_iff_eq.mpr c16
                      have c16b1 : (((rd_T85 t197 1).f1) != x7_1) = false := bne_eq_false_iff_eq.mpr c16
                      clear c16
                      by_cases c17 : ((rd_T85 t197 1).f0.f1) = x6_1
                      · rw [if_pos c17] at H
                        have c17b0 : (((rd_T85 t197 1).f0.f1) == x6_1) = true := beq_iff_eq.mpr c17
                        have c17b1 : (((rd_T85 t197 1).f0.f1) != x6_1) = false := bne_eq_false_iff_eq.mpr c17
                        clear c17
                        by_cases c18 : 0 ≤ x7_1
                        · rw [if_pos c18] at H
                          have c18b0 : decide (0 ≤ x7_1) = true := decide_eq_true c18
                          clear c18
                          have H' := Aside0.mk H
                          clear H
                          obtain ⟨Ao19, co19, eo19⟩ := Kd.R_slice HO_5.out
                          subst eo19
                          go_wp2_with (first | ((with_reducible refine gate_callee (f := 39) rfl ?_); refine goesL_ (some 32) rfl rfl Try.func39 (by kernel_rfl) rfl #[.slice Ao19 x5_1.length co19, .agg #[.int .i64 1, .int .i64 x6_1, .int .i64 x7_1, .int .i64 0], .int .i64 x7_1] rfl (by (try simp only [List.map_toArray, List.map_cons, List.map_nil]); first | done | rfl | (simp only [List.length_drop, List.length_take]; rfl)) ?_; (with_reducible refine (view_Take.calls _ _ x5_1 1 x6_1 x7_1 0 x7_1 t197 true t201 _ ?side1 ?side2 A10.out).mono ?_); (case side1 => repeat (first | exact (Kd.R_reads' HO_5.out).2.2 | (with_reducible refine Kd.C_alloc ?_ _) | (with_reducible refine Kd.C_drewN ?_ _) | (with_reducible refine Kd.C_drew ?_))); (case side2 => exact (Kd.R_reads' HO_5.out).2.1); rintro e w20 ⟨v198, rfl, ho0, hb⟩; refine ⟨_, rfl, ?_⟩; have n0_ := Aside0.mk (Kd.R_elder' (by (with_reducible repeat (first | apply Kd.R_alloc | apply Kd.R_drewN | apply Kd.R_drew)); exact HO_5.out) (Kd.R_base ho0) hb); have n1_ := Aside0.mk (Kd.R_lower (Kd.R_new' ho0 (Kd.R_lt (by (with_reducible repeat (first | apply Kd.R_alloc | apply Kd.R_drewN | apply Kd.R_drew)); exact HO_5.out))) (below_size (by repeat (first | (with_reducible first | exact HB.out | apply below_alloc | apply pw_below_drewN | apply below_drew1) | exact HB.out)))); have n2_ := Aside0.mk (below_step (by repeat (first | (with_reducible first | exact HB.out | apply below_alloc | apply pw_below_drewN | apply below_drew1) | exact HB.out)) hb); clear HO_5; clear HB; have HO_5 := n0_; have HO199 := n1_; have HB := n2_; clear n0_ n1_ n2_; (try clear hb); (try clear hb2); (try clear hk); (try clear hi); (try clear ho0)) | ((with_reducible refine gate_callee (f := 17) rfl ?_); refine goesL_ (some 37) rfl rfl Try.func17 (by kernel_rfl) rfl #[.int .i64 t201] rfl (by (try simp only [List.map_toArray, List.map_cons, List.map_nil]); first | done | rfl | (simp only [List.length_drop, List.length_take]; rfl)) ?_; (with_reducible refine (wharfagelaw0_Num.calls t201 t202 _ A11.out).mono ?_); rintro e w' ⟨rfl, ⟨nd, rfl⟩⟩; refine ⟨_, rfl, ?_⟩; obtain ⟨Ao21, co21, eo21⟩ := Kd.R_slice HO199.out; subst eo21; have p203 : 0 ≤ (1 : Int) := (by omega); have q203 : 1 < (t197.length : Int) := of_decide_eq_true (by first | (with_reducible assumption) | assumption); obtain ⟨ad203, e203, hx203_0, hx203_1, hx203_2, hx203_3, hx203_4⟩ := at_T85 (Kd.R_reads' HO199.out).2.2 1 p203 q203; cases e203; (try simp only [show (1 : Int).toNat = 1 from rfl, Nat.reduceMul, Nat.reduceEqDiff, Go.Addr.add, ↓reduceIte] at hx203_0); (try simp only [show (1 : Int).toNat = 1 from rfl, Nat.reduceMul, Nat.reduceEqDiff, Go.Addr.add, ↓reduceIte] at hx203_1); (try simp only [show (1 : Int).toNat = 1 from rfl, Nat.reduceMul, Nat.reduceEqDiff, Go.Addr.add, ↓reduceIte] at hx203_2); (try simp only [show (1 : Int).toNat = 1 from rfl, Nat.reduceMul, Nat.reduceEqDiff, Go.Addr.add, ↓reduceIte] at hx203_3); (try simp only [show (1 : Int).toNat = 1 from rfl, Nat.reduceMul, Nat.reduceEqDiff, Go.Addr.add, ↓reduceIte] at hx203_4); have qi203 : (1 < t197.length) = True := eq_true (by omega); (try rw [show ((1 : Int)).toNat = 1 from rfl] at hx203_0); (try rw [show 1 * 5 = 5 from rfl] at hx203_0); (try rw [show ((1 : Int)).toNat = 1 from rfl] at hx203_1); (try rw [show 1 * 5 = 5 from rfl] at hx203_1); (try rw [show ((1 : Int)).toNat = 1 from rfl] at hx203_2); (try rw [show 1 * 5 = 5 from rfl] at hx203_2); (try rw [show ((1 : Int)).toNat = 1 from rfl] at hx203_3); (try rw [show 1 * 5 = 5 from rfl] at hx203_3); (try rw [show ((1 : Int)).toNat = 1 from rfl] at hx203_4); (try rw [show 1 * 5 = 5 from rfl] at hx203_4); replace p203 := eq_true p203; replace q203 := eq_true q203; have p204 : 0 ≤ (1 : Int) := (by omega); have q204 : 1 < (t197.length : Int) := of_decide_eq_true (by first | (with_reducible assumption) | assumption); obtain ⟨ad204, e204, hx204_0, hx204_1, hx204_2, hx204_3, hx204_4⟩ := at_T85 (Kd.R_reads' HO199.out).2.2 1 p204 q204; obtain rfl : ad203 = ad204 := (by injection e204); (try simp only [show (1 : Int).toNat = 1 from rfl, Nat.reduceMul, Nat.reduceEqDiff, Go.Addr.add, ↓reduceIte] at hx204_0); (try simp only [show (1 : Int).toNat = 1 from rfl, Nat.reduceMul, Nat.reduceEqDiff, Go.Addr.add, ↓reduceIte] at hx204_1); (try simp only [show (1 : Int).toNat = 1 from rfl, Nat.reduceMul, Nat.reduceEqDiff, Go.Addr.add, ↓reduceIte] at hx204_2); (try simp only [show (1 : Int).toNat = 1 from rfl, Nat.reduceMul, Nat.reduceEqDiff, Go.Addr.add, ↓reduceIte] at hx204_3); (try simp only [show (1 : Int).toNat = 1 from rfl, Nat.reduceMul, Nat.reduceEqDiff, Go.Addr.add, ↓reduceIte] at hx204_4); have qi204 : (1 < t197.length) = True := eq_true (by omega); (try rw [show ((1 : Int)).toNat = 1 from rfl] at hx204_0); (try rw [show 1 * 5 = 5 from rfl] at hx204_0); (try rw [show ((1 : Int)).toNat = 1 from rfl] at hx204_1); (try rw [show 1 * 5 = 5 from rfl] at hx204_1); (try rw [show ((1 : Int)).toNat = 1 from rfl] at hx204_2); (try rw [show 1 * 5 = 5 from rfl] at hx204_2); (try rw [show ((1 : Int)).toNat = 1 from rfl] at hx204_3); (try rw [show 1 * 5 = 5 from rfl] at hx204_3); (try rw [show ((1 : Int)).toNat = 1 from rfl] at hx204_4); (try rw [show 1 * 5 = 5 from rfl] at hx204_4); replace p204 := eq_true p204; replace q204 := eq_true q204; have p205 : 0 ≤ (x7_1 : Int) := of_decide_eq_true (by first | (with_reducible assumption) | assumption); have q205 : x7_1 < (l1.length : Int) := of_decide_eq_true (by first | (with_reducible assumption) | assumption); obtain ⟨ad205, e205, hx205_0⟩ := Kd.at_int HR1.out x7_1 p205 q205; cases e205; replace hx205_0 := (HB.out.cell (World.block_lt_of_cell? w _ hx205_0)).trans hx205_0; replace p205 := eq_true p205; replace q205 := eq_true q205))
                          go_roundg k1
                          case measure => have := HK1.out; omega
                          case rel => exact ⟨(t197), (Int.tmod (wrap64 ((wrap64 (x6_1 + 1)) + (Go.bits .and .i64 (rd l1 x7_1) 16383))) 65536), (wrap64 (x7_1 + 1)), (by first | rfl | (simp; done) | (simp [*]; done)), (by first | rfl | (simp; done) | (simp [*]; done)), H', ⟨by have := HK1.out; omega⟩, ⟨by (with_reducible repeat (first | apply Kd.R_alloc | apply Kd.R_drewN | apply Kd.R_drew)); exact Kd.R_mono HO199.out (fun _ hk => trivial)⟩, ⟨by repeat (first | (with_reducible first | exact HB.out | apply below_alloc | apply pw_below_drewN | apply below_drew1) | exact HB.out)⟩⟩
                        · rw [if_neg c18] at H
                          exact absurd H (by simp)
                      · rw [if_neg c17] at H
                        exact absurd H (by simp)
                    · rw [if_neg c16] at H
                      exact absurd H (by simp)
                  · rw [if_neg c15] at H
                    exact absurd H (by simp)
                · rw [if_neg c14] at H
                  exact absurd H (by simp)
              · replace c13 := Bool.eq_false_iff.mpr c13
                subst c13
                have H1 : (none) = some r := by rw [if_neg (show ¬ (false = true) by decide)] at H; exact H
                clear H
                have H := H1
                clear H1
                exact absurd H (by simp)
            · rw [if_neg c12] at H
              exact absurd H (by simp)
          · rw [if_neg c9] at H
            have c9b0 : decide (x7_1 < 30) = false := decide_eq_false c9
            clear c9
            obtain rfl := Option.some.inj H
            go_wp2
            go_ret
            exact ⟨by first | rfl | (simp [errW_none, errW_some] <;> rfl) | (simp [*, errW_none, errW_some] <;> rfl), by repeat (first | (with_reducible first | exact HB.out | apply below_alloc | apply pw_below_drewN | apply below_drew1) | exact HB.out)⟩
        · rw [if_neg c8] at H
          have c8b0 : decide (x7_1 < (l1.length : Int)) = false := decide_eq_false c8
          clear c8
          obtain rfl := Option.some.inj H
          go_wp2
          go_ret
          exact ⟨by first | rfl | (simp [errW_none, errW_some] <;> rfl) | (simp [*, errW_none, errW_some] <;> rfl), by repeat (first | (with_reducible first | exact HB.out | apply below_alloc | apply pw_below_drewN | apply below_drew1) | exact HB.out)⟩
  · replace c4 := Bool.eq_false_iff.mpr c4
    subst c4
    have H1 : (none) = some r := by rw [if_neg (show ¬ (false = true) by decide)] at H; exact H
    clear H
    have H := H1
    clear H1
    exact absurd H (by simp)

/-- THE ONE PURE STATEMENT of wharfagelaw12_ViewRound: yours. -/
def wharfagelaw12_ViewRound.Pure : Prop := ∀ (a0 : Int) (l1 : List Int), (Lit.int .i64 a0).wf = true → l1.length ≤ maxLen → l1.length * 8 ≤ 140737488351232 → (∀ x ∈ l1, (Lit.int .i64 x).wf = true) → ∃ k, wharfagelaw12_ViewRound.f k a0 l1 = some true
theorem wharfagelaw12_ViewRound.walk (P : wharfagelaw12_ViewRound.Pure) (a0 : Int) (a1 : Option Addr) (len1 cap1 : Nat) (z1 : List Int) (w : World) (w0 : (Lit.int .i64 a0).wf = true) (w1 : (a1 = none ∧ len1 = 0 ∧ cap1 = 0 ∧ z1 = []) ∨ ∃ x, a1 = some x ∧ len1 ≤ cap1 ∧ cap1 ≤ maxLen ∧ z1.length = cap1 ∧ (∀ i, i < z1.length → w.cell? (x.add i) = some (.int .i64 (z1.getD i 0))) ∧ ∀ n ∈ z1, (Lit.int .i64 n).wf = true) (y1 : len1 * 8 ≤ 140737488351232) :
    Calls Try.prog 14 #[.int .i64 a0, .slice a1 len1 cap1] w fun e w' => e = .returned (.bool true) ∧ Below w.heap.size w w' := by
  obtain ⟨l1, rfl, hr1, hm1, hw1, hc1⟩ := ReadsInt.ofRowC w1
  obtain ⟨k, h⟩ := P a0 l1 w0 hm1 y1 hw1
  refine (wharfagelaw12_ViewRound.calls k a0 _ _ l1 true w (Kd.C_of_reads (d := (0 : Int)) (h1 := fun _ => rfl) hr1) hc1 h).mono ?_
  rintro e w' ⟨rfl, hd⟩
  exact ⟨rfl, hd⟩

end Go.Proofs.Ytnocfhnandedoab.PView
