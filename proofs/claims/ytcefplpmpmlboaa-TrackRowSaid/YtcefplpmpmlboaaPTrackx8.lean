/- Contracts: what calls of these functions of the program do, each as a plain function; written by a program of this session. -/
import Derived.Test.YtcefplpmpmlboaaPTrackx0
import Derived.Test.YtcefplpmpmlboaaPTrackx1
import Derived.Test.YtcefplpmpmlboaaPTrackx2
import Derived.Test.YtcefplpmpmlboaaPTrackx5
namespace Go.Proofs.Ytcefplpmpmlboaa.PTrack
open Go.RowKit Go.Proofs.YtcefplpmpmlboaaW.PrintWords Go.Proofs.YtcefplpmpmlboaaW.PrintLast Go.Proofs.YtcefplpmpmlboaaW.PrintMore
attribute [local go_sem] max2_int min2_int max_two min_two max_three min_three max_four min_four   -- for this text's walks alone
set_option linter.unusedVariables false
set_option linter.unusedSimpArgs false

/-! ### wharfagelaw14_TrackRow: function 11 -/
def wharfagelaw14_TrackRow.l0 : Nat → List Int → Int → Int → Option (Bool)
  | 0, _, _, _ => none
  | k + 1, x0, x3, x4 => if x4 < (x0.length : Int) then (if x4 < 40 then (if 0 ≤ x4 then ((track_Step.f x3 (Go.bits .and .i64 (rd x0 x4) 63)).bind fun bt158 => ((wharfagelaw0_Num.f bt158.2).bind fun t160 => (if t160 = 0 then (if bt158.1 < 0 then (none) else (if bt158.1 > 2 then (none) else (if (Go.bits .and .i64 (Go.bits .and .i64 (rd x0 x4) 63) 4) = 0 then (if (Go.bits .and .i64 (Go.bits .and .i64 (rd x0 x4) 63) 2) = 0 then (if bt158.1 < x3 then (none) else (wharfagelaw14_TrackRow.l0 k x0 bt158.1 (wrap64 (x4 + 1)))) else (if bt158.1 < x3 then (if (Go.bits .and .i64 (Go.bits .and .i64 (rd x0 x4) 63) 16) = 0 then (if bt158.1 = 0 then (wharfagelaw14_TrackRow.l0 k x0 bt158.1 (wrap64 (x4 + 1))) else (none)) else (none)) else (if (Go.bits .and .i64 (Go.bits .and .i64 (rd x0 x4) 63) 16) = 0 then (if bt158.1 = 0 then (wharfagelaw14_TrackRow.l0 k x0 bt158.1 (wrap64 (x4 + 1))) else (none)) else (wharfagelaw14_TrackRow.l0 k x0 bt158.1 (wrap64 (x4 + 1)))))) else (if bt158.1 < x3 then (none) else (if bt158.1 = 2 then (wharfagelaw14_TrackRow.l0 k x0 bt158.1 (wrap64 (x4 + 1))) else (none)))))) else (none)))) else (none)) else (some true)) else (some true)
def wharfagelaw14_TrackRow.f (k : Nat) (l0 : List Int) : Option (Bool) := (wharfagelaw14_awake.f).bind fun t156 => (if t156 = true then (wharfagelaw14_TrackRow.l0 k l0 0 0) else (none))
theorem wharfagelaw14_TrackRow.mono_l : ∀ k, (∀ y0 y1 y2, LeO (wharfagelaw14_TrackRow.l0 k y0 y1 y2) (wharfagelaw14_TrackRow.l0 (k + 1) y0 y1 y2))
  | 0 => fun _ _ _ r h => by simp [wharfagelaw14_TrackRow.l0] at h
  | k + 1 => by
    have ih0 := wharfagelaw14_TrackRow.mono_l k
    · intro y0 y1 y2
      unfold wharfagelaw14_TrackRow.l0
      repeat' first
      | (with_reducible exact ih0 _ _ _)
      | (with_reducible exact LeO.refl _)
      | (with_reducible exact LeO.none _)
      | (with_reducible refine LeO.ite ?_ ?_)
      | (with_reducible refine LeO.bind ?_ (fun _ => ?_))
      | exact ih0 _ _ _
      | exact LeO.none _
      | refine LeO.ite ?_ ?_
      | refine LeO.bind ?_ (fun _ => ?_)
theorem wharfagelaw14_TrackRow.mono : ∀ a0 k, LeO (wharfagelaw14_TrackRow.f k a0) (wharfagelaw14_TrackRow.f (k + 1) a0) := by
  intro a0 k
  have ih0 := wharfagelaw14_TrackRow.mono_l k
  unfold wharfagelaw14_TrackRow.f
  repeat' first
      | (with_reducible exact ih0 _ _ _)
      | (with_reducible exact LeO.refl _)
      | (with_reducible exact LeO.none _)
      | (with_reducible refine LeO.ite ?_ ?_)
      | (with_reducible refine LeO.bind ?_ (fun _ => ?_))
      | exact ih0 _ _ _
      | exact LeO.none _
      | refine LeO.ite ?_ ?_
      | refine LeO.bind ?_ (fun _ => ?_)
set_option maxHeartbeats 8000000 in
set_option maxRecDepth 100000 in
theorem wharfagelaw14_TrackRow.calls (k : Nat) (A0 : Option Addr) (c0 : Nat) (l0 : List Int) (r : Bool) (w : World) (hr0 : Kd.C (Kd.int .i64) w A0 l0.length l0) (hc0 : l0.length ≤ c0) (h : wharfagelaw14_TrackRow.f k l0 = some r) :
    Calls Try.prog 11 #[.slice A0 l0.length c0] w fun e w' => e = .returned (.bool r) ∧ Below w.heap.size w w' := by
  have HR0 := Aside0.mk hr0
  have HC0 := Aside0.mk hc0
  clear hr0 hc0
  have HB := Aside0.mk (Below.refl w.heap.size w)
  have H : ((wharfagelaw14_awake.f).bind fun t156 => (if t156 = true then (wharfagelaw14_TrackRow.l0 k l0 0 0) else (none))) = some r := h
  clear h
  replace H := Option.bind_eq_some_iff.mp H
  obtain ⟨t156, A20, H⟩ := H
  replace H : (if t156 = true then (wharfagelaw14_TrackRow.l0 k l0 0 0) else (none)) = some r := H
  have A2 := Aside0.mk A20
  clear A20
  by_cases c3 : t156 = true
  · subst c3
    have H1 : (wharfagelaw14_TrackRow.l0 k l0 0 0) = some r := by rw [if_pos rfl] at H; exact H
    clear H
    have H := H1
    clear H1
    have H' := Aside0.mk H
    clear H
    go_enter Try.func11, Try.ntmps11
    go_wp2_with (first | ((with_reducible refine gate_callee (f := 25) rfl ?_); refine goesL_ (some 9) rfl rfl Try.func25 (by kernel_rfl) rfl #[] rfl (by (try simp only [List.map_toArray, List.map_cons, List.map_nil]); first | done | rfl | (simp only [List.length_drop, List.length_take]; rfl)) ?_; (with_reducible refine (wharfagelaw14_awake.calls  true _ A2.out).mono ?_); rintro e w4 ⟨rfl, hb⟩; refine ⟨_, rfl, ?_⟩; have n0_ := Aside0.mk (below_step (by repeat (first | (with_reducible first | exact HB.out | apply below_alloc | apply pw_below_drewN | apply below_drew1) | exact HB.out)) hb); clear HB; have HB := n0_; clear n0_; (try clear hb); (try clear hb2); (try clear hk); (try clear hi)))
    go_loopg [3, 4] k (fun kq v3 v4 w' => ∃ (x3_1 : Int) (x4_1 : Int), v3 = .int .i64 x3_1 ∧ v4 = .int .i64 x4_1 ∧ Aside0 (wharfagelaw14_TrackRow.l0 kq l0 x3_1 x4_1 = some r) ∧ Aside0 (kq ≤ k) ∧ Aside0 (Below w.heap.size w w'))
    case atStart => exact ⟨(0), (0), (by first | rfl | (simp; done) | (simp [*]; done)), (by first | rfl | (simp; done) | (simp [*]; done)), H', ⟨Nat.le_refl _⟩, ⟨by repeat (first | (with_reducible first | exact HB.out | apply below_alloc | apply pw_below_drewN | apply below_drew1) | exact HB.out)⟩⟩
    case round =>
      clear H'
      try clear c1
      try clear c2
      try clear p2
      try clear c3
      obtain ⟨x3_1, x4_1, rfl, rfl, HA, HK1, HB⟩ := hrel
      cases gk with
      | zero => exact absurd HA.out (by simp [wharfagelaw14_TrackRow.l0])
      | succ k1 =>
        have H := HA.out
        clear HA
        simp only [wharfagelaw14_TrackRow.l0] at H
        by_cases c5 : x4_1 < (l0.length : Int)
        · rw [if_pos c5] at H
          have c5b0 : decide (x4_1 < (l0.length : Int)) = true := decide_eq_true c5
          clear c5
          by_cases c6 : x4_1 < 40
          · rw [if_pos c6] at H
            have c6b0 : decide (x4_1 < 40) = true := decide_eq_true c6
            clear c6
            by_cases c7 : 0 ≤ x4_1
            · rw [if_pos c7] at H
              have c7b0 : decide (0 ≤ x4_1) = true := decide_eq_true c7
              clear c7
              replace H := Option.bind_eq_some_iff.mp H
              obtain ⟨⟨t158, t159⟩, A80, H⟩ := H
              replace H : ((wharfagelaw0_Num.f t159).bind fun t160 => (if t160 = 0 then (if t158 < 0 then (none) else (if t158 > 2 then (none) else (if (Go.bits .and .i64 (Go.bits .and .i64 (rd l0 x4_1) 63) 4) = 0 then (if (Go.bits .and .i64 (Go.bits .and .i64 (rd l0 x4_1) 63) 2) = 0 then (if t158 < x3_1 then (none) else (wharfagelaw14_TrackRow.l0 k1 l0 t158 (wrap64 (x4_1 + 1)))) else (if t158 < x3_1 then (if (Go.bits .and .i64 (Go.bits .and .i64 (rd l0 x4_1) 63) 16) = 0 then (if t158 = 0 then (wharfagelaw14_TrackRow.l0 k1 l0 t158 (wrap64 (x4_1 + 1))) else (none)) else (none)) else (if (Go.bits .and .i64 (Go.bits .and .i64 (rd l0 x4_1) 63) 16) = 0 then (if t158 = 0 then (wharfagelaw14_TrackRow.l0 k1 l0 t158 (wrap64 (x4_1 + 1))) else (none)) else (wharfagelaw14_TrackRow.l0 k1 l0 t158 (wrap64 (x4_1 + 1)))))) else (if t158 < x3_1 then (none) else (if t158 = 2 then (wharfagelaw14_TrackRow.l0 k1 l0 t158 (wrap64 (x4_1 + 1))) else (none)))))) else (none))) = some r := H
              have A8 := Aside0.mk A80
              clear A80
              replace H := Option.bind_eq_some_iff.mp H
              obtain ⟨t160, A90, H⟩ := H
              replace H : (if t160 = 0 then (if t158 < 0 then (none) else (if t158 > 2 then (none) else (if (Go.bits .and .i64 (Go.bits .and .i64 (rd l0 x4_1) 63) 4) = 0 then (if (Go.bits .and .i64 (Go.bits .and .i64 (rd l0 x4_1) 63) 2) = 0 then (if t158 < x3_1 then (none) else (wharfagelaw14_TrackRow.l0 k1 l0 t158 (wrap64 (x4_1 + 1)))) else (if t158 < x3_1 then (if (Go.bits .and .i64 (Go.bits .and .i64 (rd l0 x4_1) 63) 16) = 0 then (if t158 = 0 then (wharfagelaw14_TrackRow.l0 k1 l0 t158 (wrap64 (x4_1 + 1))) else (none)) else (none)) else (if (Go.bits .and .i64 (Go.bits .and .i64 (rd l0 x4_1) 63) 16) = 0 then (if t158 = 0 then (wharfagelaw14_TrackRow.l0 k1 l0 t158 (wrap64 (x4_1 + 1))) else (none)) else (wharfagelaw14_TrackRow.l0 k1 l0 t158 (wrap64 (x4_1 + 1)))))) else (if t158 < x3_1 then (none) else (if t158 = 2 then (wharfagelaw14_TrackRow.l0 k1 l0 t158 (wrap64 (x4_1 + 1))) else (none)))))) else (none)) = some r := H
              have A9 := Aside0.mk A90
              clear A90
              by_cases c10 : t160 = 0
              · rw [if_pos c10] at H
                have c10b0 : (t160 == 0) = true := beq_iff_eq.mpr c10
                have c10b1 : (t160 != 0) = false := bne_eq_false_iff_eq.mpr c10
                clear c10
                by_cases c11 : t158 < 0
                · rw [if_pos c11] at H
                  exact absurd H (by simp)
                · rw [if_neg c11] at H
                  have c11b0 : decide (t158 < 0) = false := decide_eq_false c11
                  clear c11
                  by_cases c12 : t158 > 2
                  · rw [if_pos c12] at H
                    exact absurd H (by simp)
                  · rw [if_neg c12] at H
                    have c12b0 : decide (2 < t158) = false := decide_eq_false c12
                    clear c12
                    by_cases c13 : (Go.bits .and .i64 (Go.bits .and .i64 (rd l0 x4_1) 63) 4) = 0
                    · rw [if_pos c13] at H
                      have c13b0 : ((Go.bits .and .i64 (Go.bits .and .i64 (rd l0 x4_1) 63) 4) == 0) = true := beq_iff_eq.mpr c13
                      have c13b1 : ((Go.bits .and .i64 (Go.bits .and .i64 (rd l0 x4_1) 63) 4) != 0) = false := bne_eq_false_iff_eq.mpr c13
                      clear c13
                      by_cases c14 : (Go.bits .and .i64 (Go.bits .and .i64 (rd l0 x4_1) 63) 2) = 0
                      · rw [if_pos c14] at H
                        have c14b0 : ((Go.bits .and .i64 (Go.bits .and .i64 (rd l0 x4_1) 63) 2) == 0) = true := beq_iff_eq.mpr c14
                        have c14b1 : ((Go.bits .and .i64 (Go.bits .and .i64 (rd l0 x4_1) 63) 2) != 0) = false := bne_eq_false_iff_eq.mpr c14
                        clear c14
                        by_cases c15 : t158 < x3_1
                        · rw [if_pos c15] at H
                          exact absurd H (by simp)
                        · rw [if_neg c15] at H
                          have c15b0 : decide (t158 < x3_1) = false := decide_eq_false c15
                          clear c15
                          have H' := Aside0.mk H
                          clear H
                          have p157 : 0 ≤ (x4_1 : Int) := of_decide_eq_true (by first | (with_reducible assumption) | assumption)
                          have q157 : x4_1 < (l0.length : Int) := of_decide_eq_true (by first | (with_reducible assumption) | assumption)
                          obtain ⟨ad157, e157, hx157_0⟩ := Kd.at_int HR0.out x4_1 p157 q157
                          cases e157
                          replace hx157_0 := (HB.out.cell (World.block_lt_of_cell? w _ hx157_0)).trans hx157_0
                          replace p157 := eq_true p157
                          replace q157 := eq_true q157
                          go_wp2_with (first | ((with_reducible refine gate_callee (f := 21) rfl ?_); refine goesL_ (some 29) rfl rfl Try.func21 (by kernel_rfl) rfl #[.int .i64 x3_1, .int .i64 (Go.bits .and .i64 (rd l0 x4_1) 63)] rfl (by (try simp only [List.map_toArray, List.map_cons, List.map_nil]); first | done | rfl | (simp only [List.length_drop, List.length_take]; rfl)) ?_; (with_reducible refine (track_Step.calls x3_1 (Go.bits .and .i64 (rd l0 x4_1) 63) t158 t159 _ A8.out).mono ?_); rintro e w16 ⟨rfl, hb⟩; refine ⟨_, rfl, ?_⟩; have n0_ := Aside0.mk (below_step (by repeat (first | (with_reducible first | exact HB.out | apply below_alloc | apply pw_below_drewN | apply below_drew1) | exact HB.out)) hb); clear HB; have HB := n0_; clear n0_; (try clear hb); (try clear hb2); (try clear hk); (try clear hi)) | ((with_reducible refine gate_callee (f := 20) rfl ?_); refine goesL_ (some 33) rfl rfl Try.func20 (by kernel_rfl) rfl #[.int .i64 t159] rfl (by (try simp only [List.map_toArray, List.map_cons, List.map_nil]); first | done | rfl | (simp only [List.length_drop, List.length_take]; rfl)) ?_; (with_reducible refine (wharfagelaw0_Num.calls t159 t160 _ A9.out).mono ?_); rintro e w' ⟨rfl, ⟨nd, rfl⟩⟩; refine ⟨_, rfl, ?_⟩))
                          go_roundg k1
                          case measure => have := HK1.out; omega
                          case rel => exact ⟨(t158), (wrap64 (x4_1 + 1)), (by first | rfl | (simp; done) | (simp [*]; done)), (by first | rfl | (simp; done) | (simp [*]; done)), H', ⟨by have := HK1.out; omega⟩, ⟨by repeat (first | (with_reducible first | exact HB.out | apply below_alloc | apply pw_below_drewN | apply below_drew1) | exact HB.out)⟩⟩
                      · rw [if_neg c14] at H
                        have c14b0 : ((Go.bits .and .i64 (Go.bits .and .i64 (rd l0 x4_1) 63) 2) == 0) = false := beq_eq_false_iff_ne.mpr c14
                        have c14b1 : ((Go.bits .and .i64 (Go.bits .and .i64 (rd l0 x4_1) 63) 2) != 0) = true := bne_iff_ne.mpr c14
                        by_cases c17 : t158 < x3_1
                        · rw [if_pos c17] at H
                          have c17b0 : decide (t158 < x3_1) = true := decide_eq_true c17
                          clear c17
                          by_cases c18 : (Go.bits .and .i64 (Go.bits .and .i64 (rd l0 x4_1) 63) 16) = 0
                          · rw [if_pos c18] at H
                            have c18b0 : ((Go.bits .and .i64 (Go.bits .and .i64 (rd l0 x4_1) 63) 16) == 0) = true := beq_iff_eq.mpr c18
                            have c18b1 : ((Go.bits .and .i64 (Go.bits .and .i64 (rd l0 x4_1) 63) 16) != 0) = false := bne_eq_false_iff_eq.mpr c18
                            clear c18
                            by_cases c19 : t158 = 0
                            · rw [if_pos c19] at H
                              have c19b0 : (t158 == 0) = true := beq_iff_eq.mpr c19
                              have c19b1 : (t158 != 0) = false := bne_eq_false_iff_eq.mpr c19
                              clear c19
                              have H' := Aside0.mk H
                              clear H
                              have p157 : 0 ≤ (x4_1 : Int) := of_decide_eq_true (by first | (with_reducible assumption) | assumption)
                              have q157 : x4_1 < (l0.length : Int) := of_decide_eq_true (by first | (with_reducible assumption) | assumption)
                              obtain ⟨ad157, e157, hx157_0⟩ := Kd.at_int HR0.out x4_1 p157 q157
                              cases e157
                              replace hx157_0 := (HB.out.cell (World.block_lt_of_cell? w _ hx157_0)).trans hx157_0
                              replace p157 := eq_true p157
                              replace q157 := eq_true q157
                              go_wp2_with (first | ((with_reducible refine gate_callee (f := 21) rfl ?_); refine goesL_ (some 29) rfl rfl Try.func21 (by kernel_rfl) rfl #[.int .i64 x3_1, .int .i64 (Go.bits .and .i64 (rd l0 x4_1) 63)] rfl (by (try simp only [List.map_toArray, List.map_cons, List.map_nil]); first | done | rfl | (simp only [List.length_drop, List.length_take]; rfl)) ?_; (with_reducible refine (track_Step.calls x3_1 (Go.bits .and .i64 (rd l0 x4_1) 63) t158 t159 _ A8.out).mono ?_); rintro e w20 ⟨rfl, hb⟩; refine ⟨_, rfl, ?_⟩; have n0_ := Aside0.mk (below_step (by repeat (first | (with_reducible first | exact HB.out | apply below_alloc | apply pw_below_drewN | apply below_drew1) | exact HB.out)) hb); clear HB; have HB := n0_; clear n0_; (try clear hb); (try clear hb2); (try clear hk); (try clear hi)) | ((with_reducible refine gate_callee (f := 20) rfl ?_); refine goesL_ (some 33) rfl rfl Try.func20 (by kernel_rfl) rfl #[.int .i64 t159] rfl (by (try simp only [List.map_toArray, List.map_cons, List.map_nil]); first | done | rfl | (simp only [List.length_drop, List.length_take]; rfl)) ?_; (with_reducible refine (wharfagelaw0_Num.calls t159 t160 _ A9.out).mono ?_); rintro e w' ⟨rfl, ⟨nd, rfl⟩⟩; refine ⟨_, rfl, ?_⟩))
                              go_roundg k1
                              case measure => have := HK1.out; omega
                              case rel => exact ⟨(t158), (wrap64 (x4_1 + 1)), (by first | rfl | (simp; done) | (simp [*]; done)), (by first | rfl | (simp; done) | (simp [*]; done)), H', ⟨by have := HK1.out; omega⟩, ⟨by repeat (first | (with_reducible first | exact HB.out | apply below_alloc | apply pw_below_drewN | apply below_drew1) | exact HB.out)⟩⟩
                            · rw [if_neg c19] at H
                              exact absurd H (by simp)
                          · rw [if_neg c18] at H
                            exact absurd H (by simp)
                        · rw [if_neg c17] at H
                          have c17b0 : decide (t158 < x3_1) = false := decide_eq_false c17
                          clear c17
                          by_cases c21 : (Go.bits .and .i64 (Go.bits .and .i64 (rd l0 x4_1) 63) 16) = 0
                          · rw [if_pos c21] at H
                            have c21b0 : ((Go.bits .and .i64 (Go.bits .and .i64 (rd l0 x4_1) 63) 16) == 0) = true := beq_iff_eq.mpr c21
                            have c21b1 : ((Go.bits .and .i64 (Go.bits .and .i64 (rd l0 x4_1) 63) 16) != 0) = false := bne_eq_false_iff_eq.mpr c21
                            clear c21
                            by_cases c22 : t158 = 0
                            · rw [if_pos c22] at H
                              have c22b0 : (t158 == 0) = true := beq_iff_eq.mpr c22
                              have c22b1 : (t158 != 0) = false := bne_eq_false_iff_eq.mpr c22
                              clear c22
                              have H' := Aside0.mk H
                              clear H
                              have p157 : 0 ≤ (x4_1 : Int) := of_decide_eq_true (by first | (with_reducible assumption) | assumption)
                              have q157 : x4_1 < (l0.length : Int) := of_decide_eq_true (by first | (with_reducible assumption) | assumption)
                              obtain ⟨ad157, e157, hx157_0⟩ := Kd.at_int HR0.out x4_1 p157 q157
                              cases e157
                              replace hx157_0 := (HB.out.cell (World.block_lt_of_cell? w _ hx157_0)).trans hx157_0
                              replace p157 := eq_true p157
                              replace q157 := eq_true q157
                              go_wp2_with (first | ((with_reducible refine gate_callee (f := 21) rfl ?_); refine goesL_ (some 29) rfl rfl Try.func21 (by kernel_rfl) rfl #[.int .i64 x3_1, .int .i64 (Go.bits .and .i64 (rd l0 x4_1) 63)] rfl (by (try simp only [List.map_toArray, List.map_cons, List.map_nil]); first | done | rfl | (simp only [List.length_drop, List.length_take]; rfl)) ?_; (with_reducible refine (track_Step.calls x3_1 (Go.bits .and .i64 (rd l0 x4_1) 63) t158 t159 _ A8.out).mono ?_); rintro e w23 ⟨rfl, hb⟩; refine ⟨_, rfl, ?_⟩; have n0_ := Aside0.mk (below_step (by repeat (first | (with_reducible first | exact HB.out | apply below_alloc | apply pw_below_drewN | apply below_drew1) | exact HB.out)) hb); clear HB; have HB := n0_; clear n0_; (try clear hb); (try clear hb2); (try clear hk); (try clear hi)) | ((with_reducible refine gate_callee (f := 20) rfl ?_); refine goesL_ (some 33) rfl rfl Try.func20 (by kernel_rfl) rfl #[.int .i64 t159] rfl (by (try simp only [List.map_toArray, List.map_cons, List.map_nil]); first | done | rfl | (simp only [List.length_drop, List.length_take]; rfl)) ?_; (with_reducible refine (wharfagelaw0_Num.calls t159 t160 _ A9.out).mono ?_); rintro e w' ⟨rfl, ⟨nd, rfl⟩⟩; refine ⟨_, rfl, ?_⟩))
                              go_roundg k1
                              case measure => have := HK1.out; omega
                              case rel => exact ⟨(t158), (wrap64 (x4_1 + 1)), (by first | rfl | (simp; done) | (simp [*]; done)), (by first | rfl | (simp; done) | (simp [*]; done)), H', ⟨by have := HK1.out; omega⟩, ⟨by repeat (first | (with_reducible first | exact HB.out | apply below_alloc | apply pw_below_drewN | apply below_drew1) | exact HB.out)⟩⟩
                            · rw [if_neg c22] at H
                              exact absurd H (by simp)
                          · rw [if_neg c21] at H
                            have c21b0 : ((Go.bits .and .i64 (Go.bits .and .i64 (rd l0 x4_1) 63) 16) == 0) = false := beq_eq_false_iff_ne.mpr c21
                            have c21b1 : ((Go.bits .and .i64 (Go.bits .and .i64 (rd l0 x4_1) 63) 16) != 0) = true := bne_iff_ne.mpr c21
                            have H' := Aside0.mk H
                            clear H
                            have p157 : 0 ≤ (x4_1 : Int) := of_decide_eq_true (by first | (with_reducible assumption) | assumption)
                            have q157 : x4_1 < (l0.length : Int) := of_decide_eq_true (by first | (with_reducible assumption) | assumption)
                            obtain ⟨ad157, e157, hx157_0⟩ := Kd.at_int HR0.out x4_1 p157 q157
                            cases e157
                            replace hx157_0 := (HB.out.cell (World.block_lt_of_cell? w _ hx157_0)).trans hx157_0
                            replace p157 := eq_true p157
                            replace q157 := eq_true q157
                            go_wp2_with (first | ((with_reducible refine gate_callee (f := 21) rfl ?_); refine goesL_ (some 29) rfl rfl Try.func21 (by kernel_rfl) rfl #[.int .i64 x3_1, .int .i64 (Go.bits .and .i64 (rd l0 x4_1) 63)] rfl (by (try simp only [List.map_toArray, List.map_cons, List.map_nil]); first | done | rfl | (simp only [List.length_drop, List.length_take]; rfl)) ?_; (with_reducible refine (track_Step.calls x3_1 (Go.bits .and .i64 (rd l0 x4_1) 63) t158 t159 _ A8.out).mono ?_); rintro e w24 ⟨rfl, hb⟩; refine ⟨_, rfl, ?_⟩; have n0_ := Aside0.mk (below_step (by repeat (first | (with_reducible first | exact HB.out | apply below_alloc | apply pw_below_drewN | apply below_drew1) | exact HB.out)) hb); clear HB; have HB := n0_; clear n0_; (try clear hb); (try clear hb2); (try clear hk); (try clear hi)) | ((with_reducible refine gate_callee (f := 20) rfl ?_); refine goesL_ (some 33) rfl rfl Try.func20 (by kernel_rfl) rfl #[.int .i64 t159] rfl (by (try simp only [List.map_toArray, List.map_cons, List.map_nil]); first | done | rfl | (simp only [List.length_drop, List.length_take]; rfl)) ?_; (with_reducible refine (wharfagelaw0_Num.calls t159 t160 _ A9.out).mono ?_); rintro e w' ⟨rfl, ⟨nd, rfl⟩⟩; refine ⟨_, rfl, ?_⟩))
                            go_roundg k1
                            case measure => have := HK1.out; omega
                            case rel => exact ⟨(t158), (wrap64 (x4_1 + 1)), (by first | rfl | (simp; done) | (simp [*]; done)), (by first | rfl | (simp; done) | (simp [*]; done)), H', ⟨by have := HK1.out; omega⟩, ⟨by repeat (first | (with_reducible first | exact HB.out | apply below_alloc | apply pw_below_drewN | apply below_drew1) | exact HB.out)⟩⟩
                    · rw [if_neg c13] at H
                      have c13b0 : ((Go.bits .and .i64 (Go.bits .and .i64 (rd l0 x4_1) 63) 4) == 0) = false := beq_eq_false_iff_ne.mpr c13
                      have c13b1 : ((Go.bits .and .i64 (Go.bits .and .i64 (rd l0 x4_1) 63) 4) != 0) = true := bne_iff_ne.mpr c13
                      by_cases c25 : t158 < x3_1
                      · rw [if_pos c25] at H
                        exact absurd H (by simp)
                      · rw [if_neg c25] at H
                        have c25b0 : decide (t158 < x3_1) = false := decide_eq_false c25
                        clear c25
                        by_cases c26 : t158 = 2
                        · rw [if_pos c26] at H
                          have c26b0 : (t158 == 2) = true := beq_iff_eq.mpr c26
                          have c26b1 : (t158 != 2) = false := bne_eq_false_iff_eq.mpr c26
                          clear c26
                          have H' := Aside0.mk H
                          clear H
                          have p157 : 0 ≤ (x4_1 : Int) := of_decide_eq_true (by first | (with_reducible assumption) | assumption)
                          have q157 : x4_1 < (l0.length : Int) := of_decide_eq_true (by first | (with_reducible assumption) | assumption)
                          obtain ⟨ad157, e157, hx157_0⟩ := Kd.at_int HR0.out x4_1 p157 q157
                          cases e157
                          replace hx157_0 := (HB.out.cell (World.block_lt_of_cell? w _ hx157_0)).trans hx157_0
                          replace p157 := eq_true p157
                          replace q157 := eq_true q157
                          go_wp2_with (first | ((with_reducible refine gate_callee (f := 21) rfl ?_); refine goesL_ (some 29) rfl rfl Try.func21 (by kernel_rfl) rfl #[.int .i64 x3_1, .int .i64 (Go.bits .and .i64 (rd l0 x4_1) 63)] rfl (by (try simp only [List.map_toArray, List.map_cons, List.map_nil]); first | done | rfl | (simp only [List.length_drop, List.length_take]; rfl)) ?_; (with_reducible refine (track_Step.calls x3_1 (Go.bits .and .i64 (rd l0 x4_1) 63) t158 t159 _ A8.out).mono ?_); rintro e w27 ⟨rfl, hb⟩; refine ⟨_, rfl, ?_⟩; have n0_ := Aside0.mk (below_step (by repeat (first | (with_reducible first | exact HB.out | apply below_alloc | apply pw_below_drewN | apply below_drew1) | exact HB.out)) hb); clear HB; have HB := n0_; clear n0_; (try clear hb); (try clear hb2); (try clear hk); (try clear hi)) | ((with_reducible refine gate_callee (f := 20) rfl ?_); refine goesL_ (some 33) rfl rfl Try.func20 (by kernel_rfl) rfl #[.int .i64 t159] rfl (by (try simp only [List.map_toArray, List.map_cons, List.map_nil]); first | done | rfl | (simp only [List.length_drop, List.length_take]; rfl)) ?_; (with_reducible refine (wharfagelaw0_Num.calls t159 t160 _ A9.out).mono ?_); rintro e w' ⟨rfl, ⟨nd, rfl⟩⟩; refine ⟨_, rfl, ?_⟩))
                          go_roundg k1
                          case measure => have := HK1.out; omega
                          case rel => exact ⟨(t158), (wrap64 (x4_1 + 1)), (by first | rfl | (simp; done) | (simp [*]; done)), (by first | rfl | (simp; done) | (simp [*]; done)), H', ⟨by have := HK1.out; omega⟩, ⟨by repeat (first | (with_reducible first | exact HB.out | apply below_alloc | apply pw_below_drewN | apply below_drew1) | exact HB.out)⟩⟩
                        · rw [if_neg c26] at H
                          exact absurd H (by simp)
              · rw [if_neg c10] at H
                exact absurd H (by simp)
            · rw [if_neg c7] at H
              exact absurd H (by simp)
          · rw [if_neg c6] at H
            have c6b0 : decide (x4_1 < 40) = false := decide_eq_false c6
            clear c6
            obtain rfl := Option.some.inj H
            go_wp2
            go_ret
            exact ⟨by first | rfl | (simp [errW_none, errW_some] <;> rfl) | (simp [*, errW_none, errW_some] <;> rfl), by repeat (first | (with_reducible first | exact HB.out | apply below_alloc | apply pw_below_drewN | apply below_drew1) | exact HB.out)⟩
        · rw [if_neg c5] at H
          have c5b0 : decide (x4_1 < (l0.length : Int)) = false := decide_eq_false c5
          clear c5
          obtain rfl := Option.some.inj H
          go_wp2
          go_ret
          exact ⟨by first | rfl | (simp [errW_none, errW_some] <;> rfl) | (simp [*, errW_none, errW_some] <;> rfl), by repeat (first | (with_reducible first | exact HB.out | apply below_alloc | apply pw_below_drewN | apply below_drew1) | exact HB.out)⟩
  · replace c3 := Bool.eq_false_iff.mpr c3
    subst c3
    have H1 : (none) = some r := by rw [if_neg (show ¬ (false = true) by decide)] at H; exact H
    clear H
    have H := H1
    clear H1
    exact absurd H (by simp)

/-- THE ONE PURE STATEMENT of wharfagelaw14_TrackRow: yours. -/
def wharfagelaw14_TrackRow.Pure : Prop := ∀ (l0 : List Int), l0.length ≤ maxLen → l0.length * 8 ≤ 140737488351232 → (∀ x ∈ l0, (Lit.int .i64 x).wf = true) → ∃ k, wharfagelaw14_TrackRow.f k l0 = some true
theorem wharfagelaw14_TrackRow.walk (P : wharfagelaw14_TrackRow.Pure) (a0 : Option Addr) (len0 cap0 : Nat) (z0 : List Int) (w : World) (w0 : (a0 = none ∧ len0 = 0 ∧ cap0 = 0 ∧ z0 = []) ∨ ∃ x, a0 = some x ∧ len0 ≤ cap0 ∧ cap0 ≤ maxLen ∧ z0.length = cap0 ∧ (∀ i, i < z0.length → w.cell? (x.add i) = some (.int .i64 (z0.getD i 0))) ∧ ∀ n ∈ z0, (Lit.int .i64 n).wf = true) (y0 : len0 * 8 ≤ 140737488351232) :
    Calls Try.prog 11 #[.slice a0 len0 cap0] w fun e w' => e = .returned (.bool true) ∧ Below w.heap.size w w' := by
  obtain ⟨l0, rfl, hr0, hm0, hw0, hc0⟩ := ReadsInt.ofRowC w0
  obtain ⟨k, h⟩ := P l0 hm0 y0 hw0
  refine (wharfagelaw14_TrackRow.calls k _ _ l0 true w (Kd.C_of_reads (d := (0 : Int)) (h1 := fun _ => rfl) hr0) hc0 h).mono ?_
  rintro e w' ⟨rfl, hd⟩
  exact ⟨rfl, hd⟩

end Go.Proofs.Ytcefplpmpmlboaa.PTrack
