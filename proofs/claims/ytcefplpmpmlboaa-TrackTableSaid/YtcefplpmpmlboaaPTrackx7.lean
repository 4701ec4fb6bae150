/- Contracts: what calls of these functions of the program do, each as a plain function; written by a program of this session. -/
import Derived.Test.YtcefplpmpmlboaaPTrackx0
import Derived.Test.YtcefplpmpmlboaaPTrackx1
import Derived.Test.YtcefplpmpmlboaaPTrackx2
import Derived.Test.YtcefplpmpmlboaaPTrackx5
namespace Go.Proofs.Ytcefplpmpmlboaa.PTrack
open Go.RowKit Go.Proofs.YtcefplpmpmlboaaW.PrintWords Go.Proofs.YtcefplpmpmlboaaW.PrintLast Go.Proofs.YtcefplpmpmlboaaW.PrintMore
attribute [local go_sem] max2_int min2_int max_two min_two max_three min_three max_four min_four   -- for this text's walks alone
set_option linter.unusedVariables false
set_option linter.unusedSimpArgs false

/-! ### wharfagelaw14_TrackTable: function 10 -/
def wharfagelaw14_TrackTable.f (a0 : Int) : Option (Bool) := (wharfagelaw14_awake.f).bind fun t140 => (if t140 = true then ((some (([0, 0, 0, 0, 0, 1, 1, 1, 1, 2, 2, 2] : List Int) : List Int)).bind fun y141 => ((some (([0, 2, 18, 1, 5, 0, 16, 17, 2, 1, 16, 3] : List Int) : List Int)).bind fun y144 => ((some (([0, 0, 0, 1, 2, 1, 1, 2, 0, 2, 2, 0] : List Int) : List Int)).bind fun y147 => (if 0 ≤ (wrap64 (Int.tmod (IntKind.u64.wrap (a0)) 12)) then (if (wrap64 (Int.tmod (IntKind.u64.wrap (a0)) 12)) < (y141.length : Int) then (if (wrap64 (Int.tmod (IntKind.u64.wrap (a0)) 12)) < (y144.length : Int) then ((track_Step.f (rd y141 (wrap64 (Int.tmod (IntKind.u64.wrap (a0)) 12))) (rd y144 (wrap64 (Int.tmod (IntKind.u64.wrap (a0)) 12)))).bind fun bt152 => (if (wrap64 (Int.tmod (IntKind.u64.wrap (a0)) 12)) < (y147.length : Int) then (if bt152.1 = (rd y147 (wrap64 (Int.tmod (IntKind.u64.wrap (a0)) 12))) then ((wharfagelaw0_Num.f bt152.2).bind fun t155 => (some (t155 == 0))) else (none)) else (none))) else (none)) else (none)) else (none))))) else (none))
def wharfagelaw14_TrackTable.T7 : Bool × List (List Nat × List Nat) := (true, [([], []), ([], []), ([0, 1], [0, 1]), ([2], [2]), ([], []), ([], []), ([4, 5], [4, 5]), ([6], [6]), ([3, 7], [3, 7]), ([8], [8]), ([9], [9]), ([9], [9]), ([10, 8, 0, 1, 2, 3, 4, 5, 6, 7, 8, 9, 10], [10]), ([11, 12, 0, 1, 2, 3, 4, 5, 6, 7, 8, 9, 10, 11, 12], [11])])
def wharfagelaw14_TrackTable.B7 : List Nat := [0, 0, 3, 7, 0, 0, 48, 112, 255, 511, 1023, 1023, 2047, 8191]
theorem wharfagelaw14_TrackTable.tab7 : rtab .any (opsOf Try.f10 7) = wharfagelaw14_TrackTable.T7 := by kernel_rfl
theorem wharfagelaw14_TrackTable.bits7 : waitsOk wharfagelaw14_TrackTable.T7.2 wharfagelaw14_TrackTable.B7 = true := by kernel_rfl
set_option maxHeartbeats 8000000 in
set_option maxRecDepth 100000 in
theorem wharfagelaw14_TrackTable.calls (a0 : Int) (r : Bool) (w : World) (h : wharfagelaw14_TrackTable.f a0 = some r) :
    Calls Try.prog 10 #[.int .i64 a0] w fun e w' => e = .returned (.bool r) ∧ Below w.heap.size w w' := by
  have HB := Aside0.mk (Below.refl w.heap.size w)
  have H : ((wharfagelaw14_awake.f).bind fun t140 => (if t140 = true then ((some (([0, 0, 0, 0, 0, 1, 1, 1, 1, 2, 2, 2] : List Int) : List Int)).bind fun y141 => ((some (([0, 2, 18, 1, 5, 0, 16, 17, 2, 1, 16, 3] : List Int) : List Int)).bind fun y144 => ((some (([0, 0, 0, 1, 2, 1, 1, 2, 0, 2, 2, 0] : List Int) : List Int)).bind fun y147 => (if 0 ≤ (wrap64 (Int.tmod (IntKind.u64.wrap (a0)) 12)) then (if (wrap64 (Int.tmod (IntKind.u64.wrap (a0)) 12)) < (y141.length : Int) then (if (wrap64 (Int.tmod (IntKind.u64.wrap (a0)) 12)) < (y144.length : Int) then ((track_Step.f (rd y141 (wrap64 (Int.tmod (IntKind.u64.wrap (a0)) 12))) (rd y144 (wrap64 (Int.tmod (IntKind.u64.wrap (a0)) 12)))).bind fun bt152 => (if (wrap64 (Int.tmod (IntKind.u64.wrap (a0)) 12)) < (y147.length : Int) then (if bt152.1 = (rd y147 (wrap64 (Int.tmod (IntKind.u64.wrap (a0)) 12))) then ((wharfagelaw0_Num.f bt152.2).bind fun t155 => (some (t155 == 0))) else (none)) else (none))) else (none)) else (none)) else (none))))) else (none))) = some r := h
  clear h
  replace H := Option.bind_eq_some_iff.mp H
  obtain ⟨t140, A20, H⟩ := H
  replace H : (if t140 = true then ((some (([0, 0, 0, 0, 0, 1, 1, 1, 1, 2, 2, 2] : List Int) : List Int)).bind fun y141 => ((some (([0, 2, 18, 1, 5, 0, 16, 17, 2, 1, 16, 3] : List Int) : List Int)).bind fun y144 => ((some (([0, 0, 0, 1, 2, 1, 1, 2, 0, 2, 2, 0] : List Int) : List Int)).bind fun y147 => (if 0 ≤ (wrap64 (Int.tmod (IntKind.u64.wrap (a0)) 12)) then (if (wrap64 (Int.tmod (IntKind.u64.wrap (a0)) 12)) < (y141.length : Int) then (if (wrap64 (Int.tmod (IntKind.u64.wrap (a0)) 12)) < (y144.length : Int) then ((track_Step.f (rd y141 (wrap64 (Int.tmod (IntKind.u64.wrap (a0)) 12))) (rd y144 (wrap64 (Int.tmod (IntKind.u64.wrap (a0)) 12)))).bind fun bt152 => (if (wrap64 (Int.tmod (IntKind.u64.wrap (a0)) 12)) < (y147.length : Int) then (if bt152.1 = (rd y147 (wrap64 (Int.tmod (IntKind.u64.wrap (a0)) 12))) then ((wharfagelaw0_Num.f bt152.2).bind fun t155 => (some (t155 == 0))) else (none)) else (none))) else (none)) else (none)) else (none))))) else (none)) = some r := H
  have A2 := Aside0.mk A20
  clear A20
  by_cases c3 : t140 = true
  · subst c3
    have H1 : ((some (([0, 0, 0, 0, 0, 1, 1, 1, 1, 2, 2, 2] : List Int) : List Int)).bind fun y141 => ((some (([0, 2, 18, 1, 5, 0, 16, 17, 2, 1, 16, 3] : List Int) : List Int)).bind fun y144 => ((some (([0, 0, 0, 1, 2, 1, 1, 2, 0, 2, 2, 0] : List Int) : List Int)).bind fun y147 => (if 0 ≤ (wrap64 (Int.tmod (IntKind.u64.wrap (a0)) 12)) then (if (wrap64 (Int.tmod (IntKind.u64.wrap (a0)) 12)) < (y141.length : Int) then (if (wrap64 (Int.tmod (IntKind.u64.wrap (a0)) 12)) < (y144.length : Int) then ((track_Step.f (rd y141 (wrap64 (Int.tmod (IntKind.u64.wrap (a0)) 12))) (rd y144 (wrap64 (Int.tmod (IntKind.u64.wrap (a0)) 12)))).bind fun bt152 => (if (wrap64 (Int.tmod (IntKind.u64.wrap (a0)) 12)) < (y147.length : Int) then (if bt152.1 = (rd y147 (wrap64 (Int.tmod (IntKind.u64.wrap (a0)) 12))) then ((wharfagelaw0_Num.f bt152.2).bind fun t155 => (some (t155 == 0))) else (none)) else (none))) else (none)) else (none)) else (none))))) = some r := by rw [if_pos rfl] at H; exact H
    clear H
    have H := H1
    clear H1
    obtain ⟨y141, hy141⟩ : ∃ y_ : List Int, y_ = (([0, 0, 0, 0, 0, 1, 1, 1, 1, 2, 2, 2] : List Int)) := ⟨_, rfl⟩
    replace H : ((some (([0, 2, 18, 1, 5, 0, 16, 17, 2, 1, 16, 3] : List Int) : List Int)).bind fun y144 => ((some (([0, 0, 0, 1, 2, 1, 1, 2, 0, 2, 2, 0] : List Int) : List Int)).bind fun y147 => (if 0 ≤ (wrap64 (Int.tmod (IntKind.u64.wrap (a0)) 12)) then (if (wrap64 (Int.tmod (IntKind.u64.wrap (a0)) 12)) < (y141.length : Int) then (if (wrap64 (Int.tmod (IntKind.u64.wrap (a0)) 12)) < (y144.length : Int) then ((track_Step.f (rd y141 (wrap64 (Int.tmod (IntKind.u64.wrap (a0)) 12))) (rd y144 (wrap64 (Int.tmod (IntKind.u64.wrap (a0)) 12)))).bind fun bt152 => (if (wrap64 (Int.tmod (IntKind.u64.wrap (a0)) 12)) < (y147.length : Int) then (if bt152.1 = (rd y147 (wrap64 (Int.tmod (IntKind.u64.wrap (a0)) 12))) then ((wharfagelaw0_Num.f bt152.2).bind fun t155 => (some (t155 == 0))) else (none)) else (none))) else (none)) else (none)) else (none)))) = some r := by first | (rw [hy141]; with_reducible exact H) | (have H2_ := (Option.bind_some _ _).symm.trans H; rw [hy141]; with_reducible exact H2_) | (have H2_ := (Option.bind_some _ _).symm.trans H; with_reducible exact H2_) | with_reducible exact H | (rw [hy141]; exact H) | exact H
    have Ny141 := Aside0.mk hy141
    clear hy141
    obtain ⟨y144, hy144⟩ : ∃ y_ : List Int, y_ = (([0, 2, 18, 1, 5, 0, 16, 17, 2, 1, 16, 3] : List Int)) := ⟨_, rfl⟩
    replace H : ((some (([0, 0, 0, 1, 2, 1, 1, 2, 0, 2, 2, 0] : List Int) : List Int)).bind fun y147 => (if 0 ≤ (wrap64 (Int.tmod (IntKind.u64.wrap (a0)) 12)) then (if (wrap64 (Int.tmod (IntKind.u64.wrap (a0)) 12)) < (y141.length : Int) then (if (wrap64 (Int.tmod (IntKind.u64.wrap (a0)) 12)) < (y144.length : Int) then ((track_Step.f (rd y141 (wrap64 (Int.tmod (IntKind.u64.wrap (a0)) 12))) (rd y144 (wrap64 (Int.tmod (IntKind.u64.wrap (a0)) 12)))).bind fun bt152 => (if (wrap64 (Int.tmod (IntKind.u64.wrap (a0)) 12)) < (y147.length : Int) then (if bt152.1 = (rd y147 (wrap64 (Int.tmod (IntKind.u64.wrap (a0)) 12))) then ((wharfagelaw0_Num.f bt152.2).bind fun t155 => (some (t155 == 0))) else (none)) else (none))) else (none)) else (none)) else (none))) = some r := by first | (rw [hy144]; with_reducible exact H) | (have H2_ := (Option.bind_some _ _).symm.trans H; rw [hy144]; with_reducible exact H2_) | (have H2_ := (Option.bind_some _ _).symm.trans H; with_reducible exact H2_) | with_reducible exact H | (rw [hy144]; exact H) | exact H
    have Ny144 := Aside0.mk hy144
    clear hy144
    obtain ⟨y147, hy147⟩ : ∃ y_ : List Int, y_ = (([0, 0, 0, 1, 2, 1, 1, 2, 0, 2, 2, 0] : List Int)) := ⟨_, rfl⟩
    replace H : (if 0 ≤ (wrap64 (Int.tmod (IntKind.u64.wrap (a0)) 12)) then (if (wrap64 (Int.tmod (IntKind.u64.wrap (a0)) 12)) < (y141.length : Int) then (if (wrap64 (Int.tmod (IntKind.u64.wrap (a0)) 12)) < (y144.length : Int) then ((track_Step.f (rd y141 (wrap64 (Int.tmod (IntKind.u64.wrap (a0)) 12))) (rd y144 (wrap64 (Int.tmod (IntKind.u64.wrap (a0)) 12)))).bind fun bt152 => (if (wrap64 (Int.tmod (IntKind.u64.wrap (a0)) 12)) < (y147.length : Int) then (if bt152.1 = (rd y147 (wrap64 (Int.tmod (IntKind.u64.wrap (a0)) 12))) then ((wharfagelaw0_Num.f bt152.2).bind fun t155 => (some (t155 == 0))) else (none)) else (none))) else (none)) else (none)) else (none)) = some r := by first | (rw [hy147]; with_reducible exact H) | (have H2_ := (Option.bind_some _ _).symm.trans H; rw [hy147]; with_reducible exact H2_) | (have H2_ := (Option.bind_some _ _).symm.trans H; with_reducible exact H2_) | with_reducible exact H | (rw [hy147]; exact H) | exact H
    have Ny147 := Aside0.mk hy147
    clear hy147
    obtain ⟨ji4, hji4⟩ : ∃ j_ : Int, (wrap64 (Int.tmod (IntKind.u64.wrap (a0)) 12)) = j_ := ⟨_, rfl⟩
    replace H : (if 0 ≤ (ji4) then (if (ji4) < (y141.length : Int) then (if (ji4) < (y144.length : Int) then ((track_Step.f (rd y141 (ji4)) (rd y144 (ji4))).bind fun bt152 => (if (ji4) < (y147.length : Int) then (if bt152.1 = (rd y147 (ji4)) then ((wharfagelaw0_Num.f bt152.2).bind fun t155 => (some (t155 == 0))) else (none)) else (none))) else (none)) else (none)) else (none)) = some r := by first | (rw [hji4] at H; exact H) | (simp only [hji4] at H ⊢; exact H)
    (try rw [hji4] at A2)
    have hji4w : (IntKind.i64.wrap (Int.tmod (IntKind.u64.wrap (a0)) 12)) = ji4 := (i64_w _).trans hji4
    by_cases c5 : 0 ≤ (ji4)
    · rw [if_pos c5] at H
      have c5b0 : decide (0 ≤ (ji4)) = true := decide_eq_true c5
      clear c5
      by_cases c6 : (ji4) < (y141.length : Int)
      · rw [if_pos c6] at H
        have c6b0 : decide ((ji4) < (y141.length : Int)) = true := decide_eq_true c6
        clear c6
        by_cases c7 : (ji4) < (y144.length : Int)
        · rw [if_pos c7] at H
          have c7b0 : decide ((ji4) < (y144.length : Int)) = true := decide_eq_true c7
          clear c7
          replace H := Option.bind_eq_some_iff.mp H
          obtain ⟨⟨t152, t153⟩, A80, H⟩ := H
          replace H : (if (ji4) < (y147.length : Int) then (if t152 = (rd y147 (ji4)) then ((wharfagelaw0_Num.f t153).bind fun t155 => (some (t155 == 0))) else (none)) else (none)) = some r := H
          have A8 := Aside0.mk A80
          clear A80
          by_cases c9 : (ji4) < (y147.length : Int)
          · rw [if_pos c9] at H
            have c9b0 : decide ((ji4) < (y147.length : Int)) = true := decide_eq_true c9
            clear c9
            by_cases c10 : t152 = (rd y147 (ji4))
            · rw [if_pos c10] at H
              have c10b0 : (t152 == (rd y147 (ji4))) = true := beq_iff_eq.mpr c10
              have c10b1 : (t152 != (rd y147 (ji4))) = false := bne_eq_false_iff_eq.mpr c10
              clear c10
              replace H := Option.bind_eq_some_iff.mp H
              obtain ⟨t155, A110, H⟩ := H
              replace H : (some (t155 == 0)) = some r := H
              have A11 := Aside0.mk A110
              clear A110
              obtain rfl := Option.some.inj H
              go_enter Try.func10, Try.ntmps10
              try go_wp2_with (first | ((with_reducible refine gate_callee (f := 25) rfl ?_); refine goesL_ (some 9) rfl rfl Try.func25 (by kernel_rfl) rfl #[] rfl (by (try simp only [List.map_toArray, List.map_cons, List.map_nil]); first | done | rfl | (simp only [List.length_drop, List.length_take]; rfl)) ?_; (with_reducible refine (wharfagelaw14_awake.calls  true _ A2.out).mono ?_); rintro e w12 ⟨rfl, hb⟩; refine ⟨_, rfl, ?_⟩; have n0_ := Aside0.mk (below_step (by repeat (first | (with_reducible first | exact HB.out | apply below_alloc | apply pw_below_drewN | apply below_drew1) | exact HB.out)) hb); clear HB; have HB := n0_; clear n0_; (try clear hb); (try clear hb2); (try clear hk); (try clear hi)) | ((with_reducible refine gate_dst (N := 11) rfl ?_); refine Kd.R_lit (Kd.int .i64) _ 3 ?hg (N := 11) ?hd (xs := ([0, 0, 0, 0, 0, 1, 1, 1, 1, 2, 2, 2] : List Int)) (inner := [.int .i64 0, .int .i64 0, .int .i64 0, .int .i64 0, .int .i64 0, .int .i64 1, .int .i64 1, .int .i64 1, .int .i64 1, .int .i64 2, .int .i64 2, .int .i64 2]) (ok := fun _ => True) (okp := fun _ => True) ?hr ?hp (fun _ hk => hk) trivial (Below.refl _ _) (Nat.le_refl _) (by simp) ?_; (case hd => rfl); (case hg => rfl); (case hr => first | (go_simp; done) | (go_simp; rfl)); (case hp => exact (Reps.one (show Kd.M (Kd.int .i64) _ _ _ 0 [.int .i64 0] from rfl) (Reps.one (show Kd.M (Kd.int .i64) _ _ _ 0 [.int .i64 0] from rfl) (Reps.one (show Kd.M (Kd.int .i64) _ _ _ 0 [.int .i64 0] from rfl) (Reps.one (show Kd.M (Kd.int .i64) _ _ _ 0 [.int .i64 0] from rfl) (Reps.one (show Kd.M (Kd.int .i64) _ _ _ 0 [.int .i64 0] from rfl) (Reps.one (show Kd.M (Kd.int .i64) _ _ _ 1 [.int .i64 1] from rfl) (Reps.one (show Kd.M (Kd.int .i64) _ _ _ 1 [.int .i64 1] from rfl) (Reps.one (show Kd.M (Kd.int .i64) _ _ _ 1 [.int .i64 1] from rfl) (Reps.one (show Kd.M (Kd.int .i64) _ _ _ 1 [.int .i64 1] from rfl) (Reps.one (show Kd.M (Kd.int .i64) _ _ _ 2 [.int .i64 2] from rfl) (Reps.one (show Kd.M (Kd.int .i64) _ _ _ 2 [.int .i64 2] from rfl) (Reps.one (show Kd.M (Kd.int .i64) _ _ _ 2 [.int .i64 2] from rfl) (Reps.none _ _)))))))))))))); intro v142 w13 ho14 hb hg_ hnew_; clear hg_ hnew_; (first | rw [← Ny141.out] at ho14 | (simp only [Int.reduceToNat] at ho14; rw [← Ny141.out] at ho14)); have n0_ := Aside0.mk (Kd.R_lower ho14 (below_size (by repeat (first | (with_reducible first | exact HB.out | apply below_alloc | apply pw_below_drewN | apply below_drew1) | exact HB.out)))); have n1_ := Aside0.mk (below_step (by repeat (first | (with_reducible first | exact HB.out | apply below_alloc | apply pw_below_drewN | apply below_drew1) | exact HB.out)) hb); clear HB; have HO143 := n0_; have HB := n1_; clear n0_ n1_; clear hb ho14) | ((with_reducible refine gate_dst (N := 12) rfl ?_); refine Kd.R_lit (Kd.int .i64) _ 3 ?hg (N := 12) ?hd (xs := ([0, 2, 18, 1, 5, 0, 16, 17, 2, 1, 16, 3] : List Int)) (inner := [.int .i64 0, .int .i64 2, .int .i64 18, .int .i64 1, .int .i64 5, .int .i64 0, .int .i64 16, .int .i64 17, .int .i64 2, .int .i64 1, .int .i64 16, .int .i64 3]) (ok := fun _ => True) (okp := fun _ => True) ?hr ?hp (fun _ hk => hk) trivial (Below.refl _ _) (Nat.le_refl _) (by simp) ?_; (case hd => rfl); (case hg => rfl); (case hr => first | (go_simp; done) | (go_simp; rfl)); (case hp => exact (Reps.one (show Kd.M (Kd.int .i64) _ _ _ 0 [.int .i64 0] from rfl) (Reps.one (show Kd.M (Kd.int .i64) _ _ _ 2 [.int .i64 2] from rfl) (Reps.one (show Kd.M (Kd.int .i64) _ _ _ 18 [.int .i64 18] from rfl) (Reps.one (show Kd.M (Kd.int .i64) _ _ _ 1 [.int .i64 1] from rfl) (Reps.one (show Kd.M (Kd.int .i64) _ _ _ 5 [.int .i64 5] from rfl) (Reps.one (show Kd.M (Kd.int .i64) _ _ _ 0 [.int .i64 0] from rfl) (Reps.one (show Kd.M (Kd.int .i64) _ _ _ 16 [.int .i64 16] from rfl) (Reps.one (show Kd.M (Kd.int .i64) _ _ _ 17 [.int .i64 17] from rfl) (Reps.one (show Kd.M (Kd.int .i64) _ _ _ 2 [.int .i64 2] from rfl) (Reps.one (show Kd.M (Kd.int .i64) _ _ _ 1 [.int .i64 1] from rfl) (Reps.one (show Kd.M (Kd.int .i64) _ _ _ 16 [.int .i64 16] from rfl) (Reps.one (show Kd.M (Kd.int .i64) _ _ _ 3 [.int .i64 3] from rfl) (Reps.none _ _)))))))))))))); intro v145 w15 ho16 hb hg_ hnew_; clear hg_ hnew_; (first | rw [← Ny144.out] at ho16 | (simp only [Int.reduceToNat] at ho16; rw [← Ny144.out] at ho16)); have n0_ := Aside0.mk (Kd.R_elder' (by (with_reducible repeat (first | apply Kd.R_alloc | apply Kd.R_drewN | apply Kd.R_drew)); exact HO143.out) (Kd.R_base ho16) hb); have n1_ := Aside0.mk (Kd.R_lower (Kd.R_new' ho16 (Kd.R_lt (by (with_reducible repeat (first | apply Kd.R_alloc | apply Kd.R_drewN | apply Kd.R_drew)); exact HO143.out))) (below_size (by repeat (first | (with_reducible first | exact HB.out | apply below_alloc | apply pw_below_drewN | apply below_drew1) | exact HB.out)))); have n2_ := Aside0.mk (below_step (by repeat (first | (with_reducible first | exact HB.out | apply below_alloc | apply pw_below_drewN | apply below_drew1) | exact HB.out)) hb); clear HO143; clear HB; have HO143 := n0_; have HO146 := n1_; have HB := n2_; clear n0_ n1_ n2_; clear hb ho16) | ((with_reducible refine gate_dst (N := 13) rfl ?_); refine Kd.R_lit (Kd.int .i64) _ 3 ?hg (N := 13) ?hd (xs := ([0, 0, 0, 1, 2, 1, 1, 2, 0, 2, 2, 0] : List Int)) (inner := [.int .i64 0, .int .i64 0, .int .i64 0, .int .i64 1, .int .i64 2, .int .i64 1, .int .i64 1, .int .i64 2, .int .i64 0, .int .i64 2, .int .i64 2, .int .i64 0]) (ok := fun _ => True) (okp := fun _ => True) ?hr ?hp (fun _ hk => hk) trivial (Below.refl _ _) (Nat.le_refl _) (by simp) ?_; (case hd => rfl); (case hg => rfl); (case hr => first | (go_simp; done) | (go_simp; rfl)); (case hp => exact (Reps.one (show Kd.M (Kd.int .i64) _ _ _ 0 [.int .i64 0] from rfl) (Reps.one (show Kd.M (Kd.int .i64) _ _ _ 0 [.int .i64 0] from rfl) (Reps.one (show Kd.M (Kd.int .i64) _ _ _ 0 [.int .i64 0] from rfl) (Reps.one (show Kd.M (Kd.int .i64) _ _ _ 1 [.int .i64 1] from rfl) (Reps.one (show Kd.M (Kd.int .i64) _ _ _ 2 [.int .i64 2] from rfl) (Reps.one (show Kd.M (Kd.int .i64) _ _ _ 1 [.int .i64 1] from rfl) (Reps.one (show Kd.M (Kd.int .i64) _ _ _ 1 [.int .i64 1] from rfl) (Reps.one (show Kd.M (Kd.int .i64) _ _ _ 2 [.int .i64 2] from rfl) (Reps.one (show Kd.M (Kd.int .i64) _ _ _ 0 [.int .i64 0] from rfl) (Reps.one (show Kd.M (Kd.int .i64) _ _ _ 2 [.int .i64 2] from rfl) (Reps.one (show Kd.M (Kd.int .i64) _ _ _ 2 [.int .i64 2] from rfl) (Reps.one (show Kd.M (Kd.int .i64) _ _ _ 0 [.int .i64 0] from rfl) (Reps.none _ _)))))))))))))); intro v148 w17 ho18 hb hg_ hnew_; clear hg_ hnew_; (first | rw [← Ny147.out] at ho18 | (simp only [Int.reduceToNat] at ho18; rw [← Ny147.out] at ho18)); have n0_ := Aside0.mk (Kd.R_elder' (by (with_reducible repeat (first | apply Kd.R_alloc | apply Kd.R_drewN | apply Kd.R_drew)); exact HO143.out) (Kd.R_base ho18) hb); have n1_ := Aside0.mk (Kd.R_elder' (by (with_reducible repeat (first | apply Kd.R_alloc | apply Kd.R_drewN | apply Kd.R_drew)); exact HO146.out) (Kd.R_base ho18) hb); have n2_ := Aside0.mk (Kd.R_lower (Kd.R_new' (Kd.R_new' ho18 (Kd.R_lt (by (with_reducible repeat (first | apply Kd.R_alloc | apply Kd.R_drewN | apply Kd.R_drew)); exact HO143.out))) (Kd.R_lt (by (with_reducible repeat (first | apply Kd.R_alloc | apply Kd.R_drewN | apply Kd.R_drew)); exact HO146.out))) (below_size (by repeat (first | (with_reducible first | exact HB.out | apply below_alloc | apply pw_below_drewN | apply below_drew1) | exact HB.out)))); have n3_ := Aside0.mk (below_step (by repeat (first | (with_reducible first | exact HB.out | apply below_alloc | apply pw_below_drewN | apply below_drew1) | exact HB.out)) hb); clear HO143; clear HO146; clear HB; have HO143 := n0_; have HO146 := n1_; have HO149 := n2_; have HB := n3_; clear n0_ n1_ n2_ n3_; clear hb ho18))
              have n0_ := Aside0.mk (Kd.R_drew HO143.out)
              have n1_ := Aside0.mk (Kd.R_drew HO146.out)
              have n2_ := Aside0.mk (Kd.R_drew HO149.out)
              have n3_ := Aside0.mk (below_drew1 HB.out)
              clear HO143
              clear HO146
              clear HO149
              clear HB
              have HO143 := n0_
              have HO146 := n1_
              have HO149 := n2_
              have HB := n3_
              clear n0_ n1_ n2_ n3_
              obtain ⟨Ao20, co20, eo20⟩ := Kd.R_slice HO143.out
              (first | subst eo20 | (injection eo20 with f1_ f2_ f3_; have f4_ := f1_.symm; have f5_ := f3_.symm; clear f1_ f2_ f3_; subst f4_; subst f5_))
              have p150 : 0 ≤ ((ji4) : Int) := of_decide_eq_true (by first | (with_reducible assumption) | assumption)
              have q150 : (ji4) < (y141.length : Int) := of_decide_eq_true (by first | (with_reducible assumption) | assumption)
              obtain ⟨ad150, e150, hx150_0⟩ := Kd.at_int (Kd.R_reads' HO143.out).2.2 (ji4) p150 q150
              cases e150
              replace p150 := eq_true p150
              replace q150 := eq_true q150
              obtain ⟨Ao21, co21, eo21⟩ := Kd.R_slice HO146.out
              (first | subst eo21 | (injection eo21 with f1_ f2_ f3_; have f4_ := f1_.symm; have f5_ := f3_.symm; clear f1_ f2_ f3_; subst f4_; subst f5_))
              have p151 : 0 ≤ ((ji4) : Int) := of_decide_eq_true (by first | (with_reducible assumption) | assumption)
              have q151 : (ji4) < (y144.length : Int) := of_decide_eq_true (by first | (with_reducible assumption) | assumption)
              obtain ⟨ad151, e151, hx151_0⟩ := Kd.at_int (Kd.R_reads' HO146.out).2.2 (ji4) p151 q151
              cases e151
              replace p151 := eq_true p151
              replace q151 := eq_true q151
              refine start_ (n := 14) (S := fun w' => w'.cell? (ad150.add ((ji4)).toNat) = some (.int .i64 (rd y141 (ji4))) ∧ w'.cell? (ad151.add ((ji4)).toNat) = some (.int .i64 (rd y144 (ji4)))) (ds := []) #[false, false, false, false, false, false, false, false, false, false, false, false, false, false] (by kernel_rfl) rfl rfl ⟨hx150_0, hx151_0⟩ (fun hHeld => ?_); refine with_tabW wharfagelaw14_TrackTable.tab7 wharfagelaw14_TrackTable.bits7 (fun HT_ HW_ => ?_)
              generalize w17.drew = w19 at HO143 HO146 HO149 HB hx150_0 hx151_0 hHeld ⊢
              refine pure_ (i := 0) (N := some 19) (v := ?_) (a' := ?_) #[true, false, false, false, false, false, false, false, false, false, false, false, false, false] rfl rfl (any_of HT_.out (by kernel_rfl)) (fun _ _ _ h => h) (Or.inl ⟨by rfl, ?_⟩) ?_ ?_
              rotate_left
              · intro w'
                go_simp
                with_reducible rfl
              rotate_left
              · simp only [Act.put, List.setIfInBounds_toArray, List.set_cons_zero, List.set_cons_succ, i64_w, i32_w]
                rfl
              refine pure_ (i := 1) (N := some 20) (v := ?_) (a' := ?_) #[true, true, false, false, false, false, false, false, false, false, false, false, false, false] rfl rfl (any_of HT_.out (by kernel_rfl)) (fun _ _ _ h => h) (Or.inl ⟨by rfl, ?_⟩) ?_ ?_
              rotate_left
              · intro w'
                go_simp
                with_reducible rfl
              rotate_left
              · simp only [Act.put, List.setIfInBounds_toArray, List.set_cons_zero, List.set_cons_succ, i64_w, i32_w]
                rfl
              refine pure_ (i := 2) (N := some 21) (v := ?_) (a' := ?_) #[true, true, true, false, false, false, false, false, false, false, false, false, false, false] rfl rfl (any_of HT_.out (by kernel_rfl)) (fun _ _ _ h => h) (Or.inl ⟨by rfl, ?_⟩) ?_ ?_
              rotate_left
              · intro w'
                go_simp
                with_reducible rfl
              rotate_left
              · simp only [Act.put, List.setIfInBounds_toArray, List.set_cons_zero, List.set_cons_succ, i64_w, i32_w]
                rfl
              refine pure_ (i := 4) (N := some 23) (v := ?_) (a' := ?_) #[true, true, true, false, true, false, false, false, false, false, false, false, false, false] rfl rfl (any_of HT_.out (by kernel_rfl)) (fun _ _ _ h => h) (Or.inl ⟨by rfl, ?_⟩) ?_ ?_
              rotate_left
              · intro w'
                go_simp
                with_reducible rfl
              rotate_left
              · simp only [Act.put, List.setIfInBounds_toArray, List.set_cons_zero, List.set_cons_succ, i64_w, i32_w]
                rfl
              refine pure_ (i := 5) (N := some 24) (v := ?_) (a' := ?_) #[true, true, true, false, true, true, false, false, false, false, false, false, false, false] rfl rfl (any_of HT_.out (by kernel_rfl)) (fun _ _ _ h => h) (Or.inl ⟨by rfl, ?_⟩) ?_ ?_
              rotate_left
              · intro w'
                go_simp
                with_reducible rfl
              rotate_left
              · simp only [Act.put, List.setIfInBounds_toArray, List.set_cons_zero, List.set_cons_succ, i64_w, i32_w]
                rfl
              refine pure_ (i := 6) (N := some 25) (v := ?_) (a' := ?_) #[true, true, true, false, true, true, true, false, false, false, false, false, false, false] rfl rfl (any_of HT_.out (by kernel_rfl)) (fun _ _ _ h => h) (Or.inl ⟨by rfl, ?_⟩) ?_ ?_
              rotate_left
              · intro w'
                go_simp
                with_reducible rfl
              rotate_left
              · simp only [Act.put, List.setIfInBounds_toArray, List.set_cons_zero, List.set_cons_succ, i64_w, i32_w]
                rfl
              refine take_ (i := 3) (N := some 22) (v := ?_) (a' := ?_) #[true, true, true, true, true, true, true, false, false, false, false, false, false, false] rfl rfl (take_ofW HT_.out HW_.out (by kernel_rfl)) (fun _ _ _ h => h) (Or.inl ⟨by rfl, ?_⟩) hHeld ?_ ?_
              rotate_left
              · rintro w' ⟨s0, s1⟩
                go_simp
                with_reducible rfl
              rotate_left
              · simp only [Act.put, List.setIfInBounds_toArray, List.set_cons_zero, List.set_cons_succ, i64_w, i32_w]
                rfl
              refine take_ (i := 7) (N := some 26) (v := ?_) (a' := ?_) #[true, true, true, true, true, true, true, true, false, false, false, false, false, false] rfl rfl (take_ofW HT_.out HW_.out (by kernel_rfl)) (fun _ _ _ h => h) (Or.inl ⟨by rfl, ?_⟩) hHeld ?_ ?_
              rotate_left
              · rintro w' ⟨s0, s1⟩
                go_simp
                with_reducible rfl
              rotate_left
              · simp only [Act.put, List.setIfInBounds_toArray, List.set_cons_zero, List.set_cons_succ, i64_w, i32_w]
                rfl
              refine one_ (i := 8) (N := some 27) #[true, true, true, true, true, true, true, true, true, false, false, false, false, false] rfl rfl (one_of HT_.out (by kernel_rfl)) (by decide) (fun K hK => ?_)
              refine goes_ Try.func21 (by kernel_rfl) rfl #[.int .i64 (rd y141 (ji4)), .int .i64 (rd y144 (ji4))] (by rfl) rfl rfl (by (try simp only [List.map_toArray, List.map_cons, List.map_nil]); first | done | (simp only [hji4]; rfl) | rfl | (simp only [List.length_drop, List.length_take]; rfl)) ?_
              with_reducible refine (track_Step.calls (rd y141 (ji4)) (rd y144 (ji4)) t152 t153 _ A8.out).mono ?_
              rintro e w22 ⟨rfl, hb⟩
              have HS0_ := (hb.cell (World.block_lt_of_cell? _ _ (hHeld.1))).trans (hHeld.1)
              have HS1_ := (hb.cell (World.block_lt_of_cell? _ _ (hHeld.2))).trans (hHeld.2)
              refine ⟨_, rfl, ?_⟩
              have n0_ := Aside0.mk (Kd.R_below (by (with_reducible repeat (first | apply Kd.R_alloc | apply Kd.R_drewN | apply Kd.R_drew)); exact HO143.out) hb)
              have n1_ := Aside0.mk (Kd.R_below (by (with_reducible repeat (first | apply Kd.R_alloc | apply Kd.R_drewN | apply Kd.R_drew)); exact HO146.out) hb)
              have n2_ := Aside0.mk (Kd.R_below (by (with_reducible repeat (first | apply Kd.R_alloc | apply Kd.R_drewN | apply Kd.R_drew)); exact HO149.out) hb)
              have n3_ := Aside0.mk (below_step (by repeat (first | (with_reducible first | exact HB.out | apply below_alloc | apply pw_below_drewN | apply below_drew1) | exact HB.out)) hb)
              clear HO143
              clear HO146
              clear HO149
              clear HB
              have HO143 := n0_
              have HO146 := n1_
              have HO149 := n2_
              have HB := n3_
              clear n0_ n1_ n2_ n3_
              (try clear hb)
              (try clear hb2)
              (try clear hk)
              (try clear hi)
              refine hK.out _ _ ⟨HS0_, HS1_⟩ (fun hHeld => ?_)
              clear hK K
              refine norm_ (a' := ?_) ?_ ?_
              rotate_left
              · show Act.put _ (some 27) _ = _
                simp only [Act.put, List.setIfInBounds_toArray, List.set_cons_zero, List.set_cons_succ, i64_w, i32_w]
                rfl
              refine pure_ (i := 9) (N := some 18) (v := ?_) (a' := ?_) #[true, true, true, true, true, true, true, true, true, true, false, false, false, false] rfl rfl (any_of HT_.out (by kernel_rfl)) (fun _ _ _ h => h) (Or.inl ⟨by rfl, ?_⟩) ?_ ?_
              rotate_left
              · intro w'
                go_simp
                with_reducible rfl
              rotate_left
              · simp only [Act.put, List.setIfInBounds_toArray, List.set_cons_zero, List.set_cons_succ, i64_w, i32_w]
                rfl
              refine pure_ (i := 10) (N := some 28) (v := ?_) (a' := ?_) #[true, true, true, true, true, true, true, true, true, true, true, false, false, false] rfl rfl (any_of HT_.out (by kernel_rfl)) (fun _ _ _ h => h) (Or.inl ⟨by rfl, ?_⟩) ?_ ?_
              rotate_left
              · intro w'
                go_simp
                with_reducible rfl
              rotate_left
              · simp only [Act.put, List.setIfInBounds_toArray, List.set_cons_zero, List.set_cons_succ, i64_w, i32_w]
                rfl
              refine pure_ (i := 11) (N := some 29) (v := ?_) (a' := ?_) #[true, true, true, true, true, true, true, true, true, true, true, true, false, false] rfl rfl (any_of HT_.out (by kernel_rfl)) (fun _ _ _ h => h) (Or.inl ⟨by rfl, ?_⟩) ?_ ?_
              rotate_left
              · intro w'
                go_simp
                with_reducible rfl
              rotate_left
              · simp only [Act.put, List.setIfInBounds_toArray, List.set_cons_zero, List.set_cons_succ, i64_w, i32_w]
                rfl
              refine pure_ (i := 12) (N := some 7) (v := ?_) (a' := ?_) #[true, true, true, true, true, true, true, true, true, true, true, true, true, false] rfl rfl (any_of HT_.out (by kernel_rfl)) (fun _ _ _ h => h) (Or.inl ⟨by rfl, ?_⟩) ?_ ?_
              rotate_left
              · intro w'
                go_simp
                with_reducible rfl
              rotate_left
              · simp only [Act.put, List.setIfInBounds_toArray, List.set_cons_zero, List.set_cons_succ, i64_w, i32_w]
                rfl
              refine pure_ (i := 13) (N := some 8) (v := ?_) (a' := ?_) #[true, true, true, true, true, true, true, true, true, true, true, true, true, true] rfl rfl (any_of HT_.out (by kernel_rfl)) (fun _ _ _ h => h) (Or.inl ⟨by rfl, ?_⟩) ?_ ?_
              rotate_left
              · intro w'
                go_simp
                with_reducible rfl
              rotate_left
              · simp only [Act.put, List.setIfInBounds_toArray, List.set_cons_zero, List.set_cons_succ, i64_w, i32_w]
                rfl
              refine done_ (done_of HT_.out (by kernel_rfl)) ?_
              obtain ⟨Ao23, co23, eo23⟩ := Kd.R_slice HO149.out
              subst eo23
              have p154 : 0 ≤ ((ji4) : Int) := of_decide_eq_true (by first | (with_reducible assumption) | assumption)
              have q154 : (ji4) < (y147.length : Int) := of_decide_eq_true (by first | (with_reducible assumption) | assumption)
              obtain ⟨ad154, e154, hx154_0⟩ := Kd.at_int (Kd.R_reads' HO149.out).2.2 (ji4) p154 q154
              cases e154
              replace p154 := eq_true p154
              replace q154 := eq_true q154
              try go_wp2_with (first | (go_at_call 20; (with_reducible refine (wharfagelaw0_Num.calls t153 t155 _ A11.out).mono ?_); rintro e w' ⟨rfl, ⟨nd, rfl⟩⟩))
              go_ret
              exact ⟨by first | rfl | (simp [errW_none, errW_some] <;> rfl) | (simp only [← hji4]; first | rfl | (simp [errW_none, errW_some] <;> rfl)) | (simp [*, errW_none, errW_some] <;> rfl), by repeat (first | (with_reducible first | exact HB.out | apply below_alloc | apply pw_below_drewN | apply below_drew1) | exact HB.out)⟩
            · rw [if_neg c10] at H
              exact absurd H (by simp)
          · rw [if_neg c9] at H
            exact absurd H (by simp)
        · rw [if_neg c7] at H
          exact absurd H (by simp)
      · rw [if_neg c6] at H
        exact absurd H (by simp)
    · rw [if_neg c5] at H
      exact absurd H (by simp)
  · replace c3 := Bool.eq_false_iff.mpr c3
    subst c3
    have H1 : (none) = some r := by rw [if_neg (show ¬ (false = true) by decide)] at H; exact H
    clear H
    have H := H1
    clear H1
    exact absurd H (by simp)

/-- THE ONE PURE STATEMENT of wharfagelaw14_TrackTable: yours. -/
def wharfagelaw14_TrackTable.Pure : Prop := ∀ (a0 : Int), (Lit.int .i64 a0).wf = true → wharfagelaw14_TrackTable.f a0 = some true
theorem wharfagelaw14_TrackTable.walk (P : wharfagelaw14_TrackTable.Pure) (a0 : Int) (w : World) (w0 : (Lit.int .i64 a0).wf = true) :
    Calls Try.prog 10 #[.int .i64 a0] w fun e w' => e = .returned (.bool true) ∧ Below w.heap.size w w' := by
  have h := P a0 w0
  refine (wharfagelaw14_TrackTable.calls a0 true w h).mono ?_
  rintro e w' ⟨rfl, hd⟩
  exact ⟨rfl, hd⟩

end Go.Proofs.Ytcefplpmpmlboaa.PTrack
