/- Contracts: what calls of these functions of the program do, each as a plain function; written by a program of this session. -/
import Derived.Test.YtcefplpmpmlboaaPTrackx0
import Derived.Test.YtcefplpmpmlboaaPTrackx1
import Derived.Test.YtcefplpmpmlboaaPTrackx2
import Derived.Test.YtcefplpmpmlboaaPTrackx3
import Derived.Test.YtcefplpmpmlboaaPTrackx4
import Derived.Test.YtcefplpmpmlboaaPTrackx5
namespace Go.Proofs.Ytcefplpmpmlboaa.PTrack
open Go.RowKit Go.Proofs.YtcefplpmpmlboaaW.PrintWords Go.Proofs.YtcefplpmpmlboaaW.PrintLast Go.Proofs.YtcefplpmpmlboaaW.PrintMore
attribute [local go_sem] max2_int min2_int max_two min_two max_three min_three max_four min_four   -- for this text's walks alone
set_option linter.unusedVariables false
set_option linter.unusedSimpArgs false

/-! ### wharfagelaw14_Tracks: function 9 -/
def wharfagelaw14_Tracks.f (k : Nat) (a0 : Int) (a1 : Int) : Option (Bool) := (track_Step.f a0 a1).bind fun bt129 => ((wharfageref10_StepPhase.f k a0 a1).bind fun bt131 => ((track_Limit.f a0).bind fun bt133 => ((wharfageref10_Limit.f a0).bind fun bt135 => (if bt129.1 = bt131.1 then ((wharfagelaw0_Num.f bt129.2).bind fun t137 => (if t137 = bt131.2 then (if bt133.1 = bt135.1 then ((wharfagelaw0_Num.f bt133.2).bind fun t138 => (if t138 = bt135.2 then ((wharfagelaw14_awake.f).bind fun t139 => (some t139)) else (none))) else (none)) else (none))) else (none)))))
theorem wharfagelaw14_Tracks.mono : ∀ a0 a1 k, LeO (wharfagelaw14_Tracks.f k a0 a1) (wharfagelaw14_Tracks.f (k + 1) a0 a1) := by
  intro a0 a1 k
  unfold wharfagelaw14_Tracks.f
  repeat' first
      | (with_reducible exact wharfageref10_StepPhase.mono _ _ _)
      | (with_reducible exact LeO.refl _)
      | (with_reducible exact LeO.none _)
      | (with_reducible refine LeO.ite ?_ ?_)
      | (with_reducible refine LeO.bind ?_ (fun _ => ?_))
      | exact wharfageref10_StepPhase.mono _ _ _
      | exact LeO.none _
      | refine LeO.ite ?_ ?_
      | refine LeO.bind ?_ (fun _ => ?_)
set_option maxHeartbeats 8000000 in
set_option maxRecDepth 100000 in
theorem wharfagelaw14_Tracks.calls (k : Nat) (a0 : Int) (a1 : Int) (r : Bool) (w : World) (h : wharfagelaw14_Tracks.f k a0 a1 = some r) :
    Calls Try.prog 9 #[.int .i64 a0, .int .i64 a1] w fun e w' => e = .returned (.bool r) ∧ Below w.heap.size w w' := by
  have HB := Aside0.mk (Below.refl w.heap.size w)
  have H : ((track_Step.f a0 a1).bind fun bt129 => ((wharfageref10_StepPhase.f k a0 a1).bind fun bt131 => ((track_Limit.f a0).bind fun bt133 => ((wharfageref10_Limit.f a0).bind fun bt135 => (if bt129.1 = bt131.1 then ((wharfagelaw0_Num.f bt129.2).bind fun t137 => (if t137 = bt131.2 then (if bt133.1 = bt135.1 then ((wharfagelaw0_Num.f bt133.2).bind fun t138 => (if t138 = bt135.2 then ((wharfagelaw14_awake.f).bind fun t139 => (some t139)) else (none))) else (none)) else (none))) else (none)))))) = some r := h
  clear h
  replace H := Option.bind_eq_some_iff.mp H
  obtain ⟨⟨t129, t130⟩, A30, H⟩ := H
  replace H : ((wharfageref10_StepPhase.f k a0 a1).bind fun bt131 => ((track_Limit.f a0).bind fun bt133 => ((wharfageref10_Limit.f a0).bind fun bt135 => (if t129 = bt131.1 then ((wharfagelaw0_Num.f t130).bind fun t137 => (if t137 = bt131.2 then (if bt133.1 = bt135.1 then ((wharfagelaw0_Num.f bt133.2).bind fun t138 => (if t138 = bt135.2 then ((wharfagelaw14_awake.f).bind fun t139 => (some t139)) else (none))) else (none)) else (none))) else (none))))) = some r := H
  have A3 := Aside0.mk A30
  clear A30
  replace H := Option.bind_eq_some_iff.mp H
  obtain ⟨⟨t131, t132⟩, A40, H⟩ := H
  replace H : ((track_Limit.f a0).bind fun bt133 => ((wharfageref10_Limit.f a0).bind fun bt135 => (if t129 = t131 then ((wharfagelaw0_Num.f t130).bind fun t137 => (if t137 = t132 then (if bt133.1 = bt135.1 then ((wharfagelaw0_Num.f bt133.2).bind fun t138 => (if t138 = bt135.2 then ((wharfagelaw14_awake.f).bind fun t139 => (some t139)) else (none))) else (none)) else (none))) else (none)))) = some r := H
  have A4 := Aside0.mk A40
  clear A40
  replace H := Option.bind_eq_some_iff.mp H
  obtain ⟨⟨t133, t134⟩, A50, H⟩ := H
  replace H : ((wharfageref10_Limit.f a0).bind fun bt135 => (if t129 = t131 then ((wharfagelaw0_Num.f t130).bind fun t137 => (if t137 = t132 then (if t133 = bt135.1 then ((wharfagelaw0_Num.f t134).bind fun t138 => (if t138 = bt135.2 then ((wharfagelaw14_awake.f).bind fun t139 => (some t139)) else (none))) else (none)) else (none))) else (none))) = some r := H
  have A5 := Aside0.mk A50
  clear A50
  replace H := Option.bind_eq_some_iff.mp H
  obtain ⟨⟨t135, t136⟩, A60, H⟩ := H
  replace H : (if t129 = t131 then ((wharfagelaw0_Num.f t130).bind fun t137 => (if t137 = t132 then (if t133 = t135 then ((wharfagelaw0_Num.f t134).bind fun t138 => (if t138 = t136 then ((wharfagelaw14_awake.f).bind fun t139 => (some t139)) else (none))) else (none)) else (none))) else (none)) = some r := H
  have A6 := Aside0.mk A60
  clear A60
  by_cases c7 : t129 = t131
  · rw [if_pos c7] at H
    have c7b0 : (t129 == t131) = true := beq_iff_eq.mpr c7
    have c7b1 : (t129 != t131) = false := bne_eq_false_iff_eq.mpr c7
    clear c7
    replace H := Option.bind_eq_some_iff.mp H
    obtain ⟨t137, A80, H⟩ := H
    replace H : (if t137 = t132 then (if t133 = t135 then ((wharfagelaw0_Num.f t134).bind fun t138 => (if t138 = t136 then ((wharfagelaw14_awake.f).bind fun t139 => (some t139)) else (none))) else (none)) else (none)) = some r := H
    have A8 := Aside0.mk A80
    clear A80
    by_cases c9 : t137 = t132
    · rw [if_pos c9] at H
      have c9b0 : (t137 == t132) = true := beq_iff_eq.mpr c9
      have c9b1 : (t137 != t132) = false := bne_eq_false_iff_eq.mpr c9
      clear c9
      by_cases c10 : t133 = t135
      · rw [if_pos c10] at H
        have c10b0 : (t133 == t135) = true := beq_iff_eq.mpr c10
        have c10b1 : (t133 != t135) = false := bne_eq_false_iff_eq.mpr c10
        clear c10
        replace H := Option.bind_eq_some_iff.mp H
        obtain ⟨t138, A110, H⟩ := H
        replace H : (if t138 = t136 then ((wharfagelaw14_awake.f).bind fun t139 => (some t139)) else (none)) = some r := H
        have A11 := Aside0.mk A110
        clear A110
        by_cases c12 : t138 = t136
        · rw [if_pos c12] at H
          have c12b0 : (t138 == t136) = true := beq_iff_eq.mpr c12
          have c12b1 : (t138 != t136) = false := bne_eq_false_iff_eq.mpr c12
          clear c12
          replace H := Option.bind_eq_some_iff.mp H
          obtain ⟨t139, A130, H⟩ := H
          replace H : (some t139) = some r := H
          have A13 := Aside0.mk A130
          clear A130
          obtain rfl := Option.some.inj H
          go_enter Try.func9, Try.ntmps9
          go_wp2_with (first | ((with_reducible refine gate_callee (f := 21) rfl ?_); refine goesL_ (some 16) rfl rfl Try.func21 (by kernel_rfl) rfl #[.int .i64 a0, .int .i64 a1] rfl (by (try simp only [List.map_toArray, List.map_cons, List.map_nil]); first | done | rfl | (simp only [List.length_drop, List.length_take]; rfl)) ?_; (with_reducible refine (track_Step.calls a0 a1 t129 t130 _ A3.out).mono ?_); rintro e w14 ⟨rfl, hb⟩; refine ⟨_, rfl, ?_⟩; have n0_ := Aside0.mk (below_step (by repeat (first | (with_reducible first | exact HB.out | apply below_alloc | apply pw_below_drewN | apply below_drew1) | exact HB.out)) hb); clear HB; have HB := n0_; clear n0_; (try clear hb); (try clear hb2); (try clear hk); (try clear hi)) | ((with_reducible refine gate_callee (f := 22) rfl ?_); refine goesL_ (some 22) rfl rfl Try.func22 (by kernel_rfl) rfl #[.int .i64 a0, .int .i64 a1] rfl (by (try simp only [List.map_toArray, List.map_cons, List.map_nil]); first | done | rfl | (simp only [List.length_drop, List.length_take]; rfl)) ?_; (with_reducible refine (wharfageref10_StepPhase.calls k a0 a1 t131 t132 _ A4.out).mono ?_); rintro e w' ⟨rfl, ⟨nd, rfl⟩⟩; refine ⟨_, rfl, ?_⟩) | ((with_reducible refine gate_callee (f := 23) rfl ?_); refine goesL_ (some 27) rfl rfl Try.func23 (by kernel_rfl) rfl #[.int .i64 a0] rfl (by (try simp only [List.map_toArray, List.map_cons, List.map_nil]); first | done | rfl | (simp only [List.length_drop, List.length_take]; rfl)) ?_; (with_reducible refine (track_Limit.calls a0 t133 t134 _ A5.out).mono ?_); rintro e w' ⟨rfl, ⟨nd, rfl⟩⟩; refine ⟨_, rfl, ?_⟩) | ((with_reducible refine gate_callee (f := 24) rfl ?_); refine goesL_ (some 32) rfl rfl Try.func24 (by kernel_rfl) rfl #[.int .i64 a0] rfl (by (try simp only [List.map_toArray, List.map_cons, List.map_nil]); first | done | rfl | (simp only [List.length_drop, List.length_take]; rfl)) ?_; (with_reducible refine (wharfageref10_Limit.calls a0 t135 t136 _ A6.out).mono ?_); rintro e w' ⟨rfl, ⟨nd, rfl⟩⟩; refine ⟨_, rfl, ?_⟩) | (go_at_call 20; (with_reducible refine (wharfagelaw0_Num.calls t130 t137 _ A8.out).mono ?_); rintro e w' ⟨rfl, ⟨nd, rfl⟩⟩) | (go_at_call 20; (with_reducible refine (wharfagelaw0_Num.calls t134 t138 _ A11.out).mono ?_); rintro e w' ⟨rfl, ⟨nd, rfl⟩⟩) | (go_at_call 25; (with_reducible refine (wharfagelaw14_awake.calls  t139 _ A13.out).mono ?_); rintro e w15 ⟨rfl, hb⟩; have n0_ := Aside0.mk (below_step (by repeat (first | (with_reducible first | exact HB.out | apply below_alloc | apply pw_below_drewN | apply below_drew1) | exact HB.out)) hb); clear HB; have HB := n0_; clear n0_; (try clear hb); (try clear hb2); (try clear hk); (try clear hi)))
          go_ret
          exact ⟨by first | rfl | (simp [errW_none, errW_some] <;> rfl) | (simp [*, errW_none, errW_some] <;> rfl), by repeat (first | (with_reducible first | exact HB.out | apply below_alloc | apply pw_below_drewN | apply below_drew1) | exact HB.out)⟩
        · rw [if_neg c12] at H
          exact absurd H (by simp)
      · rw [if_neg c10] at H
        exact absurd H (by simp)
    · rw [if_neg c9] at H
      exact absurd H (by simp)
  · rw [if_neg c7] at H
    exact absurd H (by simp)

/-- THE ONE PURE STATEMENT of wharfagelaw14_Tracks: yours. -/
def wharfagelaw14_Tracks.Pure : Prop := ∀ (a0 : Int) (a1 : Int), (Lit.int .i64 a0).wf = true → (Lit.int .i64 a1).wf = true → ∃ k, wharfagelaw14_Tracks.f k a0 a1 = some true
theorem wharfagelaw14_Tracks.walk (P : wharfagelaw14_Tracks.Pure) (a0 : Int) (a1 : Int) (w : World) (w0 : (Lit.int .i64 a0).wf = true) (w1 : (Lit.int .i64 a1).wf = true) :
    Calls Try.prog 9 #[.int .i64 a0, .int .i64 a1] w fun e w' => e = .returned (.bool true) ∧ Below w.heap.size w w' := by
  obtain ⟨k, h⟩ := P a0 a1 w0 w1
  refine (wharfagelaw14_Tracks.calls k a0 a1 true w h).mono ?_
  rintro e w' ⟨rfl, hd⟩
  exact ⟨rfl, hd⟩

end Go.Proofs.Ytcefplpmpmlboaa.PTrack
