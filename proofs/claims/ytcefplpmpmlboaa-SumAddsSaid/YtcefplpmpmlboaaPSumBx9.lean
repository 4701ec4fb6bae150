/- Contracts: what calls of these functions of the program do, each as a plain function; written by a program of this session. -/
import Derived.Test.YtcefplpmpmlboaaPSumBx0
import Derived.Test.YtcefplpmpmlboaaPSumBx5
import Derived.Test.YtcefplpmpmlboaaPSumBx6
namespace Go.Proofs.Ytcefplpmpmlboaa.PSumB
open Go.RowKit Go.Proofs.YtcefplpmpmlboaaW.PrintWords Go.Proofs.YtcefplpmpmlboaaW.PrintLast Go.Proofs.YtcefplpmpmlboaaW.PrintMore
attribute [local go_sem] max2_int min2_int max_two min_two max_three min_three max_four min_four   -- for this text's walks alone
set_option linter.unusedVariables false
set_option linter.unusedSimpArgs false

/-! ### wharfagelaw1_SumAdds: function 6 -/
def wharfagelaw1_SumAdds.f (k : Nat) (a0 : Int) (a1 : Int) (a2 : Int) : Option (Bool) := (wharfagelaw1_awake.f k).bind fun t127 => (if t127 = true then ((wharfagelaw0_Num.f 0).bind fun t128 => (if t128 = 0 then ((sum_Add.f k (Go.bits .and .i64 a0 65535) (Go.bits .and .i64 a1 65535)).bind fun t129 => ((sum_Add.f k (Go.bits .and .i64 a1 65535) (Go.bits .and .i64 a0 65535)).bind fun t130 => (if t129 = t130 then ((sum_Add.f k t129 (Go.bits .and .i64 a2 65535)).bind fun t131 => ((sum_Add.f k (Go.bits .and .i64 a1 65535) (Go.bits .and .i64 a2 65535)).bind fun t132 => ((sum_Add.f k (Go.bits .and .i64 a0 65535) t132).bind fun t133 => (if t131 = t133 then ((sum_Add.f k (Go.bits .and .i64 a0 65535) 0).bind fun t134 => (if t134 = (Go.bits .and .i64 a0 65535) then (if (Go.bits .and .i64 a0 65535) = 0 then ((sum_Add.f k a0 a1).bind fun t135 => (some (t135 == t129))) else ((sum_Add.f k (Go.bits .and .i64 a0 65535) 65535).bind fun t136 => (if t136 = (Go.bits .and .i64 a0 65535) then ((sum_Add.f k a0 a1).bind fun t137 => (some (t137 == t129))) else (none)))) else (none))) else (none))))) else (none)))) else (none))) else (none))
theorem wharfagelaw1_SumAdds.mono : ∀ a0 a1 a2 k, LeO (wharfagelaw1_SumAdds.f k a0 a1 a2) (wharfagelaw1_SumAdds.f (k + 1) a0 a1 a2) := by
  intro a0 a1 a2 k
  unfold wharfagelaw1_SumAdds.f
  repeat' first
      | (with_reducible exact sum_Add.mono _ _ _)
      | (with_reducible exact wharfagelaw1_awake.mono _)
      | (with_reducible exact LeO.refl _)
      | (with_reducible exact LeO.none _)
      | (with_reducible refine LeO.ite ?_ ?_)
      | (with_reducible refine LeO.bind ?_ (fun _ => ?_))
      | exact sum_Add.mono _ _ _
      | exact wharfagelaw1_awake.mono _
      | exact LeO.none _
      | refine LeO.ite ?_ ?_
      | refine LeO.bind ?_ (fun _ => ?_)
set_option maxHeartbeats 8000000 in
set_option maxRecDepth 100000 in
theorem wharfagelaw1_SumAdds.calls (k : Nat) (a0 : Int) (a1 : Int) (a2 : Int) (r : Bool) (w : World) (h : wharfagelaw1_SumAdds.f k a0 a1 a2 = some r) :
    Calls Try.prog 6 #[.int .i64 a0, .int .i64 a1, .int .i64 a2] w fun e w' => e = .returned (.bool r) ∧ Drawn0 w w' := by
  have H : ((wharfagelaw1_awake.f k).bind fun t127 => (if t127 = true then ((wharfagelaw0_Num.f 0).bind fun t128 => (if t128 = 0 then ((sum_Add.f k (Go.bits .and .i64 a0 65535) (Go.bits .and .i64 a1 65535)).bind fun t129 => ((sum_Add.f k (Go.bits .and .i64 a1 65535) (Go.bits .and .i64 a0 65535)).bind fun t130 => (if t129 = t130 then ((sum_Add.f k t129 (Go.bits .and .i64 a2 65535)).bind fun t131 => ((sum_Add.f k (Go.bits .and .i64 a1 65535) (Go.bits .and .i64 a2 65535)).bind fun t132 => ((sum_Add.f k (Go.bits .and .i64 a0 65535) t132).bind fun t133 => (if t131 = t133 then ((sum_Add.f k (Go.bits .and .i64 a0 65535) 0).bind fun t134 => (if t134 = (Go.bits .and .i64 a0 65535) then (if (Go.bits .and .i64 a0 65535) = 0 then ((sum_Add.f k a0 a1).bind fun t135 => (some (t135 == t129))) else ((sum_Add.f k (Go.bits .and .i64 a0 65535) 65535).bind fun t136 => (if t136 = (Go.bits .and .i64 a0 65535) then ((sum_Add.f k a0 a1).bind fun t137 => (some (t137 == t129))) else (none)))) else (none))) else (none))))) else (none)))) else (none))) else (none))) = some r := h
  clear h
  replace H := Option.bind_eq_some_iff.mp H
  obtain ⟨t127, A40, H⟩ := H
  replace H : (if t127 = true then ((wharfagelaw0_Num.f 0).bind fun t128 => (if t128 = 0 then ((sum_Add.f k (Go.bits .and .i64 a0 65535) (Go.bits .and .i64 a1 65535)).bind fun t129 => ((sum_Add.f k (Go.bits .and .i64 a1 65535) (Go.bits .and .i64 a0 65535)).bind fun t130 => (if t129 = t130 then ((sum_Add.f k t129 (Go.bits .and .i64 a2 65535)).bind fun t131 => ((sum_Add.f k (Go.bits .and .i64 a1 65535) (Go.bits .and .i64 a2 65535)).bind fun t132 => ((sum_Add.f k (Go.bits .and .i64 a0 65535) t132).bind fun t133 => (if t131 = t133 then ((sum_Add.f k (Go.bits .and .i64 a0 65535) 0).bind fun t134 => (if t134 = (Go.bits .and .i64 a0 65535) then (if (Go.bits .and .i64 a0 65535) = 0 then ((sum_Add.f k a0 a1).bind fun t135 => (some (t135 == t129))) else ((sum_Add.f k (Go.bits .and .i64 a0 65535) 65535).bind fun t136 => (if t136 = (Go.bits .and .i64 a0 65535) then ((sum_Add.f k a0 a1).bind fun t137 => (some (t137 == t129))) else (none)))) else (none))) else (none))))) else (none)))) else (none))) else (none)) = some r := H
  have A4 := Aside0.mk A40
  clear A40
  by_cases c5 : t127 = true
  · subst c5
    have H1 : ((wharfagelaw0_Num.f 0).bind fun t128 => (if t128 = 0 then ((sum_Add.f k (Go.bits .and .i64 a0 65535) (Go.bits .and .i64 a1 65535)).bind fun t129 => ((sum_Add.f k (Go.bits .and .i64 a1 65535) (Go.bits .and .i64 a0 65535)).bind fun t130 => (if t129 = t130 then ((sum_Add.f k t129 (Go.bits .and .i64 a2 65535)).bind fun t131 => ((sum_Add.f k (Go.bits .and .i64 a1 65535) (Go.bits .and .i64 a2 65535)).bind fun t132 => ((sum_Add.f k (Go.bits .and .i64 a0 65535) t132).bind fun t133 => (if t131 = t133 then ((sum_Add.f k (Go.bits .and .i64 a0 65535) 0).bind fun t134 => (if t134 = (Go.bits .and .i64 a0 65535) then (if (Go.bits .and .i64 a0 65535) = 0 then ((sum_Add.f k a0 a1).bind fun t135 => (some (t135 == t129))) else ((sum_Add.f k (Go.bits .and .i64 a0 65535) 65535).bind fun t136 => (if t136 = (Go.bits .and .i64 a0 65535) then ((sum_Add.f k a0 a1).bind fun t137 => (some (t137 == t129))) else (none)))) else (none))) else (none))))) else (none)))) else (none))) = some r := by rw [if_pos rfl] at H; exact H
    clear H
    have H := H1
    clear H1
    replace H := Option.bind_eq_some_iff.mp H
    obtain ⟨t128, A60, H⟩ := H
    replace H : (if t128 = 0 then ((sum_Add.f k (Go.bits .and .i64 a0 65535) (Go.bits .and .i64 a1 65535)).bind fun t129 => ((sum_Add.f k (Go.bits .and .i64 a1 65535) (Go.bits .and .i64 a0 65535)).bind fun t130 => (if t129 = t130 then ((sum_Add.f k t129 (Go.bits .and .i64 a2 65535)).bind fun t131 => ((sum_Add.f k (Go.bits .and .i64 a1 65535) (Go.bits .and .i64 a2 65535)).bind fun t132 => ((sum_Add.f k (Go.bits .and .i64 a0 65535) t132).bind fun t133 => (if t131 = t133 then ((sum_Add.f k (Go.bits .and .i64 a0 65535) 0).bind fun t134 => (if t134 = (Go.bits .and .i64 a0 65535) then (if (Go.bits .and .i64 a0 65535) = 0 then ((sum_Add.f k a0 a1).bind fun t135 => (some (t135 == t129))) else ((sum_Add.f k (Go.bits .and .i64 a0 65535) 65535).bind fun t136 => (if t136 = (Go.bits .and .i64 a0 65535) then ((sum_Add.f k a0 a1).bind fun t137 => (some (t137 == t129))) else (none)))) else (none))) else (none))))) else (none)))) else (none)) = some r := H
    have A6 := Aside0.mk A60
    clear A60
    by_cases c7 : t128 = 0
    · rw [if_pos c7] at H
      have c7b0 : (t128 == 0) = true := beq_iff_eq.mpr c7
      have c7b1 : (t128 != 0) = false := bne_eq_false_iff_eq.mpr c7
      clear c7
      replace H := Option.bind_eq_some_iff.mp H
      obtain ⟨t129, A80, H⟩ := H
      replace H : ((sum_Add.f k (Go.bits .and .i64 a1 65535) (Go.bits .and .i64 a0 65535)).bind fun t130 => (if t129 = t130 then ((sum_Add.f k t129 (Go.bits .and .i64 a2 65535)).bind fun t131 => ((sum_Add.f k (Go.bits .and .i64 a1 65535) (Go.bits .and .i64 a2 65535)).bind fun t132 => ((sum_Add.f k (Go.bits .and .i64 a0 65535) t132).bind fun t133 => (if t131 = t133 then ((sum_Add.f k (Go.bits .and .i64 a0 65535) 0).bind fun t134 => (if t134 = (Go.bits .and .i64 a0 65535) then (if (Go.bits .and .i64 a0 65535) = 0 then ((sum_Add.f k a0 a1).bind fun t135 => (some (t135 == t129))) else ((sum_Add.f k (Go.bits .and .i64 a0 65535) 65535).bind fun t136 => (if t136 = (Go.bits .and .i64 a0 65535) then ((sum_Add.f k a0 a1).bind fun t137 => (some (t137 == t129))) else (none)))) else (none))) else (none))))) else (none))) = some r := H
      have A8 := Aside0.mk A80
      clear A80
      replace H := Option.bind_eq_some_iff.mp H
      obtain ⟨t130, A90, H⟩ := H
      replace H : (if t129 = t130 then ((sum_Add.f k t129 (Go.bits .and .i64 a2 65535)).bind fun t131 => ((sum_Add.f k (Go.bits .and .i64 a1 65535) (Go.bits .and .i64 a2 65535)).bind fun t132 => ((sum_Add.f k (Go.bits .and .i64 a0 65535) t132).bind fun t133 => (if t131 = t133 then ((sum_Add.f k (Go.bits .and .i64 a0 65535) 0).bind fun t134 => (if t134 = (Go.bits .and .i64 a0 65535) then (if (Go.bits .and .i64 a0 65535) = 0 then ((sum_Add.f k a0 a1).bind fun t135 => (some (t135 == t129))) else ((sum_Add.f k (Go.bits .and .i64 a0 65535) 65535).bind fun t136 => (if t136 = (Go.bits .and .i64 a0 65535) then ((sum_Add.f k a0 a1).bind fun t137 => (some (t137 == t129))) else (none)))) else (none))) else (none))))) else (none)) = some r := H
      have A9 := Aside0.mk A90
      clear A90
      by_cases c10 : t129 = t130
      · rw [if_pos c10] at H
        have c10b0 : (t129 == t130) = true := beq_iff_eq.mpr c10
        have c10b1 : (t129 != t130) = false := bne_eq_false_iff_eq.mpr c10
        clear c10
        replace H := Option.bind_eq_some_iff.mp H
        obtain ⟨t131, A110, H⟩ := H
        replace H : ((sum_Add.f k (Go.bits .and .i64 a1 65535) (Go.bits .and .i64 a2 65535)).bind fun t132 => ((sum_Add.f k (Go.bits .and .i64 a0 65535) t132).bind fun t133 => (if t131 = t133 then ((sum_Add.f k (Go.bits .and .i64 a0 65535) 0).bind fun t134 => (if t134 = (Go.bits .and .i64 a0 65535) then (if (Go.bits .and .i64 a0 65535) = 0 then ((sum_Add.f k a0 a1).bind fun t135 => (some (t135 == t129))) else ((sum_Add.f k (Go.bits .and .i64 a0 65535) 65535).bind fun t136 => (if t136 = (Go.bits .and .i64 a0 65535) then ((sum_Add.f k a0 a1).bind fun t137 => (some (t137 == t129))) else (none)))) else (none))) else (none)))) = some r := H
        have A11 := Aside0.mk A110
        clear A110
        replace H := Option.bind_eq_some_iff.mp H
        obtain ⟨t132, A120, H⟩ := H
        replace H : ((sum_Add.f k (Go.bits .and .i64 a0 65535) t132).bind fun t133 => (if t131 = t133 then ((sum_Add.f k (Go.bits .and .i64 a0 65535) 0).bind fun t134 => (if t134 = (Go.bits .and .i64 a0 65535) then (if (Go.bits .and .i64 a0 65535) = 0 then ((sum_Add.f k a0 a1).bind fun t135 => (some (t135 == t129))) else ((sum_Add.f k (Go.bits .and .i64 a0 65535) 65535).bind fun t136 => (if t136 = (Go.bits .and .i64 a0 65535) then ((sum_Add.f k a0 a1).bind fun t137 => (some (t137 == t129))) else (none)))) else (none))) else (none))) = some r := H
        have A12 := Aside0.mk A120
        clear A120
        replace H := Option.bind_eq_some_iff.mp H
        obtain ⟨t133, A130, H⟩ := H
        replace H : (if t131 = t133 then ((sum_Add.f k (Go.bits .and .i64 a0 65535) 0).bind fun t134 => (if t134 = (Go.bits .and .i64 a0 65535) then (if (Go.bits .and .i64 a0 65535) = 0 then ((sum_Add.f k a0 a1).bind fun t135 => (some (t135 == t129))) else ((sum_Add.f k (Go.bits .and .i64 a0 65535) 65535).bind fun t136 => (if t136 = (Go.bits .and .i64 a0 65535) then ((sum_Add.f k a0 a1).bind fun t137 => (some (t137 == t129))) else (none)))) else (none))) else (none)) = some r := H
        have A13 := Aside0.mk A130
        clear A130
        by_cases c14 : t131 = t133
        · rw [if_pos c14] at H
          have c14b0 : (t131 == t133) = true := beq_iff_eq.mpr c14
          have c14b1 : (t131 != t133) = false := bne_eq_false_iff_eq.mpr c14
          clear c14
          replace H := Option.bind_eq_some_iff.mp H
          obtain ⟨t134, A150, H⟩ := H
          replace H : (if t134 = (Go.bits .and .i64 a0 65535) then (if (Go.bits .and .i64 a0 65535) = 0 then ((sum_Add.f k a0 a1).bind fun t135 => (some (t135 == t129))) else ((sum_Add.f k (Go.bits .and .i64 a0 65535) 65535).bind fun t136 => (if t136 = (Go.bits .and .i64 a0 65535) then ((sum_Add.f k a0 a1).bind fun t137 => (some (t137 == t129))) else (none)))) else (none)) = some r := H
          have A15 := Aside0.mk A150
          clear A150
          by_cases c16 : t134 = (Go.bits .and .i64 a0 65535)
          · rw [if_pos c16] at H
            have c16b0 : (t134 == (Go.bits .and .i64 a0 65535)) = true := beq_iff_eq.mpr c16
            have c16b1 : (t134 != (Go.bits .and .i64 a0 65535)) = false := bne_eq_false_iff_eq.mpr c16
            clear c16
            by_cases c17 : (Go.bits .and .i64 a0 65535) = 0
            · rw [if_pos c17] at H
              have c17b0 : ((Go.bits .and .i64 a0 65535) == 0) = true := beq_iff_eq.mpr c17
              have c17b1 : ((Go.bits .and .i64 a0 65535) != 0) = false := bne_eq_false_iff_eq.mpr c17
              clear c17
              replace H := Option.bind_eq_some_iff.mp H
              obtain ⟨t135, A180, H⟩ := H
              replace H : (some (t135 == t129)) = some r := H
              have A18 := Aside0.mk A180
              clear A180
              obtain rfl := Option.some.inj H
              go_enter Try.func6, Try.ntmps6
              go_wp2_with (first | ((with_reducible refine gate_callee (f := 19) rfl ?_); refine goesL_ (some 10) rfl rfl Try.func19 (by kernel_rfl) rfl #[] rfl (by (try simp only [List.map_toArray, List.map_cons, List.map_nil]); first | done | rfl | (simp only [List.length_drop, List.length_take]; rfl)) ?_; (with_reducible refine (wharfagelaw1_awake.calls k  true _ A4.out).mono ?_); rintro e w' ⟨rfl, ⟨nd, rfl⟩⟩; refine ⟨_, rfl, ?_⟩) | ((with_reducible refine gate_callee (f := 20) rfl ?_); refine goesL_ (some 18) rfl rfl Try.func20 (by kernel_rfl) rfl #[.int .i64 0] rfl (by (try simp only [List.map_toArray, List.map_cons, List.map_nil]); first | done | rfl | (simp only [List.length_drop, List.length_take]; rfl)) ?_; (with_reducible refine (wharfagelaw0_Num.calls 0 t128 _ A6.out).mono ?_); rintro e w' ⟨rfl, ⟨nd, rfl⟩⟩; refine ⟨_, rfl, ?_⟩) | (go_at_call 17; (with_reducible refine (sum_Add.calls k (Go.bits .and .i64 a0 65535) (Go.bits .and .i64 a1 65535) t129 _ A8.out).mono ?_); rintro e w' ⟨rfl, ⟨nd, rfl⟩⟩) | (go_at_call 17; (with_reducible refine (sum_Add.calls k (Go.bits .and .i64 a1 65535) (Go.bits .and .i64 a0 65535) t130 _ A9.out).mono ?_); rintro e w' ⟨rfl, ⟨nd, rfl⟩⟩) | (go_at_call 17; (with_reducible refine (sum_Add.calls k t129 (Go.bits .and .i64 a2 65535) t131 _ A11.out).mono ?_); rintro e w' ⟨rfl, ⟨nd, rfl⟩⟩) | (go_at_call 17; (with_reducible refine (sum_Add.calls k (Go.bits .and .i64 a1 65535) (Go.bits .and .i64 a2 65535) t132 _ A12.out).mono ?_); rintro e w' ⟨rfl, ⟨nd, rfl⟩⟩) | (go_at_call 17; (with_reducible refine (sum_Add.calls k (Go.bits .and .i64 a0 65535) t132 t133 _ A13.out).mono ?_); rintro e w' ⟨rfl, ⟨nd, rfl⟩⟩) | (go_at_call 17; (with_reducible refine (sum_Add.calls k (Go.bits .and .i64 a0 65535) 0 t134 _ A15.out).mono ?_); rintro e w' ⟨rfl, ⟨nd, rfl⟩⟩) | (go_at_call 17; (with_reducible refine (sum_Add.calls k a0 a1 t135 _ A18.out).mono ?_); rintro e w' ⟨rfl, ⟨nd, rfl⟩⟩))
              go_ret
              exact ⟨by first | rfl | (simp; done) | (simp [*]; done), by repeat (first | exact Drawn0.refl _ | apply Drawn0.step)⟩
            · rw [if_neg c17] at H
              have c17b0 : ((Go.bits .and .i64 a0 65535) == 0) = false := beq_eq_false_iff_ne.mpr c17
              have c17b1 : ((Go.bits .and .i64 a0 65535) != 0) = true := bne_iff_ne.mpr c17
              replace H := Option.bind_eq_some_iff.mp H
              obtain ⟨t136, A190, H⟩ := H
              replace H : (if t136 = (Go.bits .and .i64 a0 65535) then ((sum_Add.f k a0 a1).bind fun t137 => (some (t137 == t129))) else (none)) = some r := H
              have A19 := Aside0.mk A190
              clear A190
              by_cases c20 : t136 = (Go.bits .and .i64 a0 65535)
              · rw [if_pos c20] at H
                have c20b0 : (t136 == (Go.bits .and .i64 a0 65535)) = true := beq_iff_eq.mpr c20
                have c20b1 : (t136 != (Go.bits .and .i64 a0 65535)) = false := bne_eq_false_iff_eq.mpr c20
                clear c20
                replace H := Option.bind_eq_some_iff.mp H
                obtain ⟨t137, A210, H⟩ := H
                replace H : (some (t137 == t129)) = some r := H
                have A21 := Aside0.mk A210
                clear A210
                obtain rfl := Option.some.inj H
                go_enter Try.func6, Try.ntmps6
                go_wp2_with (first | ((with_reducible refine gate_callee (f := 19) rfl ?_); refine goesL_ (some 10) rfl rfl Try.func19 (by kernel_rfl) rfl #[] rfl (by (try simp only [List.map_toArray, List.map_cons, List.map_nil]); first | done | rfl | (simp only [List.length_drop, List.length_take]; rfl)) ?_; (with_reducible refine (wharfagelaw1_awake.calls k  true _ A4.out).mono ?_); rintro e w' ⟨rfl, ⟨nd, rfl⟩⟩; refine ⟨_, rfl, ?_⟩) | ((with_reducible refine gate_callee (f := 20) rfl ?_); refine goesL_ (some 18) rfl rfl Try.func20 (by kernel_rfl) rfl #[.int .i64 0] rfl (by (try simp only [List.map_toArray, List.map_cons, List.map_nil]); first | done | rfl | (simp only [List.length_drop, List.length_take]; rfl)) ?_; (with_reducible refine (wharfagelaw0_Num.calls 0 t128 _ A6.out).mono ?_); rintro e w' ⟨rfl, ⟨nd, rfl⟩⟩; refine ⟨_, rfl, ?_⟩) | (go_at_call 17; (with_reducible refine (sum_Add.calls k (Go.bits .and .i64 a0 65535) (Go.bits .and .i64 a1 65535) t129 _ A8.out).mono ?_); rintro e w' ⟨rfl, ⟨nd, rfl⟩⟩) | (go_at_call 17; (with_reducible refine (sum_Add.calls k (Go.bits .and .i64 a1 65535) (Go.bits .and .i64 a0 65535) t130 _ A9.out).mono ?_); rintro e w' ⟨rfl, ⟨nd, rfl⟩⟩) | (go_at_call 17; (with_reducible refine (sum_Add.calls k t129 (Go.bits .and .i64 a2 65535) t131 _ A11.out).mono ?_); rintro e w' ⟨rfl, ⟨nd, rfl⟩⟩) | (go_at_call 17; (with_reducible refine (sum_Add.calls k (Go.bits .and .i64 a1 65535) (Go.bits .and .i64 a2 65535) t132 _ A12.out).mono ?_); rintro e w' ⟨rfl, ⟨nd, rfl⟩⟩) | (go_at_call 17; (with_reducible refine (sum_Add.calls k (Go.bits .and .i64 a0 65535) t132 t133 _ A13.out).mono ?_); rintro e w' ⟨rfl, ⟨nd, rfl⟩⟩) | (go_at_call 17; (with_reducible refine (sum_Add.calls k (Go.bits .and .i64 a0 65535) 0 t134 _ A15.out).mono ?_); rintro e w' ⟨rfl, ⟨nd, rfl⟩⟩) | (go_at_call 17; (with_reducible refine (sum_Add.calls k (Go.bits .and .i64 a0 65535) 65535 t136 _ A19.out).mono ?_); rintro e w' ⟨rfl, ⟨nd, rfl⟩⟩) | (go_at_call 17; (with_reducible refine (sum_Add.calls k a0 a1 t137 _ A21.out).mono ?_); rintro e w' ⟨rfl, ⟨nd, rfl⟩⟩))
                go_ret
                exact ⟨by first | rfl | (simp; done) | (simp [*]; done), by repeat (first | exact Drawn0.refl _ | apply Drawn0.step)⟩
              · rw [if_neg c20] at H
                exact absurd H (by simp)
          · rw [if_neg c16] at H
            exact absurd H (by simp)
        · rw [if_neg c14] at H
          exact absurd H (by simp)
      · rw [if_neg c10] at H
        exact absurd H (by simp)
    · rw [if_neg c7] at H
      exact absurd H (by simp)
  · replace c5 := Bool.eq_false_iff.mpr c5
    subst c5
    have H1 : (none) = some r := by rw [if_neg (show ¬ (false = true) by decide)] at H; exact H
    clear H
    have H := H1
    clear H1
    exact absurd H (by simp)

/-- THE ONE PURE STATEMENT of wharfagelaw1_SumAdds: yours. -/
def wharfagelaw1_SumAdds.Pure : Prop := ∀ (a0 : Int) (a1 : Int) (a2 : Int), (Lit.int .i64 a0).wf = true → (Lit.int .i64 a1).wf = true → (Lit.int .i64 a2).wf = true → ∃ k, wharfagelaw1_SumAdds.f k a0 a1 a2 = some true
theorem wharfagelaw1_SumAdds.walk (P : wharfagelaw1_SumAdds.Pure) (a0 : Int) (a1 : Int) (a2 : Int) (w : World) (w0 : (Lit.int .i64 a0).wf = true) (w1 : (Lit.int .i64 a1).wf = true) (w2 : (Lit.int .i64 a2).wf = true) :
    Calls Try.prog 6 #[.int .i64 a0, .int .i64 a1, .int .i64 a2] w fun e w' => e = .returned (.bool true) ∧ Below w.heap.size w w' := by
  obtain ⟨k, h⟩ := P a0 a1 a2 w0 w1 w2
  refine (wharfagelaw1_SumAdds.calls k a0 a1 a2 true w h).mono ?_
  rintro e w' ⟨rfl, hd⟩
  exact ⟨rfl, hd.below⟩

end Go.Proofs.Ytcefplpmpmlboaa.PSumB
