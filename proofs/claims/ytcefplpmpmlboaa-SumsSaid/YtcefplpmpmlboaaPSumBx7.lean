/- Contracts: what calls of these functions of the program do, each as a plain function; written by a program of this session. -/
import Derived.Test.YtcefplpmpmlboaaPSumBx0
import Derived.Test.YtcefplpmpmlboaaPSumBx2
import Derived.Test.YtcefplpmpmlboaaPSumBx4
import Derived.Test.YtcefplpmpmlboaaPSumBx5
import Derived.Test.YtcefplpmpmlboaaPSumBx6
namespace Go.Proofs.Ytcefplpmpmlboaa.PSumB
open Go.RowKit Go.Proofs.YtcefplpmpmlboaaW.PrintWords Go.Proofs.YtcefplpmpmlboaaW.PrintLast Go.Proofs.YtcefplpmpmlboaaW.PrintMore
attribute [local go_sem] max2_int min2_int max_two min_two max_three min_three max_four min_four   -- for this text's walks alone
set_option linter.unusedVariables false
set_option linter.unusedSimpArgs false

/-! ### wharfagelaw1_Sums: function 3 -/
def wharfagelaw1_Sums.f (k : Nat) (a0 : ByteArray) (a1 : Int) (a2 : Int) : Option (Bool) := (sum_Sum.f k a0).bind fun t111 => ((wharfageref1_Sum.f k a0).bind fun t112 => (if t111 = t112 then ((sum_Add.f k a1 a2).bind fun t113 => ((wharfageref1_Add.f k a1 a2).bind fun t114 => (if t113 = t114 then ((wharfagelaw1_awake.f k).bind fun t115 => (some t115)) else (none)))) else (none)))
theorem wharfagelaw1_Sums.mono : ∀ a0 a1 a2 k, LeO (wharfagelaw1_Sums.f k a0 a1 a2) (wharfagelaw1_Sums.f (k + 1) a0 a1 a2) := by
  intro a0 a1 a2 k
  unfold wharfagelaw1_Sums.f
  repeat' first
      | (with_reducible exact sum_Add.mono _ _ _)
      | (with_reducible exact sum_Sum.mono _ _)
      | (with_reducible exact wharfagelaw1_awake.mono _)
      | (with_reducible exact wharfageref1_Add.mono _ _ _)
      | (with_reducible exact wharfageref1_Sum.mono _ _)
      | (with_reducible exact LeO.refl _)
      | (with_reducible exact LeO.none _)
      | (with_reducible refine LeO.ite ?_ ?_)
      | (with_reducible refine LeO.bind ?_ (fun _ => ?_))
      | exact sum_Add.mono _ _ _
      | exact sum_Sum.mono _ _
      | exact wharfagelaw1_awake.mono _
      | exact wharfageref1_Add.mono _ _ _
      | exact wharfageref1_Sum.mono _ _
      | exact LeO.none _
      | refine LeO.ite ?_ ?_
      | refine LeO.bind ?_ (fun _ => ?_)
set_option maxHeartbeats 8000000 in
set_option maxRecDepth 100000 in
theorem wharfagelaw1_Sums.calls (k : Nat) (a0 : ByteArray) (a1 : Int) (a2 : Int) (r : Bool) (w : World) (h : wharfagelaw1_Sums.f k a0 a1 a2 = some r) :
    Calls Try.prog 3 #[.string a0, .int .i64 a1, .int .i64 a2] w fun e w' => e = .returned (.bool r) ∧ Drawn0 w w' := by
  have H : ((sum_Sum.f k a0).bind fun t111 => ((wharfageref1_Sum.f k a0).bind fun t112 => (if t111 = t112 then ((sum_Add.f k a1 a2).bind fun t113 => ((wharfageref1_Add.f k a1 a2).bind fun t114 => (if t113 = t114 then ((wharfagelaw1_awake.f k).bind fun t115 => (some t115)) else (none)))) else (none)))) = some r := h
  clear h
  replace H := Option.bind_eq_some_iff.mp H
  obtain ⟨t111, A40, H⟩ := H
  replace H : ((wharfageref1_Sum.f k a0).bind fun t112 => (if t111 = t112 then ((sum_Add.f k a1 a2).bind fun t113 => ((wharfageref1_Add.f k a1 a2).bind fun t114 => (if t113 = t114 then ((wharfagelaw1_awake.f k).bind fun t115 => (some t115)) else (none)))) else (none))) = some r := H
  have A4 := Aside0.mk A40
  clear A40
  replace H := Option.bind_eq_some_iff.mp H
  obtain ⟨t112, A50, H⟩ := H
  replace H : (if t111 = t112 then ((sum_Add.f k a1 a2).bind fun t113 => ((wharfageref1_Add.f k a1 a2).bind fun t114 => (if t113 = t114 then ((wharfagelaw1_awake.f k).bind fun t115 => (some t115)) else (none)))) else (none)) = some r := H
  have A5 := Aside0.mk A50
  clear A50
  by_cases c6 : t111 = t112
  · rw [if_pos c6] at H
    have c6b0 : (t111 == t112) = true := beq_iff_eq.mpr c6
    have c6b1 : (t111 != t112) = false := bne_eq_false_iff_eq.mpr c6
    clear c6
    replace H := Option.bind_eq_some_iff.mp H
    obtain ⟨t113, A70, H⟩ := H
    replace H : ((wharfageref1_Add.f k a1 a2).bind fun t114 => (if t113 = t114 then ((wharfagelaw1_awake.f k).bind fun t115 => (some t115)) else (none))) = some r := H
    have A7 := Aside0.mk A70
    clear A70
    replace H := Option.bind_eq_some_iff.mp H
    obtain ⟨t114, A80, H⟩ := H
    replace H : (if t113 = t114 then ((wharfagelaw1_awake.f k).bind fun t115 => (some t115)) else (none)) = some r := H
    have A8 := Aside0.mk A80
    clear A80
    by_cases c9 : t113 = t114
    · rw [if_pos c9] at H
      have c9b0 : (t113 == t114) = true := beq_iff_eq.mpr c9
      have c9b1 : (t113 != t114) = false := bne_eq_false_iff_eq.mpr c9
      clear c9
      replace H := Option.bind_eq_some_iff.mp H
      obtain ⟨t115, A100, H⟩ := H
      replace H : (some t115) = some r := H
      have A10 := Aside0.mk A100
      clear A100
      obtain rfl := Option.some.inj H
      go_enter Try.func3, Try.ntmps3
      go_wp2_with (first | ((with_reducible refine gate_callee (f := 15) rfl ?_); refine goesL_ (some 8) rfl rfl Try.func15 (by kernel_rfl) rfl #[.string a0] rfl (by (try simp only [List.map_toArray, List.map_cons, List.map_nil]); first | done | rfl | (simp only [List.length_drop, List.length_take]; rfl)) ?_; (with_reducible refine (sum_Sum.calls k a0 t111 _ A4.out).mono ?_); rintro e w' ⟨rfl, ⟨nd, rfl⟩⟩; refine ⟨_, rfl, ?_⟩) | ((with_reducible refine gate_callee (f := 16) rfl ?_); refine goesL_ (some 10) rfl rfl Try.func16 (by kernel_rfl) rfl #[.string a0] rfl (by (try simp only [List.map_toArray, List.map_cons, List.map_nil]); first | done | rfl | (simp only [List.length_drop, List.length_take]; rfl)) ?_; (with_reducible refine (wharfageref1_Sum.calls k a0 t112 _ A5.out).mono ?_); rintro e w' ⟨rfl, ⟨nd, rfl⟩⟩; refine ⟨_, rfl, ?_⟩) | (go_at_call 17; (with_reducible refine (sum_Add.calls k a1 a2 t113 _ A7.out).mono ?_); rintro e w' ⟨rfl, ⟨nd, rfl⟩⟩) | (go_at_call 18; (with_reducible refine (wharfageref1_Add.calls k a1 a2 t114 _ A8.out).mono ?_); rintro e w' ⟨rfl, ⟨nd, rfl⟩⟩) | (go_at_call 19; (with_reducible refine (wharfagelaw1_awake.calls k  t115 _ A10.out).mono ?_); rintro e w' ⟨rfl, ⟨nd, rfl⟩⟩))
      go_ret
      exact ⟨by first | rfl | (simp; done) | (simp [*]; done), by repeat (first | exact Drawn0.refl _ | apply Drawn0.step)⟩
    · rw [if_neg c9] at H
      exact absurd H (by simp)
  · rw [if_neg c6] at H
    exact absurd H (by simp)

/-- THE ONE PURE STATEMENT of wharfagelaw1_Sums: yours. -/
def wharfagelaw1_Sums.Pure : Prop := ∀ (a0 : ByteArray) (a1 : Int) (a2 : Int), a0.size ≤ 140737488351232 → (Lit.int .i64 a1).wf = true → (Lit.int .i64 a2).wf = true → ∃ k, wharfagelaw1_Sums.f k a0 a1 a2 = some true
theorem wharfagelaw1_Sums.walk (P : wharfagelaw1_Sums.Pure) (a0 : ByteArray) (a1 : Int) (a2 : Int) (w : World) (w0 : a0.size ≤ 140737488351232) (w1 : (Lit.int .i64 a1).wf = true) (w2 : (Lit.int .i64 a2).wf = true) :
    Calls Try.prog 3 #[.string a0, .int .i64 a1, .int .i64 a2] w fun e w' => e = .returned (.bool true) ∧ Below w.heap.size w w' := by
  obtain ⟨k, h⟩ := P a0 a1 a2 w0 w1 w2
  refine (wharfagelaw1_Sums.calls k a0 a1 a2 true w h).mono ?_
  rintro e w' ⟨rfl, hd⟩
  exact ⟨rfl, hd.below⟩

end Go.Proofs.Ytcefplpmpmlboaa.PSumB
