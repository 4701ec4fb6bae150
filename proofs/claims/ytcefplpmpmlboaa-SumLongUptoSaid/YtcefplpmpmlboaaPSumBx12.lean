/- Contracts: what calls of these functions of the program do, each as a plain function; written by a program of this session. -/
import Derived.Test.YtcefplpmpmlboaaPSumBx0
import Derived.Test.YtcefplpmpmlboaaPSumBx2
import Derived.Test.YtcefplpmpmlboaaPSumBx5
import Derived.Test.YtcefplpmpmlboaaPSumBx6
namespace Go.Proofs.Ytcefplpmpmlboaa.PSumB
open Go.RowKit Go.Proofs.YtcefplpmpmlboaaW.PrintWords Go.Proofs.YtcefplpmpmlboaaW.PrintLast Go.Proofs.YtcefplpmpmlboaaW.PrintMore
attribute [local go_sem] max2_int min2_int max_two min_two max_three min_three max_four min_four   -- for this text's walks alone
set_option linter.unusedVariables false
set_option linter.unusedSimpArgs false

/-! ### wharfagelaw1_SumLong: function 8 -/
def wharfagelaw1_SumLong.l0 : Nat → Int → ByteArray → Int → ByteArray → Int → Int → Option (Bool)
  | 0, _, _, _, _, _, _ => none
  | k + 1, x1, x5, x6, x7, x8, x9 => if x9 < (Go.bits .and .i64 x1 15) then (if x7.size + x5.size ≤ 9223372036854775807 then ((sum_Add.f k x8 x6).bind fun t155 => (wharfagelaw1_SumLong.l0 k x1 x5 x6 (x7 ++ x5) t155 (wrap64 (x9 + 1)))) else (none)) else ((wharfagelaw0_Num.f 0).bind fun t156 => (if t156 = 0 then ((sum_Sum.f k x7).bind fun t157 => (some (t157 == x8))) else (none)))
def wharfagelaw1_SumLong.f (k : Nat) (a0 : ByteArray) (a1 : Int) : Option (Bool) := (wharfagelaw1_awake.f k).bind fun t153 => (if t153 = true then (if 0 ≤ (Go.bits .andNot .i64 (a0.size : Int) 1) then (if (Go.bits .andNot .i64 (a0.size : Int) 1) ≤ (a0.size : Int) then ((sum_Sum.f k (a0.extract 0 ((Go.bits .andNot .i64 (a0.size : Int) 1) : Int).toNat)).bind fun t154 => (wharfagelaw1_SumLong.l0 k a1 (a0.extract 0 ((Go.bits .andNot .i64 (a0.size : Int) 1) : Int).toNat) t154 (⟨#[]⟩ : ByteArray) 0 0)) else (none)) else (none)) else (none))
theorem wharfagelaw1_SumLong.mono_l : ∀ k, (∀ y0 y1 y2 y3 y4 y5, LeO (wharfagelaw1_SumLong.l0 k y0 y1 y2 y3 y4 y5) (wharfagelaw1_SumLong.l0 (k + 1) y0 y1 y2 y3 y4 y5))
  | 0 => fun _ _ _ _ _ _ r h => by simp [wharfagelaw1_SumLong.l0] at h
  | k + 1 => by
    have ih0 := wharfagelaw1_SumLong.mono_l k
    · intro y0 y1 y2 y3 y4 y5
      unfold wharfagelaw1_SumLong.l0
      repeat' first
      | (with_reducible exact ih0 _ _ _ _ _ _)
      | (with_reducible exact sum_Add.mono _ _ _)
      | (with_reducible exact sum_Sum.mono _ _)
      | (with_reducible exact wharfagelaw1_awake.mono _)
      | (with_reducible exact LeO.refl _)
      | (with_reducible exact LeO.none _)
      | (with_reducible refine LeO.ite ?_ ?_)
      | (with_reducible refine LeO.bind ?_ (fun _ => ?_))
      | exact ih0 _ _ _ _ _ _
      | exact sum_Add.mono _ _ _
      | exact sum_Sum.mono _ _
      | exact wharfagelaw1_awake.mono _
      | exact LeO.none _
      | refine LeO.ite ?_ ?_
      | refine LeO.bind ?_ (fun _ => ?_)
theorem wharfagelaw1_SumLong.mono : ∀ a0 a1 k, LeO (wharfagelaw1_SumLong.f k a0 a1) (wharfagelaw1_SumLong.f (k + 1) a0 a1) := by
  intro a0 a1 k
  have ih0 := wharfagelaw1_SumLong.mono_l k
  unfold wharfagelaw1_SumLong.f
  repeat' first
      | (with_reducible exact ih0 _ _ _ _ _ _)
      | (with_reducible exact sum_Add.mono _ _ _)
      | (with_reducible exact sum_Sum.mono _ _)
      | (with_reducible exact wharfagelaw1_awake.mono _)
      | (with_reducible exact LeO.refl _)
      | (with_reducible exact LeO.none _)
      | (with_reducible refine LeO.ite ?_ ?_)
      | (with_reducible refine LeO.bind ?_ (fun _ => ?_))
      | exact ih0 _ _ _ _ _ _
      | exact sum_Add.mono _ _ _
      | exact sum_Sum.mono _ _
      | exact wharfagelaw1_awake.mono _
      | exact LeO.none _
      | refine LeO.ite ?_ ?_
      | refine LeO.bind ?_ (fun _ => ?_)
set_option maxHeartbeats 8000000 in
set_option maxRecDepth 100000 in
theorem wharfagelaw1_SumLong.calls (k : Nat) (a0 : ByteArray) (a1 : Int) (r : Bool) (w : World) (h : wharfagelaw1_SumLong.f k a0 a1 = some r) :
    Calls Try.prog 8 #[.string a0, .int .i64 a1] w fun e w' => e = .returned (.bool r) ∧ Drawn0 w w' := by
  have H : ((wharfagelaw1_awake.f k).bind fun t153 => (if t153 = true then (if 0 ≤ (Go.bits .andNot .i64 (a0.size : Int) 1) then (if (Go.bits .andNot .i64 (a0.size : Int) 1) ≤ (a0.size : Int) then ((sum_Sum.f k (a0.extract 0 ((Go.bits .andNot .i64 (a0.size : Int) 1) : Int).toNat)).bind fun t154 => (wharfagelaw1_SumLong.l0 k a1 (a0.extract 0 ((Go.bits .andNot .i64 (a0.size : Int) 1) : Int).toNat) t154 (⟨#[]⟩ : ByteArray) 0 0)) else (none)) else (none)) else (none))) = some r := h
  clear h
  replace H := Option.bind_eq_some_iff.mp H
  obtain ⟨t153, A30, H⟩ := H
  replace H : (if t153 = true then (if 0 ≤ (Go.bits .andNot .i64 (a0.size : Int) 1) then (if (Go.bits .andNot .i64 (a0.size : Int) 1) ≤ (a0.size : Int) then ((sum_Sum.f k (a0.extract 0 ((Go.bits .andNot .i64 (a0.size : Int) 1) : Int).toNat)).bind fun t154 => (wharfagelaw1_SumLong.l0 k a1 (a0.extract 0 ((Go.bits .andNot .i64 (a0.size : Int) 1) : Int).toNat) t154 (⟨#[]⟩ : ByteArray) 0 0)) else (none)) else (none)) else (none)) = some r := H
  have A3 := Aside0.mk A30
  clear A30
  by_cases c4 : t153 = true
  · subst c4
    have H1 : (if 0 ≤ (Go.bits .andNot .i64 (a0.size : Int) 1) then (if (Go.bits .andNot .i64 (a0.size : Int) 1) ≤ (a0.size : Int) then ((sum_Sum.f k (a0.extract 0 ((Go.bits .andNot .i64 (a0.size : Int) 1) : Int).toNat)).bind fun t154 => (wharfagelaw1_SumLong.l0 k a1 (a0.extract 0 ((Go.bits .andNot .i64 (a0.size : Int) 1) : Int).toNat) t154 (⟨#[]⟩ : ByteArray) 0 0)) else (none)) else (none)) = some r := by rw [if_pos rfl] at H; exact H
    clear H
    have H := H1
    clear H1
    by_cases c5 : 0 ≤ (Go.bits .andNot .i64 (a0.size : Int) 1)
    · rw [if_pos c5] at H
      have c5b0 := eq_true c5
      have c5b1 : decide (0 ≤ (Go.bits .andNot .i64 (a0.size : Int) 1)) = true := decide_eq_true c5
      clear c5
      by_cases c6 : (Go.bits .andNot .i64 (a0.size : Int) 1) ≤ (a0.size : Int)
      · rw [if_pos c6] at H
        have c6b0 := eq_true c6
        have c6b1 : decide ((Go.bits .andNot .i64 (a0.size : Int) 1) ≤ (a0.size : Int)) = true := decide_eq_true c6
        clear c6
        replace H := Option.bind_eq_some_iff.mp H
        obtain ⟨t154, A70, H⟩ := H
        replace H : (wharfagelaw1_SumLong.l0 k a1 (a0.extract 0 ((Go.bits .andNot .i64 (a0.size : Int) 1) : Int).toNat) t154 (⟨#[]⟩ : ByteArray) 0 0) = some r := H
        have A7 := Aside0.mk A70
        clear A70
        have H' := Aside0.mk H
        clear H
        go_enter Try.func8, Try.ntmps8
        go_wp2_with (first | ((with_reducible refine gate_callee (f := 19) rfl ?_); refine goesL_ (some 10) rfl rfl Try.func19 (by kernel_rfl) rfl #[] rfl (by (try simp only [List.map_toArray, List.map_cons, List.map_nil]); first | done | rfl | (simp only [List.length_drop, List.length_take]; rfl)) ?_; (with_reducible refine (wharfagelaw1_awake.calls k  true _ A3.out).mono ?_); rintro e w' ⟨rfl, ⟨nd, rfl⟩⟩; refine ⟨_, rfl, ?_⟩) | ((with_reducible refine gate_callee (f := 15) rfl ?_); refine goesL_ (some 18) rfl rfl Try.func15 (by kernel_rfl) rfl #[.string (a0.extract 0 ((Go.bits .andNot .i64 (a0.size : Int) 1) : Int).toNat)] rfl (by (try simp only [List.map_toArray, List.map_cons, List.map_nil]); first | done | rfl | (simp only [List.length_drop, List.length_take]; rfl)) ?_; (with_reducible refine (sum_Sum.calls k (a0.extract 0 ((Go.bits .andNot .i64 (a0.size : Int) 1) : Int).toNat) t154 _ A7.out).mono ?_); rintro e w' ⟨rfl, ⟨nd, rfl⟩⟩; refine ⟨_, rfl, ?_⟩))
        go_loopg [7, 8, 9] k (fun kq v7 v8 v9 w' => ∃ (x7_1 : ByteArray) (x8_1 : Int) (x9_1 : Int), v7 = .string x7_1 ∧ v8 = .int .i64 x8_1 ∧ v9 = .int .i64 x9_1 ∧ Aside0 (wharfagelaw1_SumLong.l0 kq a1 (a0.extract 0 ((Go.bits .andNot .i64 (a0.size : Int) 1) : Int).toNat) t154 x7_1 x8_1 x9_1 = some r) ∧ Aside0 (kq ≤ k) ∧ Drawn0 w w')
        case atStart => exact ⟨((⟨#[]⟩ : ByteArray)), (0), (0), (by first | rfl | (simp; done) | (simp [*]; done)), (by first | rfl | (simp; done) | (simp [*]; done)), (by first | rfl | (simp; done) | (simp [*]; done)), H', ⟨Nat.le_refl _⟩, by repeat (first | exact Drawn0.refl _ | apply Drawn0.step)⟩
        case round =>
          clear H'
          try clear c1
          try clear p2
          try clear c4
          try clear c5
          try clear c5b0
          try clear c5b1
          try clear c6
          try clear c6b0
          try clear c6b1
          obtain ⟨x7_1, x8_1, x9_1, rfl, rfl, rfl, HA, HK1, ⟨m1, rfl⟩⟩ := hrel
          cases gk with
          | zero => exact absurd HA.out (by simp [wharfagelaw1_SumLong.l0])
          | succ k1 =>
            have H := HA.out
            clear HA
            simp only [wharfagelaw1_SumLong.l0] at H
            by_cases c8 : x9_1 < (Go.bits .and .i64 a1 15)
            · rw [if_pos c8] at H
              have c8b0 : decide (x9_1 < (Go.bits .and .i64 a1 15)) = true := decide_eq_true c8
              clear c8
              by_cases c9 : x7_1.size + (a0.extract 0 ((Go.bits .andNot .i64 (a0.size : Int) 1) : Int).toNat).size ≤ 9223372036854775807
              · rw [if_pos c9] at H
                have c9b0 := eq_true c9
                have c9b1 : decide (x7_1.size + (a0.extract 0 ((Go.bits .andNot .i64 (a0.size : Int) 1) : Int).toNat).size ≤ 9223372036854775807) = true := decide_eq_true c9
                try have c9b2 : (9223372036854775807 < x7_1.size + (a0.extract 0 ((Go.bits .andNot .i64 (a0.size : Int) 1) : Int).toNat).size) = False := eq_false (Nat.not_lt.2 c9)
                replace H := Option.bind_eq_some_iff.mp H
                obtain ⟨t155, A100, H⟩ := H
                replace H : (wharfagelaw1_SumLong.l0 k1 a1 (a0.extract 0 ((Go.bits .andNot .i64 (a0.size : Int) 1) : Int).toNat) t154 (x7_1 ++ (a0.extract 0 ((Go.bits .andNot .i64 (a0.size : Int) 1) : Int).toNat)) t155 (wrap64 (x9_1 + 1))) = some r := H
                have A10 := Aside0.mk A100
                clear A100
                have H' := Aside0.mk H
                clear H
                go_wp2_with (first | ((with_reducible refine gate_callee (f := 17) rfl ?_); refine goesL_ (some 30) rfl rfl Try.func17 (by kernel_rfl) rfl #[.int .i64 x8_1, .int .i64 t154] rfl (by (try simp only [List.map_toArray, List.map_cons, List.map_nil]); first | done | rfl | (simp only [List.length_drop, List.length_take]; rfl)) ?_; (with_reducible refine (sum_Add.calls k1 x8_1 t154 t155 _ A10.out).mono ?_); rintro e w' ⟨rfl, ⟨nd, rfl⟩⟩; refine ⟨_, rfl, ?_⟩))
                go_roundg k1
                case measure => have := HK1.out; omega
                case rel => exact ⟨(x7_1 ++ (a0.extract 0 ((Go.bits .andNot .i64 (a0.size : Int) 1) : Int).toNat)), (t155), (wrap64 (x9_1 + 1)), (by first | rfl | (simp; done) | (simp [*]; done)), (by first | rfl | (simp; done) | (simp [*]; done)), (by first | rfl | (simp; done) | (simp [*]; done)), H', ⟨by have := HK1.out; omega⟩, by repeat (first | exact Drawn0.refl _ | apply Drawn0.step)⟩
              · rw [if_neg c9] at H
                exact absurd H (by simp)
            · rw [if_neg c8] at H
              have c8b0 : decide (x9_1 < (Go.bits .and .i64 a1 15)) = false := decide_eq_false c8
              clear c8
              replace H := Option.bind_eq_some_iff.mp H
              obtain ⟨t156, A110, H⟩ := H
              replace H : (if t156 = 0 then ((sum_Sum.f k1 x7_1).bind fun t157 => (some (t157 == x8_1))) else (none)) = some r := H
              have A11 := Aside0.mk A110
              clear A110
              by_cases c12 : t156 = 0
              · rw [if_pos c12] at H
                have c12b0 : (t156 == 0) = true := beq_iff_eq.mpr c12
                have c12b1 : (t156 != 0) = false := bne_eq_false_iff_eq.mpr c12
                clear c12
                replace H := Option.bind_eq_some_iff.mp H
                obtain ⟨t157, A130, H⟩ := H
                replace H : (some (t157 == x8_1)) = some r := H
                have A13 := Aside0.mk A130
                clear A130
                obtain rfl := Option.some.inj H
                go_wp2_with (first | ((with_reducible refine gate_callee (f := 20) rfl ?_); refine goesL_ (some 31) rfl rfl Try.func20 (by kernel_rfl) rfl #[.int .i64 0] rfl (by (try simp only [List.map_toArray, List.map_cons, List.map_nil]); first | done | rfl | (simp only [List.length_drop, List.length_take]; rfl)) ?_; (with_reducible refine (wharfagelaw0_Num.calls 0 t156 _ A11.out).mono ?_); rintro e w' ⟨rfl, ⟨nd, rfl⟩⟩; refine ⟨_, rfl, ?_⟩) | (go_at_call 15; (with_reducible refine (sum_Sum.calls k1 x7_1 t157 _ A13.out).mono ?_); rintro e w' ⟨rfl, ⟨nd, rfl⟩⟩))
                go_ret
                exact ⟨by first | rfl | (simp; done) | (simp [*]; done), by repeat (first | exact Drawn0.refl _ | apply Drawn0.step)⟩
              · rw [if_neg c12] at H
                exact absurd H (by simp)
      · rw [if_neg c6] at H
        exact absurd H (by simp)
    · rw [if_neg c5] at H
      exact absurd H (by simp)
  · replace c4 := Bool.eq_false_iff.mpr c4
    subst c4
    have H1 : (none) = some r := by rw [if_neg (show ¬ (false = true) by decide)] at H; exact H
    clear H
    have H := H1
    clear H1
    exact absurd H (by simp)

/-- THE ONE PURE STATEMENT of wharfagelaw1_SumLong: yours. -/
def wharfagelaw1_SumLong.Pure : Prop := ∀ (a0 : ByteArray) (a1 : Int), a0.size ≤ 140737488351232 → (Lit.int .i64 a1).wf = true → ∃ k, wharfagelaw1_SumLong.f k a0 a1 = some true
theorem wharfagelaw1_SumLong.walk (P : wharfagelaw1_SumLong.Pure) (a0 : ByteArray) (a1 : Int) (w : World) (w0 : a0.size ≤ 140737488351232) (w1 : (Lit.int .i64 a1).wf = true) :
    Calls Try.prog 8 #[.string a0, .int .i64 a1] w fun e w' => e = .returned (.bool true) ∧ Below w.heap.size w w' := by
  obtain ⟨k, h⟩ := P a0 a1 w0 w1
  refine (wharfagelaw1_SumLong.calls k a0 a1 true w h).mono ?_
  rintro e w' ⟨rfl, hd⟩
  exact ⟨rfl, hd.below⟩

end Go.Proofs.Ytcefplpmpmlboaa.PSumB
