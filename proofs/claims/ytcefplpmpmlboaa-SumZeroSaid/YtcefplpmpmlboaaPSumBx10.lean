/- Contracts: what calls of these functions of the program do, each as a plain function; written by a program of this session. -/
import Derived.Test.YtcefplpmpmlboaaPSumBx0
import Derived.Test.YtcefplpmpmlboaaPSumBx2
import Derived.Test.YtcefplpmpmlboaaPSumBx5
import Derived.Test.YtcefplpmpmlboaaPSumBx6
namespace Go.Proofs.Ytcefplpmpmlboaa.PSumB
open Go.RowKit Go.Proofs.YtcefplpmpmlboaaW.PrintWords Go.Proofs.YtcefplpmpmlboaaW.PrintLast Go.Proofs.YtcefplpmpmlboaaW.PrintMore
attribute [local go_sem] max2_int min2_int max_two min_two max_three min_three max_four min_four   -- for this text's walks alone
set_option linter.unusedVariables false
set_option linter.unusedSimpArgs false

/-! ### wharfagelaw1_SumZero: function 7 -/
def wharfagelaw1_SumZero.f (k : Nat) (a0 : ByteArray) : Option (Bool) := (wharfagelaw1_awake.f k).bind fun t138 => (if t138 = true then (if 0 ≤ (Go.bits .andNot .i64 (a0.size : Int) 1) then (if (Go.bits .andNot .i64 (a0.size : Int) 1) ≤ (a0.size : Int) then ((sum_Sum.f k (a0.extract 0 ((Go.bits .andNot .i64 (a0.size : Int) 1) : Int).toNat)).bind fun t139 => ((wharfagelaw0_Num.f 0).bind fun t140 => (if t140 = 0 then ((some (([((wrap64 (65535 - t139)) / 256) % 256, (wrap64 (65535 - t139)) % 256] : List Int) : List Int)).bind fun y141 => (if (a0.extract 0 ((Go.bits .andNot .i64 (a0.size : Int) 1) : Int).toNat).size + (strOfNums y141).size ≤ 9223372036854775807 then ((sum_Sum.f k ((a0.extract 0 ((Go.bits .andNot .i64 (a0.size : Int) 1) : Int).toNat) ++ (strOfNums y141))).bind fun t144 => (some (t144 == 65535))) else (none))) else (none)))) else (none)) else (none)) else (none))
theorem wharfagelaw1_SumZero.mono : ∀ a0 k, LeO (wharfagelaw1_SumZero.f k a0) (wharfagelaw1_SumZero.f (k + 1) a0) := by
  intro a0 k
  unfold wharfagelaw1_SumZero.f
  repeat' first
      | (with_reducible exact sum_Sum.mono _ _)
      | (with_reducible exact wharfagelaw1_awake.mono _)
      | (with_reducible exact LeO.refl _)
      | (with_reducible exact LeO.none _)
      | (with_reducible refine LeO.ite ?_ ?_)
      | (with_reducible refine LeO.bind ?_ (fun _ => ?_))
      | exact sum_Sum.mono _ _
      | exact wharfagelaw1_awake.mono _
      | exact LeO.none _
      | refine LeO.ite ?_ ?_
      | refine LeO.bind ?_ (fun _ => ?_)
set_option maxHeartbeats 8000000 in
set_option maxRecDepth 100000 in
theorem wharfagelaw1_SumZero.calls (k : Nat) (a0 : ByteArray) (r : Bool) (w : World) (h : wharfagelaw1_SumZero.f k a0 = some r) :
    Calls Try.prog 7 #[.string a0] w fun e w' => e = .returned (.bool r) ∧ Below w.heap.size w w' := by
  have HB := Aside0.mk (Below.refl w.heap.size w)
  have H : ((wharfagelaw1_awake.f k).bind fun t138 => (if t138 = true then (if 0 ≤ (Go.bits .andNot .i64 (a0.size : Int) 1) then (if (Go.bits .andNot .i64 (a0.size : Int) 1) ≤ (a0.size : Int) then ((sum_Sum.f k (a0.extract 0 ((Go.bits .andNot .i64 (a0.size : Int) 1) : Int).toNat)).bind fun t139 => ((wharfagelaw0_Num.f 0).bind fun t140 => (if t140 = 0 then ((some (([((wrap64 (65535 - t139)) / 256) % 256, (wrap64 (65535 - t139)) % 256] : List Int) : List Int)).bind fun y141 => (if (a0.extract 0 ((Go.bits .andNot .i64 (a0.size : Int) 1) : Int).toNat).size + (strOfNums y141).size ≤ 9223372036854775807 then ((sum_Sum.f k ((a0.extract 0 ((Go.bits .andNot .i64 (a0.size : Int) 1) : Int).toNat) ++ (strOfNums y141))).bind fun t144 => (some (t144 == 65535))) else (none))) else (none)))) else (none)) else (none)) else (none))) = some r := h
  clear h
  replace H := Option.bind_eq_some_iff.mp H
  obtain ⟨t138, A20, H⟩ := H
  replace H : (if t138 = true then (if 0 ≤ (Go.bits .andNot .i64 (a0.size : Int) 1) then (if (Go.bits .andNot .i64 (a0.size : Int) 1) ≤ (a0.size : Int) then ((sum_Sum.f k (a0.extract 0 ((Go.bits .andNot .i64 (a0.size : Int) 1) : Int).toNat)).bind fun t139 => ((wharfagelaw0_Num.f 0).bind fun t140 => (if t140 = 0 then ((some (([((wrap64 (65535 - t139)) / 256) % 256, (wrap64 (65535 - t139)) % 256] : List Int) : List Int)).bind fun y141 => (if (a0.extract 0 ((Go.bits .andNot .i64 (a0.size : Int) 1) : Int).toNat).size + (strOfNums y141).size ≤ 9223372036854775807 then ((sum_Sum.f k ((a0.extract 0 ((Go.bits .andNot .i64 (a0.size : Int) 1) : Int).toNat) ++ (strOfNums y141))).bind fun t144 => (some (t144 == 65535))) else (none))) else (none)))) else (none)) else (none)) else (none)) = some r := H
  have A2 := Aside0.mk A20
  clear A20
  by_cases c3 : t138 = true
  · subst c3
    have H1 : (if 0 ≤ (Go.bits .andNot .i64 (a0.size : Int) 1) then (if (Go.bits .andNot .i64 (a0.size : Int) 1) ≤ (a0.size : Int) then ((sum_Sum.f k (a0.extract 0 ((Go.bits .andNot .i64 (a0.size : Int) 1) : Int).toNat)).bind fun t139 => ((wharfagelaw0_Num.f 0).bind fun t140 => (if t140 = 0 then ((some (([((wrap64 (65535 - t139)) / 256) % 256, (wrap64 (65535 - t139)) % 256] : List Int) : List Int)).bind fun y141 => (if (a0.extract 0 ((Go.bits .andNot .i64 (a0.size : Int) 1) : Int).toNat).size + (strOfNums y141).size ≤ 9223372036854775807 then ((sum_Sum.f k ((a0.extract 0 ((Go.bits .andNot .i64 (a0.size : Int) 1) : Int).toNat) ++ (strOfNums y141))).bind fun t144 => (some (t144 == 65535))) else (none))) else (none)))) else (none)) else (none)) = some r := by rw [if_pos rfl] at H; exact H
    clear H
    have H := H1
    clear H1
    by_cases c4 : 0 ≤ (Go.bits .andNot .i64 (a0.size : Int) 1)
    · rw [if_pos c4] at H
      have c4b0 := eq_true c4
      have c4b1 : decide (0 ≤ (Go.bits .andNot .i64 (a0.size : Int) 1)) = true := decide_eq_true c4
      clear c4
      by_cases c5 : (Go.bits .andNot .i64 (a0.size : Int) 1) ≤ (a0.size : Int)
      · rw [if_pos c5] at H
        have c5b0 := eq_true c5
        have c5b1 : decide ((Go.bits .andNot .i64 (a0.size : Int) 1) ≤ (a0.size : Int)) = true := decide_eq_true c5
        clear c5
        replace H := Option.bind_eq_some_iff.mp H
        obtain ⟨t139, A60, H⟩ := H
        replace H : ((wharfagelaw0_Num.f 0).bind fun t140 => (if t140 = 0 then ((some (([((wrap64 (65535 - t139)) / 256) % 256, (wrap64 (65535 - t139)) % 256] : List Int) : List Int)).bind fun y141 => (if (a0.extract 0 ((Go.bits .andNot .i64 (a0.size : Int) 1) : Int).toNat).size + (strOfNums y141).size ≤ 9223372036854775807 then ((sum_Sum.f k ((a0.extract 0 ((Go.bits .andNot .i64 (a0.size : Int) 1) : Int).toNat) ++ (strOfNums y141))).bind fun t144 => (some (t144 == 65535))) else (none))) else (none))) = some r := H
        have A6 := Aside0.mk A60
        clear A60
        replace H := Option.bind_eq_some_iff.mp H
        obtain ⟨t140, A70, H⟩ := H
        replace H : (if t140 = 0 then ((some (([((wrap64 (65535 - t139)) / 256) % 256, (wrap64 (65535 - t139)) % 256] : List Int) : List Int)).bind fun y141 => (if (a0.extract 0 ((Go.bits .andNot .i64 (a0.size : Int) 1) : Int).toNat).size + (strOfNums y141).size ≤ 9223372036854775807 then ((sum_Sum.f k ((a0.extract 0 ((Go.bits .andNot .i64 (a0.size : Int) 1) : Int).toNat) ++ (strOfNums y141))).bind fun t144 => (some (t144 == 65535))) else (none))) else (none)) = some r := H
        have A7 := Aside0.mk A70
        clear A70
        by_cases c8 : t140 = 0
        · rw [if_pos c8] at H
          have c8b0 : (t140 == 0) = true := beq_iff_eq.mpr c8
          have c8b1 : (t140 != 0) = false := bne_eq_false_iff_eq.mpr c8
          clear c8
          obtain ⟨y141, hy141⟩ : ∃ y_ : List Int, y_ = (([((wrap64 (65535 - t139)) / 256) % 256, (wrap64 (65535 - t139)) % 256] : List Int)) := ⟨_, rfl⟩
          replace H : (if (a0.extract 0 ((Go.bits .andNot .i64 (a0.size : Int) 1) : Int).toNat).size + (strOfNums y141).size ≤ 9223372036854775807 then ((sum_Sum.f k ((a0.extract 0 ((Go.bits .andNot .i64 (a0.size : Int) 1) : Int).toNat) ++ (strOfNums y141))).bind fun t144 => (some (t144 == 65535))) else (none)) = some r := by first | (rw [hy141]; with_reducible exact H) | (have H2_ := (Option.bind_some _ _).symm.trans H; rw [hy141]; with_reducible exact H2_) | (have H2_ := (Option.bind_some _ _).symm.trans H; with_reducible exact H2_) | with_reducible exact H | (rw [hy141]; exact H) | exact H
          have Ny141 := Aside0.mk hy141
          clear hy141
          by_cases c9 : (a0.extract 0 ((Go.bits .andNot .i64 (a0.size : Int) 1) : Int).toNat).size + (strOfNums y141).size ≤ 9223372036854775807
          · rw [if_pos c9] at H
            have c9b0 := eq_true c9
            have c9b1 : decide ((a0.extract 0 ((Go.bits .andNot .i64 (a0.size : Int) 1) : Int).toNat).size + (strOfNums y141).size ≤ 9223372036854775807) = true := decide_eq_true c9
            try have c9b2 : (9223372036854775807 < (a0.extract 0 ((Go.bits .andNot .i64 (a0.size : Int) 1) : Int).toNat).size + (strOfNums y141).size) = False := eq_false (Nat.not_lt.2 c9)
            replace H := Option.bind_eq_some_iff.mp H
            obtain ⟨t144, A100, H⟩ := H
            replace H : (some (t144 == 65535)) = some r := H
            have A10 := Aside0.mk A100
            clear A100
            obtain rfl := Option.some.inj H
            go_enter Try.func7, Try.ntmps7
            go_wp2_with (first | ((with_reducible refine gate_callee (f := 19) rfl ?_); refine goesL_ (some 5) rfl rfl Try.func19 (by kernel_rfl) rfl #[] rfl (by (try simp only [List.map_toArray, List.map_cons, List.map_nil]); first | done | rfl | (simp only [List.length_drop, List.length_take]; rfl)) ?_; (with_reducible refine (wharfagelaw1_awake.calls k  true _ A2.out).mono ?_); rintro e w' ⟨rfl, ⟨nd, rfl⟩⟩; refine ⟨_, rfl, ?_⟩) | ((with_reducible refine gate_callee (f := 15) rfl ?_); refine goesL_ (some 13) rfl rfl Try.func15 (by kernel_rfl) rfl #[.string (a0.extract 0 ((Go.bits .andNot .i64 (a0.size : Int) 1) : Int).toNat)] rfl (by (try simp only [List.map_toArray, List.map_cons, List.map_nil]); first | done | rfl | (simp only [List.length_drop, List.length_take]; rfl)) ?_; (with_reducible refine (sum_Sum.calls k (a0.extract 0 ((Go.bits .andNot .i64 (a0.size : Int) 1) : Int).toNat) t139 _ A6.out).mono ?_); rintro e w' ⟨rfl, ⟨nd, rfl⟩⟩; refine ⟨_, rfl, ?_⟩) | ((with_reducible refine gate_callee (f := 20) rfl ?_); refine goesL_ (some 15) rfl rfl Try.func20 (by kernel_rfl) rfl #[.int .i64 0] rfl (by (try simp only [List.map_toArray, List.map_cons, List.map_nil]); first | done | rfl | (simp only [List.length_drop, List.length_take]; rfl)) ?_; (with_reducible refine (wharfagelaw0_Num.calls 0 t140 _ A7.out).mono ?_); rintro e w' ⟨rfl, ⟨nd, rfl⟩⟩; refine ⟨_, rfl, ?_⟩) | ((with_reducible refine gate_dst (N := 24) rfl ?_); (try (refine gate_guard (by rfl) ?_; dsimp only)); refine Kd.R_lit (Kd.int .u8) _ 5 ?hg (N := 24) ?hd (xs := ([((wrap64 (65535 - t139)) / 256) % 256, (wrap64 (65535 - t139)) % 256] : List Int)) (inner := [.int .u8 (((wrap64 (65535 - t139)) / 256) % 256), .int .u8 ((wrap64 (65535 - t139)) % 256)]) (ok := fun _ => True) (okp := fun _ => True) ?hr ?hp (fun _ hk => hk) trivial (Below.refl _ _) (Nat.le_refl _) (by simp) ?_; (case hd => rfl); (case hg => rfl); (case hr => first | (go_simp; done) | (go_simp; rfl)); (case hp => exact (Reps.one (show Kd.M (Kd.int .u8) _ _ _ (((wrap64 (65535 - t139)) / 256) % 256) [.int .u8 (((wrap64 (65535 - t139)) / 256) % 256)] from rfl) (Reps.one (show Kd.M (Kd.int .u8) _ _ _ ((wrap64 (65535 - t139)) % 256) [.int .u8 ((wrap64 (65535 - t139)) % 256)] from rfl) (Reps.none _ _)))); intro v142 w11 ho12 hb hg_ hnew_; clear hg_ hnew_; (first | rw [← Ny141.out] at ho12 | (simp only [Int.reduceToNat] at ho12; rw [← Ny141.out] at ho12)); have n0_ := Aside0.mk (Kd.R_lower ho12 (below_size (by repeat (first | (with_reducible first | exact HB.out | apply below_alloc | apply pw_below_drewN | apply below_drew1) | exact HB.out)))); have n1_ := Aside0.mk (below_step (by repeat (first | (with_reducible first | exact HB.out | apply below_alloc | apply pw_below_drewN | apply below_drew1) | exact HB.out)) hb); clear HB; have HO143 := n0_; have HB := n1_; clear n0_ n1_; clear hb ho12; have hcv13 := own_string (P := Try.prog) Try.underlying34 Try.underlying5 Try.underlying9 (Kd.own_of_R HO143.out)) | (go_at_call 15; (with_reducible refine (sum_Sum.calls k ((a0.extract 0 ((Go.bits .andNot .i64 (a0.size : Int) 1) : Int).toNat) ++ (strOfNums y141)) t144 _ A10.out).mono ?_); rintro e w' ⟨rfl, ⟨nd, rfl⟩⟩))
            go_ret
            exact ⟨by first | rfl | (simp [errW_none, errW_some] <;> rfl) | (simp [*, errW_none, errW_some] <;> rfl), by repeat (first | (with_reducible first | exact HB.out | apply below_alloc | apply pw_below_drewN | apply below_drew1) | exact HB.out)⟩
          · rw [if_neg c9] at H
            exact absurd H (by simp)
        · rw [if_neg c8] at H
          exact absurd H (by simp)
      · rw [if_neg c5] at H
        exact absurd H (by simp)
    · rw [if_neg c4] at H
      exact absurd H (by simp)
  · replace c3 := Bool.eq_false_iff.mpr c3
    subst c3
    have H1 : (none) = some r := by rw [if_neg (show ¬ (false = true) by decide)] at H; exact H
    clear H
    have H := H1
    clear H1
    exact absurd H (by simp)

/-- THE ONE PURE STATEMENT of wharfagelaw1_SumZero: yours. -/
def wharfagelaw1_SumZero.Pure : Prop := ∀ (a0 : ByteArray), a0.size ≤ 140737488351232 → ∃ k, wharfagelaw1_SumZero.f k a0 = some true
theorem wharfagelaw1_SumZero.walk (P : wharfagelaw1_SumZero.Pure) (a0 : ByteArray) (w : World) (w0 : a0.size ≤ 140737488351232) :
    Calls Try.prog 7 #[.string a0] w fun e w' => e = .returned (.bool true) ∧ Below w.heap.size w w' := by
  obtain ⟨k, h⟩ := P a0 w0
  refine (wharfagelaw1_SumZero.calls k a0 true w h).mono ?_
  rintro e w' ⟨rfl, hd⟩
  exact ⟨rfl, hd⟩

end Go.Proofs.Ytcefplpmpmlboaa.PSumB
