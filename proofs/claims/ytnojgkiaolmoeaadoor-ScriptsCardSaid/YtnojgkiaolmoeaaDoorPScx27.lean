/- Several texts of this proof in one file (put together by a program of this session). -/
import Derived.Test.YtnojgkiaolmoeaaDoorPScx0
import Derived.Test.YtnojgkiaolmoeaaDoorText
import Derived.Lib.LazyBuf
import Derived.Test.YtnojgkiaolmoeaaDoorPenA
import Derived.Test.YtnojgkiaolmoeaaDoorTakeA
import Derived.Test.YtnojgkiaolmoeaaDoorPScx16
import Derived.Test.YtnojgkiaolmoeaaDoorPScx1
section
/- Contracts: what calls of these functions of the program do, each as a plain function; written by a program of this session. -/
namespace Go.Proofs.YtnojgkiaolmoeaaDoor.PSc
open Go.RowKit Go.Proofs.YtnojgkiaolmoeaaDoorW.PrintWords Go.Proofs.YtnojgkiaolmoeaaDoorW.PrintLast Go.Proofs.YtnojgkiaolmoeaaDoorW.PrintMore
attribute [local go_sem] max2_int min2_int max_two min_two max_three min_three max_four min_four   -- for this text's walks alone
set_option linter.unusedVariables false
set_option linter.unusedSimpArgs false

/-! ### wharfageref0_Decimal: function 24 -/
mutual
def wharfageref0_Decimal.j0 : Nat → Int → Int → Option (ByteArray)
 | 0, _, _ => none
 | k + 1, x0, x3 => wharfageref0_Decimal.l0 k x0 x3 ([] : List Int)
def wharfageref0_Decimal.l0 : Nat → Int → Int → List Int → Option (ByteArray)
 | 0, _, _, _ => none
 | k + 1, x0, x3, x4 => if x3 > 0 then ((some (([(IntKind.u64.wrap (48 + (Int.tmod x3 10))) % 256] : List Int) : List Int)).bind fun y149 => (if y149.length + x4.length < 140737488355328 then (wharfageref0_Decimal.l0 k x0 (IntKind.u64.wrap (Int.tdiv x3 10)) (y149 ++ x4)) else (none))) else (if (x4.length : Int) = 0 then ((some (([(IntKind.u64.wrap (48 + (Int.tmod x3 10))) % 256] : List Int) : List Int)).bind fun y155 => (if y155.length + x4.length < 140737488355328 then (wharfageref0_Decimal.l0 k x0 (IntKind.u64.wrap (Int.tdiv x3 10)) (y155 ++ x4)) else (none))) else (if x0 < 0 then ((some (([45] : List Int) : List Int)).bind fun y161 => (if y161.length + x4.length < 140737488355328 then (some (strOfNums (y161 ++ x4))) else (none))) else (some (strOfNums x4))))
end
def wharfageref0_Decimal.f (k : Nat) (a0 : Int) : Option (ByteArray) := if a0 < 0 then (wharfageref0_Decimal.j0 k a0 (IntKind.u64.wrap ((IntKind.u64.wrap (wrap64 (-(wrap64 (a0 + 1))))) + 1))) else (wharfageref0_Decimal.j0 k a0 (IntKind.u64.wrap (a0)))
theorem wharfageref0_Decimal.mono_l : ∀ k, (∀ y0 y1, LeO (wharfageref0_Decimal.j0 k y0 y1) (wharfageref0_Decimal.j0 (k + 1) y0 y1)) ∧ (∀ y0 y1 y2, LeO (wharfageref0_Decimal.l0 k y0 y1 y2) (wharfageref0_Decimal.l0 (k + 1) y0 y1 y2))
 | 0 => ⟨fun _ _ r h => by simp [wharfageref0_Decimal.j0] at h, fun _ _ _ r h => by simp [wharfageref0_Decimal.l0] at h⟩
 | k + 1 => by
  obtain ⟨ih0, ih1⟩ := wharfageref0_Decimal.mono_l k
  refine ⟨?_, ?_⟩
  ·intro y0 y1
   unfold wharfageref0_Decimal.j0
   repeat' first
   | (with_reducible exact ih0 _ _)
   | (with_reducible exact ih1 _ _ _)
   | (with_reducible exact LeO.refl _)
   | (with_reducible exact LeO.none _)
   | (with_reducible refine LeO.ite ?_ ?_)
   | (with_reducible refine LeO.bind ?_ (fun _ => ?_))
   | exact ih0 _ _
   | exact ih1 _ _ _
   | exact LeO.none _
   | refine LeO.ite ?_ ?_
   | refine LeO.bind ?_ (fun _ => ?_)
  ·intro y0 y1 y2
   unfold wharfageref0_Decimal.l0
   repeat' first
   | (with_reducible exact ih0 _ _)
   | (with_reducible exact ih1 _ _ _)
   | (with_reducible exact LeO.refl _)
   | (with_reducible exact LeO.none _)
   | (with_reducible refine LeO.ite ?_ ?_)
   | (with_reducible refine LeO.bind ?_ (fun _ => ?_))
   | exact ih0 _ _
   | exact ih1 _ _ _
   | exact LeO.none _
   | refine LeO.ite ?_ ?_
   | refine LeO.bind ?_ (fun _ => ?_)
theorem wharfageref0_Decimal.mono : ∀ a0 k, LeO (wharfageref0_Decimal.f k a0) (wharfageref0_Decimal.f (k + 1) a0) := by
 intro a0 k
 obtain ⟨ih0, ih1⟩ := wharfageref0_Decimal.mono_l k
 unfold wharfageref0_Decimal.f
 repeat' first
   | (with_reducible exact ih0 _ _)
   | (with_reducible exact ih1 _ _ _)
   | (with_reducible exact LeO.refl _)
   | (with_reducible exact LeO.none _)
   | (with_reducible refine LeO.ite ?_ ?_)
   | (with_reducible refine LeO.bind ?_ (fun _ => ?_))
   | exact ih0 _ _
   | exact ih1 _ _ _
   | exact LeO.none _
   | refine LeO.ite ?_ ?_
   | refine LeO.bind ?_ (fun _ => ?_)
set_option maxHeartbeats 8000000 in
set_option maxRecDepth 100000 in
theorem wharfageref0_Decimal.calls (k : Nat) (a0 : Int) (r : ByteArray) (w : World) (h : wharfageref0_Decimal.f k a0 = some r) :
  Calls Tryd.prog 24 #[.int .i64 a0] w fun e w' => e = .returned (.string r) ∧ Below w.heap.size w w' := by
 have HB := Aside0.mk (Below.refl w.heap.size w)
 have H : (if a0 < 0 then (wharfageref0_Decimal.j0 k a0 (IntKind.u64.wrap ((IntKind.u64.wrap (wrap64 (-(wrap64 (a0 + 1))))) + 1))) else (wharfageref0_Decimal.j0 k a0 (IntKind.u64.wrap (a0)))) = some r := h
 clear h
 have HC2 := Aside0.mk H
 clear H
 go_enter Tryd.func24, Tryd.ntmps24
 go_upto_if 8 with (fail)
 go_cut [3] (fun v3 wc => ∃ (kq : Nat) (x3_1 : Int), v3 = .int .u64 x3_1 ∧ Aside0 (wharfageref0_Decimal.j0 kq a0 x3_1 = some r) ∧ Aside0 (kq ≤ k) ∧ Aside0 (Below w.heap.size w wc))
 case first =>
  have H := HC2.out
  clear HC2
  by_cases c3 : a0 < 0
  ·rw [if_pos c3] at H
   have c3b0 : decide (a0 < 0) = true := decide_eq_true c3
   clear c3
   (first | rw [c3b0] | (simp only [i64_w, i32_w]; rw [c3b0]) | skip)
   have H' := Aside0.mk H
   clear H
   go_wp2
   go_meet
   case rel => exact ⟨_, (IntKind.u64.wrap ((IntKind.u64.wrap (wrap64 (-(wrap64 (a0 + 1))))) + 1)), (by first | rfl | (simp; done) | (simp [*]; done)), H', ⟨by first | omega | exact Nat.le_refl _⟩, ⟨by repeat (first | (with_reducible first | exact HB.out | apply below_alloc | apply pw_below_drewN | apply below_drew1) | exact HB.out)⟩⟩
  ·rw [if_neg c3] at H
   have c3b0 : decide (a0 < 0) = false := decide_eq_false c3
   clear c3
   (first | rw [c3b0] | (simp only [i64_w, i32_w]; rw [c3b0]) | skip)
   have H' := Aside0.mk H
   clear H
   go_wp2
   go_meet
   case rel => exact ⟨_, (IntKind.u64.wrap (a0)), (by first | rfl | (simp; done) | (simp [*]; done)), H', ⟨by first | omega | exact Nat.le_refl _⟩, ⟨by repeat (first | (with_reducible first | exact HB.out | apply below_alloc | apply pw_below_drewN | apply below_drew1) | exact HB.out)⟩⟩
 case rest =>
  clear HC2
  try clear c2
  try clear p2
  try clear c3
  try clear c3b0
  obtain ⟨kq, x3_1, rfl, HA, HJ1, HB⟩ := hcut
  cases kq with
  | zero => exact absurd HA.out (by simp [wharfageref0_Decimal.j0])
  | succ kj1 =>
   have H := HA.out
   clear HA
   simp only [wharfageref0_Decimal.j0] at H
   have H' := Aside0.mk H
   clear H
   go_wp2
   go_loopg [3, 4] kj1 (fun kq v3 v4 w' => ∃ (x3_2 : Int) (x4_2 : List Int), v3 = .int .u64 x3_2 ∧ Aside0 (wharfageref0_Decimal.l0 kq a0 x3_2 x4_2 = some r) ∧ Aside0 (kq ≤ kj1) ∧ Aside0 (Kd.R (Kd.int .u8) 5 w' w.heap.size (fun _ => True) v4 x4_2) ∧ Aside0 (Below w.heap.size w w'))
   case atStart => exact ⟨(x3_1), (([] : List Int)), (by first | rfl | (simp; done) | (simp [*]; done)), H', ⟨Nat.le_refl _⟩, ⟨by first | exact Kd.R_nil _ _ _ _ _ | exact Kd.N_nil _ _ _ _ _ | exact Kd.V_nil _ _ _ _ _ | exact Kd.Q_nil _ _ _ _ _ | exact Kd.S_nil _ _ _ _ _⟩, ⟨by repeat (first | (with_reducible first | exact HB.out | apply below_alloc | apply pw_below_drewN | apply below_drew1) | exact HB.out)⟩⟩
   case round =>
    clear H'
    try clear c2
    try clear p2
    try clear c3
    try clear c3b0
    try clear p2
    obtain ⟨x3_2, x4_2, rfl, HA, HK2, HO_4, HB⟩ := hrel
    cases gk with
    | zero => exact absurd HA.out (by simp [wharfageref0_Decimal.l0])
    | succ k2 =>
     have H := HA.out
     clear HA
     simp only [wharfageref0_Decimal.l0] at H
     by_cases c4 : x3_2 > 0
     ·rw [if_pos c4] at H
      have c4b0 : decide (0 < x3_2) = true := decide_eq_true c4
      clear c4
      obtain ⟨y149, hy149⟩ : ∃ y_ : List Int, y_ = (([(IntKind.u64.wrap (48 + (Int.tmod x3_2 10))) % 256] : List Int)) := ⟨_, rfl⟩
      replace H : (if y149.length + x4_2.length < 140737488355328 then (wharfageref0_Decimal.l0 k2 a0 (IntKind.u64.wrap (Int.tdiv x3_2 10)) (y149 ++ x4_2)) else (none)) = some r := by first | (rw [hy149]; with_reducible exact H) | (have H2_ := (Option.bind_some _ _).symm.trans H; rw [hy149]; with_reducible exact H2_) | (have H2_ := (Option.bind_some _ _).symm.trans H; with_reducible exact H2_) | with_reducible exact H | (rw [hy149]; exact H) | exact H
      have Ny149 := Aside0.mk hy149
      clear hy149
      by_cases c5 : y149.length + x4_2.length < 140737488355328
      ·rw [if_pos c5] at H
       have LMc5 := Aside0.mk c5
       clear c5
       obtain ⟨y152, hy152⟩ : ∃ y_ : List Int, y_ = (y149 ++ x4_2) := ⟨_, rfl⟩
       replace H : (wharfageref0_Decimal.l0 k2 a0 (IntKind.u64.wrap (Int.tdiv x3_2 10)) y152) = some r := by first | (rw [hy152]; with_reducible exact H) | (have H2_ := (Option.bind_some _ _).symm.trans H; rw [hy152]; with_reducible exact H2_) | (have H2_ := (Option.bind_some _ _).symm.trans H; with_reducible exact H2_) | with_reducible exact H | (rw [hy152]; exact H) | exact H
       have Ny152 := Aside0.mk hy152
       clear hy152
       have H' := Aside0.mk H
       clear H
       go_wp2_with (first | ((with_reducible refine gate_dst (N := 25) rfl ?_); (try (refine gate_guard (by rfl) ?_; dsimp only)); refine Kd.R_lit (Kd.int .u8) _ 5 ?hg (N := 25) ?hd (xs := ([(IntKind.u64.wrap (48 + (Int.tmod x3_2 10))) % 256] : List Int)) (inner := [.int .u8 ((IntKind.u64.wrap (48 + (Int.tmod x3_2 10))) % 256)]) (ok := fun _ => True) (okp := fun _ => True) ?hr ?hp (fun _ hk => hk) trivial (Below.refl _ _) (Nat.le_refl _) (by simp) ?_; (case hd => rfl); (case hg => rfl); (case hr => first | (go_simp; done) | (go_simp; rfl)); (case hp => exact (Reps.one (show Kd.M (Kd.int .u8) _ _ _ ((IntKind.u64.wrap (48 + (Int.tmod x3_2 10))) % 256) [.int .u8 ((IntKind.u64.wrap (48 + (Int.tmod x3_2 10))) % 256)] from rfl) (Reps.none _ _))); intro v150 w6 ho7 hb hg_ hnew_; clear hg_ hnew_; (first | rw [← Ny149.out] at ho7 | (simp only [Int.reduceToNat] at ho7; rw [← Ny149.out] at ho7)); have n0_ := Aside0.mk (Kd.R_elder' (by (with_reducible repeat (first | apply Kd.R_alloc | apply Kd.R_drewN | apply Kd.R_drew)); exact HO_4.out) (Kd.R_base ho7) hb); have n1_ := Aside0.mk (Kd.R_lower (Kd.R_new' ho7 (Kd.R_lt (by (with_reducible repeat (first | apply Kd.R_alloc | apply Kd.R_drewN | apply Kd.R_drew)); exact HO_4.out))) (below_size (by repeat (first | (with_reducible first | exact HB.out | apply below_alloc | apply pw_below_drewN | apply below_drew1) | exact HB.out)))); have n2_ := Aside0.mk (below_step (by repeat (first | (with_reducible first | exact HB.out | apply below_alloc | apply pw_below_drewN | apply below_drew1) | exact HB.out)) hb); clear HO_4; clear HB; have HO_4 := n0_; have O0 := n1_; have HB := n2_; clear n0_ n1_ n2_; clear hb ho7; obtain ⟨Ao9, co9, eo9⟩ := Kd.R_slice HO_4.out; subst eo9) | ((with_reducible refine gate_builtin (b := .append) (xs := #[.tmp 25, .tmp 26]) rfl ?_); (try (refine gate_guard (by rfl) ?_; dsimp only)); at_builtin; refine Kd.R_append_rows (Kd.int .u8) (w0 := w) w.heap.size rfl (.tmp 25) (.tmp 26) 44 5 (.int .u8 0) 1 rfl Tryd.underlying44 info5 rfl (by decide) (by omega) v150 y149 x4_2 _ _ _ (fun k_ => some k_ ≠ (.slice Ao9 x4_2.length co9 : Value).ownBlock) (fun _ => False) rfl rfl ?aO ?aR (fun _ _ h => h) (fun _ h => h.elim) ?aF ?aB ?aS ?aL ?_; (case aR => repeat (first | exact (Kd.R_reads' HO_4.out).2.2 | (with_reducible refine Kd.C_alloc ?_ _) | (with_reducible refine Kd.C_drewN ?_ _) | (with_reducible refine Kd.C_drew ?_))); (case aB => exact (by repeat (first | (with_reducible first | exact HB.out | apply below_alloc | apply pw_below_drewN | apply below_drew1) | exact HB.out))); (case aF => exact (fun k_ hk => Kd.fresh' (Kd.R_lt (by (with_reducible repeat (first | apply Kd.R_alloc | apply Kd.R_drewN | apply Kd.R_drew)); exact HO_4.out)) k_ hk)); (case aO => exact (by (with_reducible repeat (first | apply Kd.R_alloc | apply Kd.R_drewN | apply Kd.R_drew)); exact Kd.R_mono O0.out (fun _ hk => hk.2))); (case aS => exact (below_size (by repeat (first | (with_reducible first | exact HB.out | apply below_alloc | apply pw_below_drewN | apply below_drew1) | exact HB.out)))); (case aL => have := LMc5.out; omega); intro v153 w8 ho hb hg hat; rw [← Ny152.out] at ho; have n0_ := Aside0.mk (Kd.R_after (ok := (fun _ => True)) (by (with_reducible repeat (first | apply Kd.R_alloc | apply Kd.R_drewN | apply Kd.R_drew)); exact HO_4.out) hg hat); have n1_ := Aside0.mk (hb); have n2_ := Aside0.mk (ho); clear HO_4; clear HB; clear O0; have HO_4 := n0_; have HB := n1_; have O3 := n2_; clear n0_ n1_ n2_; clear ho hb hg hat))
       go_roundg k2
       case measure => have := HJ1.out; have := HK2.out; omega
       case rel => exact ⟨(IntKind.u64.wrap (Int.tdiv x3_2 10)), (y152), (by first | rfl | (simp; done) | (simp [*]; done)), H', ⟨by have := HJ1.out; have := HK2.out; omega⟩, ⟨by (with_reducible repeat (first | apply Kd.R_alloc | apply Kd.R_drewN | apply Kd.R_drew)); exact Kd.R_mono O3.out (fun _ hk => trivial)⟩, ⟨by repeat (first | (with_reducible first | exact HB.out | apply below_alloc | apply pw_below_drewN | apply below_drew1) | exact HB.out)⟩⟩
      ·rw [if_neg c5] at H
       exact absurd H (by simp)
     ·rw [if_neg c4] at H
      have c4b0 : decide (0 < x3_2) = false := decide_eq_false c4
      clear c4
      by_cases c10 : (x4_2.length : Int) = 0
      ·rw [if_pos c10] at H
       have c10b0 : ((x4_2.length : Int) == 0) = true := beq_iff_eq.mpr c10
       have c10b1 : ((x4_2.length : Int) != 0) = false := bne_eq_false_iff_eq.mpr c10
       clear c10
       obtain ⟨y155, hy155⟩ : ∃ y_ : List Int, y_ = (([(IntKind.u64.wrap (48 + (Int.tmod x3_2 10))) % 256] : List Int)) := ⟨_, rfl⟩
       replace H : (if y155.length + x4_2.length < 140737488355328 then (wharfageref0_Decimal.l0 k2 a0 (IntKind.u64.wrap (Int.tdiv x3_2 10)) (y155 ++ x4_2)) else (none)) = some r := by first | (rw [hy155]; with_reducible exact H) | (have H2_ := (Option.bind_some _ _).symm.trans H; rw [hy155]; with_reducible exact H2_) | (have H2_ := (Option.bind_some _ _).symm.trans H; with_reducible exact H2_) | with_reducible exact H | (rw [hy155]; exact H) | exact H
       have Ny155 := Aside0.mk hy155
       clear hy155
       by_cases c11 : y155.length + x4_2.length < 140737488355328
       ·rw [if_pos c11] at H
        have LMc11 := Aside0.mk c11
        clear c11
        obtain ⟨y158, hy158⟩ : ∃ y_ : List Int, y_ = (y155 ++ x4_2) := ⟨_, rfl⟩
        replace H : (wharfageref0_Decimal.l0 k2 a0 (IntKind.u64.wrap (Int.tdiv x3_2 10)) y158) = some r := by first | (rw [hy158]; with_reducible exact H) | (have H2_ := (Option.bind_some _ _).symm.trans H; rw [hy158]; with_reducible exact H2_) | (have H2_ := (Option.bind_some _ _).symm.trans H; with_reducible exact H2_) | with_reducible exact H | (rw [hy158]; exact H) | exact H
        have Ny158 := Aside0.mk hy158
        clear hy158
        have H' := Aside0.mk H
        clear H
        obtain ⟨Ao12, co12, eo12⟩ := Kd.R_slice HO_4.out
        subst eo12
        go_wp2_with (first | ((with_reducible refine gate_dst (N := 25) rfl ?_); (try (refine gate_guard (by rfl) ?_; dsimp only)); refine Kd.R_lit (Kd.int .u8) _ 5 ?hg (N := 25) ?hd (xs := ([(IntKind.u64.wrap (48 + (Int.tmod x3_2 10))) % 256] : List Int)) (inner := [.int .u8 ((IntKind.u64.wrap (48 + (Int.tmod x3_2 10))) % 256)]) (ok := fun _ => True) (okp := fun _ => True) ?hr ?hp (fun _ hk => hk) trivial (Below.refl _ _) (Nat.le_refl _) (by simp) ?_; (case hd => rfl); (case hg => rfl); (case hr => first | (go_simp; done) | (go_simp; rfl)); (case hp => exact (Reps.one (show Kd.M (Kd.int .u8) _ _ _ ((IntKind.u64.wrap (48 + (Int.tmod x3_2 10))) % 256) [.int .u8 ((IntKind.u64.wrap (48 + (Int.tmod x3_2 10))) % 256)] from rfl) (Reps.none _ _))); intro v156 w13 ho14 hb hg_ hnew_; clear hg_ hnew_; (first | rw [← Ny155.out] at ho14 | (simp only [Int.reduceToNat] at ho14; rw [← Ny155.out] at ho14)); have n0_ := Aside0.mk (Kd.R_elder' (by (with_reducible repeat (first | apply Kd.R_alloc | apply Kd.R_drewN | apply Kd.R_drew)); exact HO_4.out) (Kd.R_base ho14) hb); have n1_ := Aside0.mk (Kd.R_lower (Kd.R_new' ho14 (Kd.R_lt (by (with_reducible repeat (first | apply Kd.R_alloc | apply Kd.R_drewN | apply Kd.R_drew)); exact HO_4.out))) (below_size (by repeat (first | (with_reducible first | exact HB.out | apply below_alloc | apply pw_below_drewN | apply below_drew1) | exact HB.out)))); have n2_ := Aside0.mk (below_step (by repeat (first | (with_reducible first | exact HB.out | apply below_alloc | apply pw_below_drewN | apply below_drew1) | exact HB.out)) hb); clear HO_4; clear HB; have HO_4 := n0_; have O1 := n1_; have HB := n2_; clear n0_ n1_ n2_; clear hb ho14) | ((with_reducible refine gate_builtin (b := .append) (xs := #[.tmp 25, .tmp 26]) rfl ?_); (try (refine gate_guard (by rfl) ?_; dsimp only)); at_builtin; refine Kd.R_append_rows (Kd.int .u8) (w0 := w) w.heap.size rfl (.tmp 25) (.tmp 26) 44 5 (.int .u8 0) 1 rfl Tryd.underlying44 info5 rfl (by decide) (by omega) v156 y155 x4_2 _ _ _ (fun k_ => some k_ ≠ (.slice Ao12 x4_2.length co12 : Value).ownBlock) (fun _ => False) rfl rfl ?aO ?aR (fun _ _ h => h) (fun _ h => h.elim) ?aF ?aB ?aS ?aL ?_; (case aR => repeat (first | exact (Kd.R_reads' HO_4.out).2.2 | (with_reducible refine Kd.C_alloc ?_ _) | (with_reducible refine Kd.C_drewN ?_ _) | (with_reducible refine Kd.C_drew ?_))); (case aB => exact (by repeat (first | (with_reducible first | exact HB.out | apply below_alloc | apply pw_below_drewN | apply below_drew1) | exact HB.out))); (case aF => exact (fun k_ hk => Kd.fresh' (Kd.R_lt (by (with_reducible repeat (first | apply Kd.R_alloc | apply Kd.R_drewN | apply Kd.R_drew)); exact HO_4.out)) k_ hk)); (case aO => exact (by (with_reducible repeat (first | apply Kd.R_alloc | apply Kd.R_drewN | apply Kd.R_drew)); exact Kd.R_mono O1.out (fun _ hk => hk.2))); (case aS => exact (below_size (by repeat (first | (with_reducible first | exact HB.out | apply below_alloc | apply pw_below_drewN | apply below_drew1) | exact HB.out)))); (case aL => have := LMc11.out; omega); intro v159 w15 ho hb hg hat; rw [← Ny158.out] at ho; have n0_ := Aside0.mk (Kd.R_after (ok := (fun _ => True)) (by (with_reducible repeat (first | apply Kd.R_alloc | apply Kd.R_drewN | apply Kd.R_drew)); exact HO_4.out) hg hat); have n1_ := Aside0.mk (hb); have n2_ := Aside0.mk (ho); clear HO_4; clear HB; clear O1; have HO_4 := n0_; have HB := n1_; have O4 := n2_; clear n0_ n1_ n2_; clear ho hb hg hat))
        go_roundg k2
        case measure => have := HJ1.out; have := HK2.out; omega
        case rel => exact ⟨(IntKind.u64.wrap (Int.tdiv x3_2 10)), (y158), (by first | rfl | (simp; done) | (simp [*]; done)), H', ⟨by have := HJ1.out; have := HK2.out; omega⟩, ⟨by (with_reducible repeat (first | apply Kd.R_alloc | apply Kd.R_drewN | apply Kd.R_drew)); exact Kd.R_mono O4.out (fun _ hk => trivial)⟩, ⟨by repeat (first | (with_reducible first | exact HB.out | apply below_alloc | apply pw_below_drewN | apply below_drew1) | exact HB.out)⟩⟩
       ·rw [if_neg c11] at H
        exact absurd H (by simp)
      ·rw [if_neg c10] at H
       have c10b0 : ((x4_2.length : Int) == 0) = false := beq_eq_false_iff_ne.mpr c10
       have c10b1 : ((x4_2.length : Int) != 0) = true := bne_iff_ne.mpr c10
       have c10b2 : ¬ (x4_2 = []) := fun h_ => c10 (by rw [h_]; rfl)
       by_cases c16 : a0 < 0
       ·rw [if_pos c16] at H
        have c16b0 : decide (a0 < 0) = true := decide_eq_true c16
        clear c16
        obtain ⟨y161, hy161⟩ : ∃ y_ : List Int, y_ = (([45] : List Int)) := ⟨_, rfl⟩
        replace H : (if y161.length + x4_2.length < 140737488355328 then (some (strOfNums (y161 ++ x4_2))) else (none)) = some r := by first | (rw [hy161]; with_reducible exact H) | (have H2_ := (Option.bind_some _ _).symm.trans H; rw [hy161]; with_reducible exact H2_) | (have H2_ := (Option.bind_some _ _).symm.trans H; with_reducible exact H2_) | with_reducible exact H | (rw [hy161]; exact H) | exact H
        have Ny161 := Aside0.mk hy161
        clear hy161
        by_cases c17 : y161.length + x4_2.length < 140737488355328
        ·rw [if_pos c17] at H
         have LMc17 := Aside0.mk c17
         clear c17
         obtain ⟨y164, hy164⟩ : ∃ y_ : List Int, y_ = (y161 ++ x4_2) := ⟨_, rfl⟩
         replace H : (some (strOfNums y164)) = some r := by first | (rw [hy164]; with_reducible exact H) | (have H2_ := (Option.bind_some _ _).symm.trans H; rw [hy164]; with_reducible exact H2_) | (have H2_ := (Option.bind_some _ _).symm.trans H; with_reducible exact H2_) | with_reducible exact H | (rw [hy164]; exact H) | exact H
         have Ny164 := Aside0.mk hy164
         clear hy164
         obtain rfl := Option.some.inj H
         obtain ⟨Ao18, co18, eo18⟩ := Kd.R_slice HO_4.out
         subst eo18
         go_wp2_with (first | ((with_reducible refine gate_dst (N := 32) rfl ?_); (try (refine gate_guard (by rfl) ?_; dsimp only)); refine Kd.R_lit (Kd.int .u8) _ 5 ?hg (N := 32) ?hd (xs := ([45] : List Int)) (inner := [.int .u8 45]) (ok := fun _ => True) (okp := fun _ => True) ?hr ?hp (fun _ hk => hk) trivial (Below.refl _ _) (Nat.le_refl _) (by simp) ?_; (case hd => rfl); (case hg => rfl); (case hr => first | (go_simp; done) | (go_simp; rfl)); (case hp => exact (Reps.one (show Kd.M (Kd.int .u8) _ _ _ 45 [.int .u8 45] from rfl) (Reps.none _ _))); intro v162 w19 ho20 hb hg_ hnew_; clear hg_ hnew_; (first | rw [← Ny161.out] at ho20 | (simp only [Int.reduceToNat] at ho20; rw [← Ny161.out] at ho20)); have n0_ := Aside0.mk (Kd.R_elder' (by (with_reducible repeat (first | apply Kd.R_alloc | apply Kd.R_drewN | apply Kd.R_drew)); exact HO_4.out) (Kd.R_base ho20) hb); have n1_ := Aside0.mk (Kd.R_lower (Kd.R_new' ho20 (Kd.R_lt (by (with_reducible repeat (first | apply Kd.R_alloc | apply Kd.R_drewN | apply Kd.R_drew)); exact HO_4.out))) (below_size (by repeat (first | (with_reducible first | exact HB.out | apply below_alloc | apply pw_below_drewN | apply below_drew1) | exact HB.out)))); have n2_ := Aside0.mk (below_step (by repeat (first | (with_reducible first | exact HB.out | apply below_alloc | apply pw_below_drewN | apply below_drew1) | exact HB.out)) hb); clear HO_4; clear HB; have HO_4 := n0_; have O2 := n1_; have HB := n2_; clear n0_ n1_ n2_; clear hb ho20) | ((with_reducible refine gate_builtin (b := .append) (xs := #[.tmp 32, .tmp 33]) rfl ?_); (try (refine gate_guard (by rfl) ?_; dsimp only)); at_builtin; refine Kd.R_append_rows (Kd.int .u8) (w0 := w) w.heap.size rfl (.tmp 32) (.tmp 33) 44 5 (.int .u8 0) 1 rfl Tryd.underlying44 info5 rfl (by decide) (by omega) v162 y161 x4_2 _ _ _ (fun k_ => some k_ ≠ (.slice Ao18 x4_2.length co18 : Value).ownBlock) (fun _ => False) rfl rfl ?aO ?aR (fun _ _ h => h) (fun _ h => h.elim) ?aF ?aB ?aS ?aL ?_; (case aR => repeat (first | exact (Kd.R_reads' HO_4.out).2.2 | (with_reducible refine Kd.C_alloc ?_ _) | (with_reducible refine Kd.C_drewN ?_ _) | (with_reducible refine Kd.C_drew ?_))); (case aB => exact (by repeat (first | (with_reducible first | exact HB.out | apply below_alloc | apply pw_below_drewN | apply below_drew1) | exact HB.out))); (case aF => exact (fun k_ hk => Kd.fresh' (Kd.R_lt (by (with_reducible repeat (first | apply Kd.R_alloc | apply Kd.R_drewN | apply Kd.R_drew)); exact HO_4.out)) k_ hk)); (case aO => exact (by (with_reducible repeat (first | apply Kd.R_alloc | apply Kd.R_drewN | apply Kd.R_drew)); exact Kd.R_mono O2.out (fun _ hk => hk.2))); (case aS => exact (below_size (by repeat (first | (with_reducible first | exact HB.out | apply below_alloc | apply pw_below_drewN | apply below_drew1) | exact HB.out)))); (case aL => have := LMc17.out; omega); intro v165 w21 ho hb hg hat; rw [← Ny164.out] at ho; have n0_ := Aside0.mk (Kd.R_after (ok := (fun _ => True)) (by (with_reducible repeat (first | apply Kd.R_alloc | apply Kd.R_drewN | apply Kd.R_drew)); exact HO_4.out) hg hat); have n1_ := Aside0.mk (hb); have n2_ := Aside0.mk (ho); clear HO_4; clear HB; clear O2; have HO_4 := n0_; have HB := n1_; have O5 := n2_; clear n0_ n1_ n2_; clear ho hb hg hat; have hcv22 := own_string (P := Tryd.prog) Tryd.underlying44 Tryd.underlying5 Tryd.underlying9 (Kd.own_of_R O5.out)))
         go_ret
         exact ⟨by first | rfl | (simp [errW_none, errW_some] <;> rfl) | (simp [*, errW_none, errW_some] <;> rfl), by repeat (first | (with_reducible first | exact HB.out | apply below_alloc | apply pw_below_drewN | apply below_drew1) | exact HB.out)⟩
        ·rw [if_neg c17] at H
         exact absurd H (by simp)
       ·rw [if_neg c16] at H
        have c16b0 : decide (a0 < 0) = false := decide_eq_false c16
        clear c16
        obtain rfl := Option.some.inj H
        obtain ⟨Ao23, co23, eo23⟩ := Kd.R_slice HO_4.out
        subst eo23
        have hcv24 := own_string (P := Tryd.prog) Tryd.underlying44 Tryd.underlying5 Tryd.underlying9 (Kd.own_of_R HO_4.out)
        go_wp2
        go_ret
        exact ⟨by first | rfl | (simp [errW_none, errW_some] <;> rfl) | (simp [*, errW_none, errW_some] <;> rfl), by repeat (first | (with_reducible first | exact HB.out | apply below_alloc | apply pw_below_drewN | apply below_drew1) | exact HB.out)⟩

end Go.Proofs.YtnojgkiaolmoeaaDoor.PSc
end
section
/- Contracts: what calls of these functions of the program do, each as a plain function; written by a program of this session. -/
namespace Go.Proofs.YtnojgkiaolmoeaaDoor.PSc
open Go.RowKit Go.Proofs.YtnojgkiaolmoeaaDoorW.PrintWords Go.Proofs.YtnojgkiaolmoeaaDoorW.PrintLast Go.Proofs.YtnojgkiaolmoeaaDoorW.PrintMore
attribute [local go_sem] max2_int min2_int max_two min_two max_three min_three max_four min_four   -- for this text's walks alone
set_option linter.unusedVariables false
set_option linter.unusedSimpArgs false

/-! ### wharfageref19_dec: function 22 -/
def wharfageref19_dec.f (k : Nat) (a0 : Int) : Option (ByteArray) := (wharfageref0_Decimal.f k a0).bind fun t167 => (if t167.size + 1 ≤ 9223372036854775807 then (some (t167 ++ (⟨#[32]⟩ : ByteArray))) else (none))
theorem wharfageref19_dec.mono : ∀ a0 k, LeO (wharfageref19_dec.f k a0) (wharfageref19_dec.f (k + 1) a0) := by
 intro a0 k
 unfold wharfageref19_dec.f
 repeat' first
   | (with_reducible exact wharfageref0_Decimal.mono _ _)
   | (with_reducible exact LeO.refl _)
   | (with_reducible exact LeO.none _)
   | (with_reducible refine LeO.ite ?_ ?_)
   | (with_reducible refine LeO.bind ?_ (fun _ => ?_))
   | exact wharfageref0_Decimal.mono _ _
   | exact LeO.none _
   | refine LeO.ite ?_ ?_
   | refine LeO.bind ?_ (fun _ => ?_)
set_option maxHeartbeats 8000000 in
set_option maxRecDepth 100000 in
theorem wharfageref19_dec.calls (k : Nat) (a0 : Int) (r : ByteArray) (w : World) (h : wharfageref19_dec.f k a0 = some r) :
  Calls Tryd.prog 22 #[.int .i64 a0] w fun e w' => e = .returned (.string r) ∧ Below w.heap.size w w' := by
 have HB := Aside0.mk (Below.refl w.heap.size w)
 have H : ((wharfageref0_Decimal.f k a0).bind fun t167 => (if t167.size + 1 ≤ 9223372036854775807 then (some (t167 ++ (⟨#[32]⟩ : ByteArray))) else (none))) = some r := h
 clear h
 replace H := Option.bind_eq_some_iff.mp H
 obtain ⟨t167, A20, H⟩ := H
 replace H : (if t167.size + 1 ≤ 9223372036854775807 then (some (t167 ++ (⟨#[32]⟩ : ByteArray))) else (none)) = some r := H
 have A2 := Aside0.mk A20
 clear A20
 by_cases c3 : t167.size + 1 ≤ 9223372036854775807
 ·rw [if_pos c3] at H
  have c3b0 := eq_true c3
  have c3b1 : decide (t167.size + 1 ≤ 9223372036854775807) = true := decide_eq_true c3
  try have c3b2 : (9223372036854775807 < t167.size + 1) = False := eq_false (Nat.not_lt.2 c3)
  obtain rfl := Option.some.inj H
  go_enter Tryd.func22, Tryd.ntmps22
  go_wp2_with (first | ((with_reducible refine gate_callee (f := 24) rfl ?_); refine goesL_ (some 4) rfl rfl Tryd.func24 (by kernel_rfl) rfl #[.int .i64 a0] rfl (by (try simp only [List.map_toArray, List.map_cons, List.map_nil]); first | done | rfl | (simp only [List.length_drop, List.length_take]; rfl)) ?_; (with_reducible refine (wharfageref0_Decimal.calls k a0 t167 _ A2.out).mono ?_); rintro e w4 ⟨rfl, hb⟩; refine ⟨_, rfl, ?_⟩; have n0_ := Aside0.mk (below_step (by repeat (first | (with_reducible first | exact HB.out | apply below_alloc | apply pw_below_drewN | apply below_drew1) | exact HB.out)) hb); clear HB; have HB := n0_; clear n0_; (try clear hb); (try clear hb2); (try clear hk); (try clear hi)))
  go_ret
  exact ⟨by first | rfl | (simp [errW_none, errW_some] <;> rfl) | (simp [*, errW_none, errW_some] <;> rfl), by repeat (first | (with_reducible first | exact HB.out | apply below_alloc | apply pw_below_drewN | apply below_drew1) | exact HB.out)⟩
 ·rw [if_neg c3] at H
  exact absurd H (by simp)

/-! ### wharfageref19_letter: function 23 -/
def wharfageref19_letter.f (a0 : Bool) (a1 : ByteArray) (a2 : ByteArray) : Option (ByteArray) := if a0 = true then (some a1) else (some a2)
set_option maxHeartbeats 8000000 in
set_option maxRecDepth 100000 in
theorem wharfageref19_letter.calls (a0 : Bool) (a1 : ByteArray) (a2 : ByteArray) (r : ByteArray) (w : World) (h : wharfageref19_letter.f a0 a1 a2 = some r) :
  Calls Tryd.prog 23 #[.bool a0, .string a1, .string a2] w fun e w' => e = .returned (.string r) ∧ Drawn0 w w' := by
 have H : (if a0 = true then (some a1) else (some a2)) = some r := h
 clear h
 by_cases c4 : a0 = true
 ·subst c4
  have H1 : (some a1) = some r := by rw [if_pos rfl] at H; exact H
  clear H
  have H := H1
  clear H1
  obtain rfl := Option.some.inj H
  go_enter Tryd.func23, Tryd.ntmps23
  go_wp2
  go_ret
  exact ⟨by first | rfl | (simp; done) | (simp [*]; done), by repeat (first | exact Drawn0.refl _ | apply Drawn0.step)⟩
 ·replace c4 := Bool.eq_false_iff.mpr c4
  subst c4
  have H1 : (some a2) = some r := by rw [if_neg (show ¬ (false = true) by decide)] at H; exact H
  clear H
  have H := H1
  clear H1
  obtain rfl := Option.some.inj H
  go_enter Tryd.func23, Tryd.ntmps23
  go_wp2
  go_ret
  exact ⟨by first | rfl | (simp; done) | (simp [*]; done), by repeat (first | exact Drawn0.refl _ | apply Drawn0.step)⟩

end Go.Proofs.YtnojgkiaolmoeaaDoor.PSc
end
section
/- Contracts: what calls of these functions of the program do, each as a plain function; written by a program of this session. -/
namespace Go.Proofs.YtnojgkiaolmoeaaDoor.PSc
open Go.RowKit Go.Proofs.YtnojgkiaolmoeaaDoorW.PrintWords Go.Proofs.YtnojgkiaolmoeaaDoorW.PrintLast Go.Proofs.YtnojgkiaolmoeaaDoorW.PrintMore
attribute [local go_sem] max2_int min2_int max_two min_two max_three min_three max_four min_four   -- for this text's walks alone
set_option linter.unusedVariables false
set_option linter.unusedSimpArgs false

/-! ### wharfageref19_ShowActs: function 9, by hand -/
namespace SAct
theorem dec_l (x : Int) (hx : 0 ≤ x) (u : Nat) : u < 18446744073709551616 → ∀ (k : Nat) (acc : List Int), acc.length + Lib.nDigits u ≤ 40 → Lib.nDigits u + 1 < k → (0 < u ∨ acc = []) → wharfageref0_Decimal.l0 k x (u : Int) acc = some (strOfNums ((Lib.decDigits u).map (fun b => (b.toNat : Int)) ++ acc)) := by
 induction u using Nat.strongRecOn with
 | ind u ih =>
  intro hu k acc hl hk hc
  obtain ⟨k, rfl⟩ : ∃ m, k = m + 1 := ⟨k - 1, by omega⟩
  have hp := Lib.nDigits_pos u
  have hd : (IntKind.u64.wrap (48 + Int.tmod (u : Int) 10)) % 256 = ((48 + u % 10 : Nat) : Int) := by
   rw [Go.Proofs.YtnojgkiaolmoeaaDoor.NumMath.tmod_nn _ _ (by omega), Go.Proofs.YtnojgkiaolmoeaaDoor.NumMath.wrap_u64_in _ (by omega) (by omega)]
   omega
  have hq : IntKind.u64.wrap (Int.tdiv (u : Int) 10) = ((u / 10 : Nat) : Int) := by
   rw [Go.Proofs.YtnojgkiaolmoeaaDoor.NumMath.tdiv_nn _ _ (by omega), Go.Proofs.YtnojgkiaolmoeaaDoor.NumMath.wrap_u64_in _ (by omega) (by omega)]
   omega
  have hb : (UInt8.ofNat (48 + u % 10)).toNat = 48 + u % 10 := by
   rw [UInt8.toNat_ofNat']
   omega
  have step : (if ([((48 + u % 10 : Nat) : Int)] : List Int).length + acc.length < 140737488355328 then wharfageref0_Decimal.l0 k x ((u / 10 : Nat) : Int) ([((48 + u % 10 : Nat) : Int)] ++ acc) else none) = some (strOfNums ((Lib.decDigits u).map (fun b => (b.toNat : Int)) ++ acc)) := by
   rw [if_pos (by simp only [List.length_singleton]; omega)]
   by_cases h : u < 10
   ·rw [show u / 10 = 0 by omega, Lib.decDigits_one h]
    obtain ⟨k, rfl⟩ : ∃ m, k = m + 1 := ⟨k - 1, by omega⟩
    simp only [wharfageref0_Decimal.l0]
    rw [if_neg (by omega), if_neg (by simp only [List.length_append, List.length_singleton]; omega), if_neg (by omega)]
    simp only [List.map_cons, List.map_nil]
    rw [show 48 + u = 48 + u % 10 by omega, hb]
   ·have hn := Lib.nDigits_big h
    rw [ih (u / 10) (by omega) (by omega) k _ (by simp only [List.length_append, List.length_singleton]; omega) (by omega) (.inl (by omega))]
    have he : Lib.decDigits u = Lib.decDigits (u / 10) ++ [UInt8.ofNat (48 + u % 10)] := by rw [Lib.decDigits, dif_neg h]
    rw [he, List.map_append, List.append_assoc]
    simp only [List.map_cons, List.map_nil]
    rw [hb]
  simp only [wharfageref0_Decimal.l0]
  by_cases h0 : 0 < u
  ·rw [if_pos (by omega), hd, hq]
   exact step
  ·obtain rfl : acc = [] := by rcases hc with h | h; exact absurd h h0; exact h
   rw [if_neg (by omega), if_pos (show (([] : List Int).length : Int) = 0 from rfl), hd, hq]
   exact step
theorem dec_i (x : Int) (h : 0 ≤ x ∧ x < 4294967296) (k : Nat) (hk : 30 ≤ k) : wharfageref0_Decimal.f k x = some ⟨(Lib.itoa x).toArray⟩ := by
 obtain ⟨u, rfl⟩ := Int.eq_ofNat_of_zero_le h.1
 obtain ⟨k, rfl⟩ : ∃ m, k = m + 1 := ⟨k - 1, by omega⟩
 have hn := Lib.nDigits_le20 u (by omega)
 unfold wharfageref0_Decimal.f
 rw [if_neg (by omega), Go.Proofs.YtnojgkiaolmoeaaDoor.NumMath.wrap_u64_in _ (by omega) (by omega)]
 simp only [wharfageref0_Decimal.j0]
 rw [dec_l _ (by omega) u (by omega) k [] (by simp only [List.length_nil]; omega) (by omega) (.inr rfl), List.append_nil, Lib.itoa_nonneg]
 congr 1
 exact Lib.Lz.strOfNums_map _
def Bs (l : List UInt8) : ByteArray := ⟨l.toArray⟩
theorem bcat (a b : List UInt8) : Bs a ++ Bs b = Bs (a ++ b) := by
 unfold Bs
 have h : (((⟨a.toArray⟩ : ByteArray) ++ ⟨b.toArray⟩).data) = (a ++ b).toArray := by simp
 cases hq : ((⟨a.toArray⟩ : ByteArray) ++ ⟨b.toArray⟩) with
 | mk d => rw [hq] at h; exact congrArg ByteArray.mk h
theorem bsz (a : List UInt8) : (Bs a).size = a.length := by show a.toArray.size = _; simp
theorem bself (t : ByteArray) : t = Bs t.data.toList := by cases t; simp [Bs]
theorem blen (t : ByteArray) : t.data.toList.length = t.size := by rw [Array.length_toList]; rfl
theorem dec_t {x : Int} (h : Take.Sm x) (k : Nat) (hk : 30 ≤ k) : wharfageref19_dec.f k x = some (Bs (Pen.numT x)) := by
 have hl := Take.itoa_len h
 unfold wharfageref19_dec.f
 rw [dec_i x ⟨h.1, by have := h.2; omega⟩ k hk, Option.bind_some]
 show (if (Bs (Lib.itoa x)).size + 1 ≤ 9223372036854775807 then some (Bs (Lib.itoa x) ++ Bs [32]) else none) = _
 rw [bsz, if_pos (by omega), bcat]
 rfl
theorem dec_b {x : Int} (h : Take.Sm x) (k : Nat) (hk : 30 ≤ k) : wharfageref0_Decimal.f k x = some (Bs (Lib.itoa x)) := dec_i x ⟨h.1, by have := h.2; omega⟩ k hk
theorem numT_le {x : Int} (h : Take.Sm x) : (Pen.numT x).length ≤ 11 := by
 have hl := Take.itoa_len h
 unfold Pen.numT
 rw [List.length_append, List.length_singleton]
 omega
theorem let_t (b : Bool) (y n : UInt8) : wharfageref19_letter.f b (Bs [y]) (Bs [n]) = some (Bs [if b = true then y else n]) := by
 unfold wharfageref19_letter.f
 cases b <;> rfl
theorem back_le {y : S65} (h : Take.Sm y.f0) : (Pen.backT y).length ≤ 12 := by
 have := numT_le h
 unfold Pen.backT Pen.numsT
 simp only [List.flatMap_cons, List.flatMap_nil, List.append_nil, List.length_append, List.length_singleton]
 omega
theorem backs_le (l : List S65) (h : ∀ y ∈ l, Take.Sm y.f0) : (l.flatMap Pen.backT).length ≤ 12 * l.length := by
 induction l with
 | nil => simp
 | cons x r ih =>
  have h1 := ih (fun y hy => h y (List.mem_cons_of_mem _ hy))
  have h2 := back_le (h x List.mem_cons_self)
  rw [List.flatMap_cons, List.length_append, List.length_cons]
  omega
theorem site_le {x : S63} (h : Take.SiteS x) : (Pen.siteT x).length ≤ 100 := by
 have h0 := numT_le h.w
 have h2 := numT_le h.c
 have hn := h.n
 have h3 := numT_le (Take.sm_len (show x.f3.length ≤ 1000 by omega))
 have h4 := backs_le x.f3 h.b
 unfold Pen.siteT Pen.numsT
 simp only [List.flatMap_cons, List.flatMap_nil, List.append_nil, List.length_append, List.length_singleton]
 omega
theorem sites_le (l : List S63) (h : ∀ y ∈ l, Take.SiteS y) : (l.flatMap Pen.siteT).length ≤ 100 * l.length := by
 induction l with
 | nil => simp
 | cons x r ih =>
  have h1 := ih (fun y hy => h y (List.mem_cons_of_mem _ hy))
  have h2 := site_le (h x List.mem_cons_self)
  rw [List.flatMap_cons, List.length_append, List.length_cons]
  omega
theorem take_flat {α : Type} (f : α → List UInt8) (l : List α) (i : Nat) (h : i < l.length) : (l.take i).flatMap f ++ f l[i] = (l.take (i + 1)).flatMap f := by
 rw [List.take_succ_eq_append_getElem h, List.flatMap_append]
 simp
end SAct
open SAct
theorem len_ok (a b : List UInt8) (h : a.length + b.length ≤ 1000000000) : (9223372036854775807 < (Bs a).size + (Bs b).size) = False := eq_false (by rw [bsz, bsz]; omega)
open Classical in
noncomputable def showW : List S40 → List UInt8 → Option (ByteArray × Int)
 | [], acc => some (Bs acc, 0)
 | x :: r, acc => (wharfageref19_ActMay.f x.f0 x.f1 x.f2 x.f3 x.f4 x.f5 x.f6 x.f7 x.f8.f0 x.f8.f1).bind fun b => if b = true then (if Take.ActS x then showW r (acc ++ Pen.actT x) else none) else some ((⟨#[]⟩ : ByteArray), 2300)
noncomputable def wharfageref19_ShowActs.f (_ : Nat) (l : List S40) : Option (ByteArray × Int) := if l.length > 256 then some ((⟨#[]⟩ : ByteArray), 2300) else showW l []
theorem wharfageref19_ShowActs.mono : ∀ a0 k, LeO (wharfageref19_ShowActs.f k a0) (wharfageref19_ShowActs.f (k + 1) a0) := fun _ _ => LeO.refl _
theorem wharfageref19_ShowActs.drop_flat {α : Type} (l : List α) (q : Nat) (h : q < l.length) : l.drop q = l[q] :: l.drop (q + 1) := (List.getElem_cons_drop h).symm
theorem wharfageref19_ShowActs.bself_ (t : ByteArray) : Bs t.data.toList = t := (bself t).symm
theorem wharfageref19_ShowActs.tab10 : rtab .any (opsOf Tryd.f9 10) = rtab .any (opsOf Tryd.f9 10) := rfl
def wharfageref19_ShowActs.B10 : List Nat := [0, 0, 2, 6, 15, 0, 32, 110, 255, 0, 512, 1774, 4095, 0, 8192, 28398, 65535, 0, 131072, 454382, 1048575, 0, 2097152, 7270126, 16777215, 0, 33554432, 116322030, 268435455, 0, 536870912, 1610612736, 4008636142, 8589934591, 17179869183, 0, 34359738368, 137438953471, 274877906943]
theorem wharfageref19_ShowActs.bits10 : waitsOk (rtab .any (opsOf Tryd.f9 10)).2 wharfageref19_ShowActs.B10 = true := by kernel_rfl
theorem wharfageref19_ShowActs.tab12 : rtab .any (opsOf Tryd.f9 12) = rtab .any (opsOf Tryd.f9 12) := rfl
def wharfageref19_ShowActs.B12 : List Nat := [0, 0, 2, 6, 14, 31, 0, 64, 192, 448, 990, 2047, 4095]
theorem wharfageref19_ShowActs.bits12 : waitsOk (rtab .any (opsOf Tryd.f9 12)).2 wharfageref19_ShowActs.B12 = true := by kernel_rfl
theorem wharfageref19_ShowActs.tab17 : rtab .any (opsOf Tryd.f9 17) = rtab .any (opsOf Tryd.f9 17) := rfl
def wharfageref19_ShowActs.B17 : List Nat := [0, 0, 2, 6, 15, 0, 32, 110, 255, 0, 512, 1774, 4095, 0, 8192, 24576, 61166, 131071, 262143]
theorem wharfageref19_ShowActs.bits17 : waitsOk (rtab .any (opsOf Tryd.f9 17)).2 wharfageref19_ShowActs.B17 = true := by kernel_rfl
theorem wharfageref19_ShowActs.tab21 : rtab .any (opsOf Tryd.f9 21) = rtab .any (opsOf Tryd.f9 21) := rfl
def wharfageref19_ShowActs.B21 : List Nat := [0, 0, 2, 0, 14, 30, 62, 126, 255, 0, 512, 0, 3584, 7680, 15872, 32510, 65535, 131071]
theorem wharfageref19_ShowActs.bits21 : waitsOk (rtab .any (opsOf Tryd.f9 21)).2 wharfageref19_ShowActs.B21 = true := by kernel_rfl
set_option maxHeartbeats 8000000 in
set_option maxRecDepth 100000 in
theorem wharfageref19_ShowActs.calls (k : Nat) (A0 : Option Addr) (c0 : Nat) (l : List S40) (r1 : ByteArray) (r2 : Int) (w : World) (hr0 : Kd.C k40 w A0 l.length l) (hc0 : l.length ≤ c0) (h : wharfageref19_ShowActs.f k l = some (r1, r2)) :
    Calls Tryd.prog 9 #[.slice A0 l.length c0] w fun e w' => e = .returned (.tuple #[.string r1, .int .i64 r2]) ∧ Below w.heap.size w w' := by
  have hu40 := Tryd.underlying40
  have hu63 := Tryd.underlying63
  have hu38 := Tryd.underlying38
  unfold wharfageref19_ShowActs.f at h
  by_cases hlen : l.length > 256
  · rw [if_pos hlen] at h
    obtain ⟨rfl, rfl⟩ : (⟨#[]⟩ : ByteArray) = r1 ∧ 2300 = r2 := by simpa using h
    have g1 : decide ((256 : Int) < (l.length : Int)) = true := decide_eq_true (by omega)
    have g2 : decide ((l.length : Int) > 256) = true := decide_eq_true (by omega)
    clear h hr0 hc0 hlen
    go_enter Tryd.func9, Tryd.ntmps9
    go_wp2_with fail
    go_ret2
    exact ⟨rfl, Below.refl _ _⟩
  rw [if_neg hlen] at h
  have g1 : decide ((256 : Int) < (l.length : Int)) = false := decide_eq_false (by omega)
  have g2 : decide ((l.length : Int) > 256) = false := decide_eq_false (by omega)
  have HL := Aside0.mk (show l.length ≤ 256 by omega)
  have HR0 := Aside0.mk hr0
  have HCC := Aside0.mk hc0
  have HH := Aside0.mk h
  clear h hr0 hc0 hlen
  go_enter Tryd.func9, Tryd.ntmps9
  go_wp2_with fail
  clear g1 g2
  go_loopg [4, 5] (l.length + 1) (fun kq v4 v5 w' => ∃ (i : Nat) (acc : List UInt8), v4 = .string (Bs acc) ∧ v5 = .int .i64 (i : Int) ∧ Aside0 (i ≤ l.length ∧ (kq : Int) + i = l.length + 1 ∧ acc.length ≤ 1400 * i) ∧ Aside0 (showW (l.drop i) acc = some (r1, r2)) ∧ Aside0 (Below w.heap.size w w'))
  case atStart => exact ⟨0, [], rfl, rfl, ⟨by omega, by omega, by simp⟩, ⟨by simpa using HH.out⟩, ⟨Below.refl _ _⟩⟩
  case round =>
    obtain ⟨i, acc, rfl, rfl, HX, HS, HBW⟩ := hrel
    cases gk with
    | zero => have := HX.out; omega
    | succ k1 =>
      by_cases c3 : (i : Int) < (l.length : Int)
      case neg =>
        have c3b := decide_eq_false c3
        have c3n : decide (i < l.length) = false := decide_eq_false (by omega)
        have hh := HS.out
        rw [List.drop_of_length_le (by omega), showW] at hh
        obtain ⟨rfl, rfl⟩ : Bs acc = r1 ∧ 0 = r2 := by simpa using hh
        clear hh c3
        go_wp2_with fail
        go_ret2
        exact ⟨rfl, HBW.out⟩
      case pos =>
      have c3b := decide_eq_true c3
      have c3n : decide (i < l.length) = true := decide_eq_true (by omega)
      have p1 : (0 : Int) ≤ (i : Int) := by omega
      have p1b := decide_eq_true p1
      have hlt : i < l.length := by omega
      obtain ⟨ad, A9, c9, ea, hx0, hx1, hx2, hx3, hx4, hx5, hx6, hx7, hx8, hx9, hlx, hix⟩ := at_T40 (Kd.C_below HR0.out HBW.out) (i : Int) p1 c3
      cases ea
      have hs := HS.out
      rw [wharfageref19_ShowActs.drop_flat l i hlt, showW] at hs
      have e9 : rd_T40 l (i : Int) = l[i] := by simp [rd_T40, hlt]
      rw [← e9] at hs
      obtain ⟨x, hx⟩ : ∃ x, rd_T40 l (i : Int) = x := ⟨_, rfl⟩
      rw [hx] at hs hx0 hx1 hx2 hx3 hx4 hx5 hx6 hx7 hx8 hx9 hlx hix
      rw [Int.toNat_natCast] at hx0 hx1 hx2 hx3 hx4 hx5 hx6 hx7 hx8 hx9
      obtain ⟨bm, hbm, hs2⟩ := Option.bind_eq_some_iff.mp hs
      have HM := Aside0.mk hbm
      have HS2 := Aside0.mk hs2
      have HLX := Aside0.mk hlx
      have HIX := Aside0.mk hix
      have c3' := eq_true c3
      have p1' := eq_true p1
      clear hs hs2 hbm hx e9 HS hlx hix
      go_upto_region 8 with ((with_reducible refine gate_dst (N := 6) rfl ?_); refine box_event ?hg (N := 6) ?hd (cs := #[.int .i64 0, .int .i64 0, .int .i64 0, .int .i64 0, .int .i64 0, .int .i64 0, .bool false, .string ⟨#[]⟩, .int .i64 0, .slice none 0 0]) (t := 40) ?hr ?_; (case hd => rfl); (case hg => rfl); (case hr => first | (go_simp; done) | (go_simp; rfl)); intro gx hg w3 hbox hb; have HW := Aside0.mk hb; have G := Aside0.mk (Nat.le_of_eq hg.symm : wr.heap.size ≤ gx); have Zb := Aside0.mk hbox; clear hb hbox hg; have z0 : w3.cell? ⟨gx, 0, none⟩ = some (.int .i64 0) := (blk_cell Zb.out 0).trans rfl; have y0 := blk_frozen Zb.out 0; have z1 : w3.cell? ⟨gx, 1, none⟩ = some (.int .i64 0) := (blk_cell Zb.out 1).trans rfl; have y1 := blk_frozen Zb.out 1; have z2 : w3.cell? ⟨gx, 2, none⟩ = some (.int .i64 0) := (blk_cell Zb.out 2).trans rfl; have y2 := blk_frozen Zb.out 2; have z3 : w3.cell? ⟨gx, 3, none⟩ = some (.int .i64 0) := (blk_cell Zb.out 3).trans rfl; have y3 := blk_frozen Zb.out 3; have z4 : w3.cell? ⟨gx, 4, none⟩ = some (.int .i64 0) := (blk_cell Zb.out 4).trans rfl; have y4 := blk_frozen Zb.out 4; have z5 : w3.cell? ⟨gx, 5, none⟩ = some (.int .i64 0) := (blk_cell Zb.out 5).trans rfl; have y5 := blk_frozen Zb.out 5; have z6 : w3.cell? ⟨gx, 6, none⟩ = some (.bool false) := (blk_cell Zb.out 6).trans rfl; have y6 := blk_frozen Zb.out 6; have z7 : w3.cell? ⟨gx, 7, none⟩ = some (.string ⟨#[]⟩) := (blk_cell Zb.out 7).trans rfl; have y7 := blk_frozen Zb.out 7; have z8 : w3.cell? ⟨gx, 8, none⟩ = some (.int .i64 0) := (blk_cell Zb.out 8).trans rfl; have y8 := blk_frozen Zb.out 8; have z9 : w3.cell? ⟨gx, 9, none⟩ = some (.slice none 0 0) := (blk_cell Zb.out 9).trans rfl; have y9 := blk_frozen Zb.out 9; skip)
      refine Take.hide_ (fun W => Below wr.heap.size wr W ∧ W.heap[gx]? = some (.cells #[.int .i64 x.f0, .int .i64 x.f1, .int .i64 x.f2, .int .i64 x.f3, .int .i64 x.f4, .int .i64 x.f5, .bool x.f6, .string x.f7, .int .i64 x.f8.f0, .slice A9 x.f8.f1.length c9] 40 (0, 0)) ∧ wr.heap.size ≤ gx) ⟨by with_reducible repeat (first | exact HW.out | refine below_set ?_ G.out), by refine blk_put (cs := #[.int .i64 x.f0, .int .i64 x.f1, .int .i64 x.f2, .int .i64 x.f3, .int .i64 x.f4, .int .i64 x.f5, .bool x.f6, .string x.f7, .int .i64 x.f8.f0, .slice none 0 0]) ?_ 9 _ rfl; refine blk_put (cs := #[.int .i64 x.f0, .int .i64 x.f1, .int .i64 x.f2, .int .i64 x.f3, .int .i64 x.f4, .int .i64 x.f5, .bool x.f6, .string x.f7, .int .i64 0, .slice none 0 0]) ?_ 8 _ rfl; refine blk_put (cs := #[.int .i64 x.f0, .int .i64 x.f1, .int .i64 x.f2, .int .i64 x.f3, .int .i64 x.f4, .int .i64 x.f5, .bool x.f6, .string ⟨#[]⟩, .int .i64 0, .slice none 0 0]) ?_ 7 _ rfl; refine blk_put (cs := #[.int .i64 x.f0, .int .i64 x.f1, .int .i64 x.f2, .int .i64 x.f3, .int .i64 x.f4, .int .i64 x.f5, .bool false, .string ⟨#[]⟩, .int .i64 0, .slice none 0 0]) ?_ 6 _ rfl; refine blk_put (cs := #[.int .i64 x.f0, .int .i64 x.f1, .int .i64 x.f2, .int .i64 x.f3, .int .i64 x.f4, .int .i64 0, .bool false, .string ⟨#[]⟩, .int .i64 0, .slice none 0 0]) ?_ 5 _ rfl; refine blk_put (cs := #[.int .i64 x.f0, .int .i64 x.f1, .int .i64 x.f2, .int .i64 x.f3, .int .i64 0, .int .i64 0, .bool false, .string ⟨#[]⟩, .int .i64 0, .slice none 0 0]) ?_ 4 _ rfl; refine blk_put (cs := #[.int .i64 x.f0, .int .i64 x.f1, .int .i64 x.f2, .int .i64 0, .int .i64 0, .int .i64 0, .bool false, .string ⟨#[]⟩, .int .i64 0, .slice none 0 0]) ?_ 3 _ rfl; refine blk_put (cs := #[.int .i64 x.f0, .int .i64 x.f1, .int .i64 0, .int .i64 0, .int .i64 0, .int .i64 0, .bool false, .string ⟨#[]⟩, .int .i64 0, .slice none 0 0]) ?_ 2 _ rfl; refine blk_put (cs := #[.int .i64 x.f0, .int .i64 0, .int .i64 0, .int .i64 0, .int .i64 0, .int .i64 0, .bool false, .string ⟨#[]⟩, .int .i64 0, .slice none 0 0]) ?_ 1 _ rfl; refine blk_put (cs := #[.int .i64 0, .int .i64 0, .int .i64 0, .int .i64 0, .int .i64 0, .int .i64 0, .bool false, .string ⟨#[]⟩, .int .i64 0, .slice none 0 0]) ?_ 0 _ rfl; exact Zb.out, G.out⟩ ?_
      intro w4 ⟨hb, hz, hge⟩
      replace HBW := Aside0.mk (below_step HBW.out hb)
      replace HIX := Aside0.mk (Kd.C_below HIX.out hb)
      have BX := Aside0.mk hz
      clear hb hz hge HW G Zb z0 y0 z1 y1 z2 y2 z3 y3 z4 y4 z5 y5 z6 y6 z7 y7 z8 y8 z9 y9 hx0 hx1 hx2 hx3 hx4 hx5 hx6 hx7 hx8 hx9 c3b c3n p1b c3' p1'
      have y0_ : w4.cell? ⟨gx, 0, none⟩ = some (.int .i64 x.f0) := (blk_cell BX.out 0).trans rfl
      have y1_ : w4.cell? ⟨gx, 1, none⟩ = some (.int .i64 x.f1) := (blk_cell BX.out 1).trans rfl
      have y2_ : w4.cell? ⟨gx, 2, none⟩ = some (.int .i64 x.f2) := (blk_cell BX.out 2).trans rfl
      have y3_ : w4.cell? ⟨gx, 3, none⟩ = some (.int .i64 x.f3) := (blk_cell BX.out 3).trans rfl
      have y4_ : w4.cell? ⟨gx, 4, none⟩ = some (.int .i64 x.f4) := (blk_cell BX.out 4).trans rfl
      have y5_ : w4.cell? ⟨gx, 5, none⟩ = some (.int .i64 x.f5) := (blk_cell BX.out 5).trans rfl
      have y6_ : w4.cell? ⟨gx, 6, none⟩ = some (.bool x.f6) := (blk_cell BX.out 6).trans rfl
      have y7_ : w4.cell? ⟨gx, 7, none⟩ = some (.string x.f7) := (blk_cell BX.out 7).trans rfl
      have y8_ : w4.cell? ⟨gx, 8, none⟩ = some (.int .i64 x.f8.f0) := (blk_cell BX.out 8).trans rfl
      have y9_ : w4.cell? ⟨gx, 9, none⟩ = some (.slice A9 x.f8.f1.length c9) := (blk_cell BX.out 9).trans rfl
      cases bm
      · rw [if_neg (by decide)] at HS2
        obtain ⟨rfl, rfl⟩ : (⟨#[]⟩ : ByteArray) = r1 ∧ 2300 = r2 := by simpa using HS2.out
        go_wp2_with (go_at_call 15; refine (wharfageref19_ActMay.calls x.f0 x.f1 x.f2 x.f3 x.f4 x.f5 x.f6 x.f7 x.f8.f0 A9 c9 x.f8.f1 false _ HIX.out HLX.out HM.out).mono ?_; rintro e w5 ⟨rfl, hb⟩; replace HBW := Aside0.mk (below_step HBW.out hb); clear hb)
        go_ret2
        exact ⟨rfl, HBW.out⟩
      rw [if_pos rfl] at HS2
      by_cases hact : Take.ActS x
      case neg => rw [if_neg hact] at HS2; cases HS2.out
      rw [if_pos hact] at HS2
      have HA := Aside0.mk hact
      have n0 := numT_le hact.n0
      have n1 := numT_le hact.n1
      have n2 := numT_le hact.n2
      have n3 := numT_le hact.n3
      have n4 := numT_le hact.n4
      have n5 := numT_le hact.n5
      have ht := hact.t
      have hz7 := Take.sm_len (show x.f7.size ≤ 1000 by omega)
      have hi7 := Take.itoa_len hz7
      have hb7 := blen x.f7
      have hacc := HX.out.2.2
      have hi := HX.out.1
      have hll := HL.out
      clear hact
      go_upto_region 10 with (go_at_call 15; refine (wharfageref19_ActMay.calls x.f0 x.f1 x.f2 x.f3 x.f4 x.f5 x.f6 x.f7 x.f8.f0 A9 c9 x.f8.f1 true _ HIX.out HLX.out HM.out).mono ?_; rintro e w5 ⟨rfl, hb⟩; replace HBW := Aside0.mk (below_step HBW.out hb); replace HIX := Aside0.mk (Kd.C_below HIX.out hb); replace BX := Aside0.mk ((hb.block gx (blk_lt BX.out)).trans BX.out); clear hb y0_ y1_ y2_ y3_ y4_ y5_ y6_ y7_ y8_ y9_)
      obtain ⟨t6, ht6⟩ : ∃ u, u = [if x.f6 = true then (103 : UInt8) else 98] := ⟨_, rfl⟩
      have lt6 : t6.length = 1 := by rw [ht6]; rfl
      have Tt6 := Aside0.mk ht6
      clear ht6
      obtain ⟨q1, hq1⟩ : ∃ q, q = acc ++ Pen.numT x.f0 := ⟨_, rfl⟩
      have lq1 : q1.length ≤ acc.length + 11 := by rw [hq1, List.length_append]; first | omega | (simp only [List.length_singleton]; omega)
      have HCq1 := Aside0.mk (show Bs acc ++ Bs (Pen.numT x.f0) = Bs q1 by rw [hq1]; exact bcat _ _)
      have HZq1 := Aside0.mk (len_ok acc (Pen.numT x.f0) (by first | omega | (simp only [List.length_singleton]; omega)))
      obtain ⟨q2, hq2⟩ : ∃ q, q = q1 ++ Pen.numT x.f1 := ⟨_, rfl⟩
      have lq2 : q2.length ≤ q1.length + 11 := by rw [hq2, List.length_append]; first | omega | (simp only [List.length_singleton]; omega)
      have HCq2 := Aside0.mk (show Bs q1 ++ Bs (Pen.numT x.f1) = Bs q2 by rw [hq2]; exact bcat _ _)
      have HZq2 := Aside0.mk (len_ok q1 (Pen.numT x.f1) (by first | omega | (simp only [List.length_singleton]; omega)))
      obtain ⟨q3, hq3⟩ : ∃ q, q = q2 ++ Pen.numT x.f2 := ⟨_, rfl⟩
      have lq3 : q3.length ≤ q2.length + 11 := by rw [hq3, List.length_append]; first | omega | (simp only [List.length_singleton]; omega)
      have HCq3 := Aside0.mk (show Bs q2 ++ Bs (Pen.numT x.f2) = Bs q3 by rw [hq3]; exact bcat _ _)
      have HZq3 := Aside0.mk (len_ok q2 (Pen.numT x.f2) (by first | omega | (simp only [List.length_singleton]; omega)))
      obtain ⟨q4, hq4⟩ : ∃ q, q = q3 ++ Pen.numT x.f3 := ⟨_, rfl⟩
      have lq4 : q4.length ≤ q3.length + 11 := by rw [hq4, List.length_append]; first | omega | (simp only [List.length_singleton]; omega)
      have HCq4 := Aside0.mk (show Bs q3 ++ Bs (Pen.numT x.f3) = Bs q4 by rw [hq4]; exact bcat _ _)
      have HZq4 := Aside0.mk (len_ok q3 (Pen.numT x.f3) (by first | omega | (simp only [List.length_singleton]; omega)))
      obtain ⟨q5, hq5⟩ : ∃ q, q = q4 ++ Pen.numT x.f4 := ⟨_, rfl⟩
      have lq5 : q5.length ≤ q4.length + 11 := by rw [hq5, List.length_append]; first | omega | (simp only [List.length_singleton]; omega)
      have HCq5 := Aside0.mk (show Bs q4 ++ Bs (Pen.numT x.f4) = Bs q5 by rw [hq5]; exact bcat _ _)
      have HZq5 := Aside0.mk (len_ok q4 (Pen.numT x.f4) (by first | omega | (simp only [List.length_singleton]; omega)))
      obtain ⟨q6, hq6⟩ : ∃ q, q = q5 ++ Pen.numT x.f5 := ⟨_, rfl⟩
      have lq6 : q6.length ≤ q5.length + 11 := by rw [hq6, List.length_append]; first | omega | (simp only [List.length_singleton]; omega)
      have HCq6 := Aside0.mk (show Bs q5 ++ Bs (Pen.numT x.f5) = Bs q6 by rw [hq6]; exact bcat _ _)
      have HZq6 := Aside0.mk (len_ok q5 (Pen.numT x.f5) (by first | omega | (simp only [List.length_singleton]; omega)))
      obtain ⟨q7, hq7⟩ : ∃ q, q = q6 ++ t6 := ⟨_, rfl⟩
      have lq7 : q7.length ≤ q6.length + 1 := by rw [hq7, List.length_append]; first | omega | (simp only [List.length_singleton]; omega)
      have HCq7 := Aside0.mk (show Bs q6 ++ Bs (t6) = Bs q7 by rw [hq7]; exact bcat _ _)
      have HZq7 := Aside0.mk (len_ok q6 (t6) (by first | omega | (simp only [List.length_singleton]; omega)))
      obtain ⟨q8, hq8⟩ : ∃ q, q = q7 ++ Lib.itoa (x.f7.size : Int) := ⟨_, rfl⟩
      have lq8 : q8.length ≤ q7.length + 10 := by rw [hq8, List.length_append]; first | omega | (simp only [List.length_singleton]; omega)
      have HCq8 := Aside0.mk (show Bs q7 ++ Bs (Lib.itoa (x.f7.size : Int)) = Bs q8 by rw [hq8]; exact bcat _ _)
      have HZq8 := Aside0.mk (len_ok q7 (Lib.itoa (x.f7.size : Int)) (by first | omega | (simp only [List.length_singleton]; omega)))
      obtain ⟨q9, hq9⟩ : ∃ q, q = q8 ++ [58] := ⟨_, rfl⟩
      have lq9 : q9.length ≤ q8.length + 1 := by rw [hq9, List.length_append]; first | omega | (simp only [List.length_singleton]; omega)
      have HCq9 := Aside0.mk (show Bs q8 ++ Bs ([58]) = Bs q9 by rw [hq9]; exact bcat _ _)
      have HZq9 := Aside0.mk (len_ok q8 ([58]) (by first | omega | (simp only [List.length_singleton]; omega)))
      obtain ⟨q10, hq10⟩ : ∃ q, q = q9 ++ x.f7.data.toList := ⟨_, rfl⟩
      have lq10 : q10.length ≤ q9.length + 512 := by rw [hq10, List.length_append]; first | omega | (simp only [List.length_singleton]; omega)
      have HCq10 := Aside0.mk (show Bs q9 ++ Bs (x.f7.data.toList) = Bs q10 by rw [hq10]; exact bcat _ _)
      have HZq10 := Aside0.mk (len_ok q9 (x.f7.data.toList) (by first | omega | (simp only [List.length_singleton]; omega)))
      have HEq1 := Aside0.mk hq1
      have HEq2 := Aside0.mk hq2
      have HEq3 := Aside0.mk hq3
      have HEq4 := Aside0.mk hq4
      have HEq5 := Aside0.mk hq5
      have HEq6 := Aside0.mk hq6
      have HEq7 := Aside0.mk hq7
      have HEq8 := Aside0.mk hq8
      have HEq9 := Aside0.mk hq9
      have HEq10 := Aside0.mk hq10
      clear hq1 hq2 hq3 hq4 hq5 hq6 hq7 hq8 hq9 hq10
      clear lq1 lq2 lq3 lq4 lq5 lq6 lq7 lq8 lq9
      refine start_ (n := 39) (S := fun w' => True) (ds := []) #[false, false, false, false, false, false, false, false, false, false, false, false, false, false, false, false, false, false, false, false, false, false, false, false, false, false, false, false, false, false, false, false, false, false, false, false, false, false, false] (by kernel_rfl) rfl rfl trivial (fun hHeld => ?_); refine with_tabW wharfageref19_ShowActs.tab10 wharfageref19_ShowActs.bits10 (fun HT_ HW_ => ?_)
      refine inv_at [0, 1, 2, 3, 4, 5, 6, 7, 8, 9, 10, 11, 12, 13, 14, 15, 16, 17, 18, 19, 20, 21, 22, 23, 24, 25, 26, 27, 28, 29, 30, 31, 32, 33, 34, 35, 36, 37, 38] (fun a0_ b a w' => a = putSel a0_ b [(0, 26, .string (Bs acc)), (1, 27, .pointer (some ⟨gx, 0, none⟩)), (2, 28, .int .i64 x.f0), (3, 29, .string (Bs (Pen.numT x.f0))), (4, 30, .string (Bs q1)), (5, 31, .pointer (some ⟨gx, 1, none⟩)), (6, 32, .int .i64 x.f1), (7, 33, .string (Bs (Pen.numT x.f1))), (8, 34, .string (Bs q2)), (9, 35, .pointer (some ⟨gx, 2, none⟩)), (10, 36, .int .i64 x.f2), (11, 37, .string (Bs (Pen.numT x.f2))), (12, 38, .string (Bs q3)), (13, 39, .pointer (some ⟨gx, 3, none⟩)), (14, 40, .int .i64 x.f3), (15, 41, .string (Bs (Pen.numT x.f3))), (16, 42, .string (Bs q4)), (17, 43, .pointer (some ⟨gx, 4, none⟩)), (18, 44, .int .i64 x.f4), (19, 45, .string (Bs (Pen.numT x.f4))), (20, 46, .string (Bs q5)), (21, 47, .pointer (some ⟨gx, 5, none⟩)), (22, 48, .int .i64 x.f5), (23, 49, .string (Bs (Pen.numT x.f5))), (24, 50, .string (Bs q6)), (25, 51, .pointer (some ⟨gx, 6, none⟩)), (26, 52, .bool x.f6), (27, 53, .string (Bs (t6))), (28, 54, .string (Bs q7)), (29, 55, .pointer (some ⟨gx, 7, none⟩)), (30, 56, .string x.f7), (31, 57, .int .i64 (x.f7.size : Int)), (32, 58, .string (Bs (Lib.itoa (x.f7.size : Int)))), (33, 59, .string (Bs q8)), (34, 60, .string (Bs q9)), (35, 61, .pointer (some ⟨gx, 7, none⟩)), (36, 62, .string x.f7), (37, 63, .string (Bs q10)), (38, 4, .string (Bs q10))] ∧ Below w5.heap.size w5 w') HT_.out HW_.out (by kernel_rfl) (by kernel_rfl) ?_ ?_ ?_
      · exact ⟨by simp only [putSel, Bool.false_eq_true, if_false], below_drew1 (Below.refl _ _)⟩
      · skip
        refine steps_cons ?_ ?_
        · rintro b a w' ⟨ha, QB⟩ hb_ hon hoff
          refine ⟨_, rfl, fun K hK => ?_⟩
          have e4 : a.tmps[4]? = some (.string (Bs acc)) := by rw [ha]; exact (putSel_not (hoff 38 (by kernel_rfl)) rfl).trans rfl
          replace ha := Aside0.mk ha
          refine value_ (w1 := w') (v := .string (Bs acc)) (by rfl) rfl ?_ ?_
          · go_simp
            try rfl
          exact hK.out _ _ ⟨(by rw [ha.out]; exact putSel_upk 0 hb_ rfl rfl rfl), QB⟩
        refine steps_cons ?_ ?_
        · rintro b a w' ⟨ha, QB⟩ hb_ hon hoff
          refine ⟨_, rfl, fun K hK => ?_⟩
          have e6 : a.tmps[6]? = some (.pointer (some ⟨gx, 0, none⟩)) := by rw [ha]; exact (putSel_off rfl).trans rfl
          replace ha := Aside0.mk ha
          refine value_ (w1 := w') (v := .pointer (some ⟨gx, 0, none⟩)) (by rfl) rfl ?_ ?_
          · go_simp
            try rfl
          exact hK.out _ _ ⟨(by rw [ha.out]; exact putSel_upk 1 hb_ rfl rfl rfl), QB⟩
        refine steps_cons ?_ ?_
        · rintro b a w' ⟨ha, QB⟩ hb_ hon hoff
          refine ⟨_, rfl, fun K hK => ?_⟩
          have e27 : a.tmps[27]? = some (.pointer (some ⟨gx, 0, none⟩)) := by rw [ha]; exact putSel_on (e := (1, 27, .pointer (some ⟨gx, 0, none⟩))) 1 rfl rfl (hon 1 (by kernel_rfl)) rfl
          have q_ : w'.cell? ⟨gx, 0, none⟩ = some (.int .i64 x.f0) := (blk_cell ((QB.block gx (blk_lt BX.out)).trans BX.out) 0).trans rfl
          replace ha := Aside0.mk ha
          refine value_ (w1 := w') (v := .int .i64 x.f0) (by rfl) rfl ?_ ?_
          · go_simp
            try rfl
          exact hK.out _ _ ⟨(by rw [ha.out]; exact putSel_upk 2 hb_ rfl rfl rfl), QB⟩
        refine steps_cons ?_ ?_
        · rintro b a w' ⟨ha, QB⟩ hb_ hon hoff
          refine ⟨_, rfl, fun K hK => ?_⟩
          have e28 : a.tmps[28]? = some (.int .i64 x.f0) := by rw [ha]; exact putSel_on (e := (2, 28, .int .i64 x.f0)) 2 rfl rfl (hon 2 (by kernel_rfl)) rfl
          replace ha := Aside0.mk ha
          refine goes_ Tryd.func22 (by kernel_rfl) rfl #[.int .i64 x.f0] (by rfl) rfl rfl (by simp only [List.map_toArray, List.map_cons, List.map_nil, Act.eval, Array.getD_eq_getD_getElem?, e28, Option.getD_some]) ?_
          refine (wharfageref19_dec.calls 40 _ _ _ (dec_t HA.out.n0 40 (by omega))).mono ?_
          rintro e_ w'' ⟨rfl, hb⟩
          exact ⟨_, rfl, hK.out _ _ ⟨(by rw [ha.out]; exact putSel_upk 3 hb_ rfl rfl rfl), below_step QB hb⟩⟩
        refine steps_cons ?_ ?_
        · rintro b a w' ⟨ha, QB⟩ hb_ hon hoff
          refine ⟨_, rfl, fun K hK => ?_⟩
          have e26 : a.tmps[26]? = some (.string (Bs acc)) := by rw [ha]; exact putSel_on (e := (0, 26, .string (Bs acc))) 0 rfl rfl (hon 0 (by kernel_rfl)) rfl
          have e29 : a.tmps[29]? = some (.string (Bs (Pen.numT x.f0))) := by rw [ha]; exact putSel_on (e := (3, 29, .string (Bs (Pen.numT x.f0)))) 3 rfl rfl (hon 3 (by kernel_rfl)) rfl
          have hz_ := HZq1.out
          have hc_ := HCq1.out
          have hz2_ := hz_
          simp only [bsz] at hz2_
          replace ha := Aside0.mk ha
          refine value_ (w1 := w') (v := .string (Bs q1)) (by rfl) rfl ?_ ?_
          · go_simp
            try rfl
            try rw [hc_]
            try rfl
          exact hK.out _ _ ⟨(by rw [ha.out]; exact putSel_upk 4 hb_ rfl rfl rfl), QB⟩
        refine steps_cons ?_ ?_
        · rintro b a w' ⟨ha, QB⟩ hb_ hon hoff
          refine ⟨_, rfl, fun K hK => ?_⟩
          have e6 : a.tmps[6]? = some (.pointer (some ⟨gx, 0, none⟩)) := by rw [ha]; exact (putSel_off rfl).trans rfl
          replace ha := Aside0.mk ha
          refine value_ (w1 := w') (v := .pointer (some ⟨gx, 1, none⟩)) (by rfl) rfl ?_ ?_
          · go_simp
            try rfl
          exact hK.out _ _ ⟨(by rw [ha.out]; exact putSel_upk 5 hb_ rfl rfl rfl), QB⟩
        refine steps_cons ?_ ?_
        · rintro b a w' ⟨ha, QB⟩ hb_ hon hoff
          refine ⟨_, rfl, fun K hK => ?_⟩
          have e31 : a.tmps[31]? = some (.pointer (some ⟨gx, 1, none⟩)) := by rw [ha]; exact putSel_on (e := (5, 31, .pointer (some ⟨gx, 1, none⟩))) 5 rfl rfl (hon 5 (by kernel_rfl)) rfl
          have q_ : w'.cell? ⟨gx, 1, none⟩ = some (.int .i64 x.f1) := (blk_cell ((QB.block gx (blk_lt BX.out)).trans BX.out) 1).trans rfl
          replace ha := Aside0.mk ha
          refine value_ (w1 := w') (v := .int .i64 x.f1) (by rfl) rfl ?_ ?_
          · go_simp
            try rfl
          exact hK.out _ _ ⟨(by rw [ha.out]; exact putSel_upk 6 hb_ rfl rfl rfl), QB⟩
        refine steps_cons ?_ ?_
        · rintro b a w' ⟨ha, QB⟩ hb_ hon hoff
          refine ⟨_, rfl, fun K hK => ?_⟩
          have e32 : a.tmps[32]? = some (.int .i64 x.f1) := by rw [ha]; exact putSel_on (e := (6, 32, .int .i64 x.f1)) 6 rfl rfl (hon 6 (by kernel_rfl)) rfl
          replace ha := Aside0.mk ha
          refine goes_ Tryd.func22 (by kernel_rfl) rfl #[.int .i64 x.f1] (by rfl) rfl rfl (by simp only [List.map_toArray, List.map_cons, List.map_nil, Act.eval, Array.getD_eq_getD_getElem?, e32, Option.getD_some]) ?_
          refine (wharfageref19_dec.calls 40 _ _ _ (dec_t HA.out.n1 40 (by omega))).mono ?_
          rintro e_ w'' ⟨rfl, hb⟩
          exact ⟨_, rfl, hK.out _ _ ⟨(by rw [ha.out]; exact putSel_upk 7 hb_ rfl rfl rfl), below_step QB hb⟩⟩
        refine steps_cons ?_ ?_
        · rintro b a w' ⟨ha, QB⟩ hb_ hon hoff
          refine ⟨_, rfl, fun K hK => ?_⟩
          have e30 : a.tmps[30]? = some (.string (Bs q1)) := by rw [ha]; exact putSel_on (e := (4, 30, .string (Bs q1))) 4 rfl rfl (hon 4 (by kernel_rfl)) rfl
          have e33 : a.tmps[33]? = some (.string (Bs (Pen.numT x.f1))) := by rw [ha]; exact putSel_on (e := (7, 33, .string (Bs (Pen.numT x.f1)))) 7 rfl rfl (hon 7 (by kernel_rfl)) rfl
          have hz_ := HZq2.out
          have hc_ := HCq2.out
          have hz2_ := hz_
          simp only [bsz] at hz2_
          replace ha := Aside0.mk ha
          refine value_ (w1 := w') (v := .string (Bs q2)) (by rfl) rfl ?_ ?_
          · go_simp
            try rfl
            try rw [hc_]
            try rfl
          exact hK.out _ _ ⟨(by rw [ha.out]; exact putSel_upk 8 hb_ rfl rfl rfl), QB⟩
        refine steps_cons ?_ ?_
        · rintro b a w' ⟨ha, QB⟩ hb_ hon hoff
          refine ⟨_, rfl, fun K hK => ?_⟩
          have e6 : a.tmps[6]? = some (.pointer (some ⟨gx, 0, none⟩)) := by rw [ha]; exact (putSel_off rfl).trans rfl
          replace ha := Aside0.mk ha
          refine value_ (w1 := w') (v := .pointer (some ⟨gx, 2, none⟩)) (by rfl) rfl ?_ ?_
          · go_simp
            try rfl
          exact hK.out _ _ ⟨(by rw [ha.out]; exact putSel_upk 9 hb_ rfl rfl rfl), QB⟩
        refine steps_cons ?_ ?_
        · rintro b a w' ⟨ha, QB⟩ hb_ hon hoff
          refine ⟨_, rfl, fun K hK => ?_⟩
          have e35 : a.tmps[35]? = some (.pointer (some ⟨gx, 2, none⟩)) := by rw [ha]; exact putSel_on (e := (9, 35, .pointer (some ⟨gx, 2, none⟩))) 9 rfl rfl (hon 9 (by kernel_rfl)) rfl
          have q_ : w'.cell? ⟨gx, 2, none⟩ = some (.int .i64 x.f2) := (blk_cell ((QB.block gx (blk_lt BX.out)).trans BX.out) 2).trans rfl
          replace ha := Aside0.mk ha
          refine value_ (w1 := w') (v := .int .i64 x.f2) (by rfl) rfl ?_ ?_
          · go_simp
            try rfl
          exact hK.out _ _ ⟨(by rw [ha.out]; exact putSel_upk 10 hb_ rfl rfl rfl), QB⟩
        refine steps_cons ?_ ?_
        · rintro b a w' ⟨ha, QB⟩ hb_ hon hoff
          refine ⟨_, rfl, fun K hK => ?_⟩
          have e36 : a.tmps[36]? = some (.int .i64 x.f2) := by rw [ha]; exact putSel_on (e := (10, 36, .int .i64 x.f2)) 10 rfl rfl (hon 10 (by kernel_rfl)) rfl
          replace ha := Aside0.mk ha
          refine goes_ Tryd.func22 (by kernel_rfl) rfl #[.int .i64 x.f2] (by rfl) rfl rfl (by simp only [List.map_toArray, List.map_cons, List.map_nil, Act.eval, Array.getD_eq_getD_getElem?, e36, Option.getD_some]) ?_
          refine (wharfageref19_dec.calls 40 _ _ _ (dec_t HA.out.n2 40 (by omega))).mono ?_
          rintro e_ w'' ⟨rfl, hb⟩
          exact ⟨_, rfl, hK.out _ _ ⟨(by rw [ha.out]; exact putSel_upk 11 hb_ rfl rfl rfl), below_step QB hb⟩⟩
        refine steps_cons ?_ ?_
        · rintro b a w' ⟨ha, QB⟩ hb_ hon hoff
          refine ⟨_, rfl, fun K hK => ?_⟩
          have e34 : a.tmps[34]? = some (.string (Bs q2)) := by rw [ha]; exact putSel_on (e := (8, 34, .string (Bs q2))) 8 rfl rfl (hon 8 (by kernel_rfl)) rfl
          have e37 : a.tmps[37]? = some (.string (Bs (Pen.numT x.f2))) := by rw [ha]; exact putSel_on (e := (11, 37, .string (Bs (Pen.numT x.f2)))) 11 rfl rfl (hon 11 (by kernel_rfl)) rfl
          have hz_ := HZq3.out
          have hc_ := HCq3.out
          have hz2_ := hz_
          simp only [bsz] at hz2_
          replace ha := Aside0.mk ha
          refine value_ (w1 := w') (v := .string (Bs q3)) (by rfl) rfl ?_ ?_
          · go_simp
            try rfl
            try rw [hc_]
            try rfl
          exact hK.out _ _ ⟨(by rw [ha.out]; exact putSel_upk 12 hb_ rfl rfl rfl), QB⟩
        refine steps_cons ?_ ?_
        · rintro b a w' ⟨ha, QB⟩ hb_ hon hoff
          refine ⟨_, rfl, fun K hK => ?_⟩
          have e6 : a.tmps[6]? = some (.pointer (some ⟨gx, 0, none⟩)) := by rw [ha]; exact (putSel_off rfl).trans rfl
          replace ha := Aside0.mk ha
          refine value_ (w1 := w') (v := .pointer (some ⟨gx, 3, none⟩)) (by rfl) rfl ?_ ?_
          · go_simp
            try rfl
          exact hK.out _ _ ⟨(by rw [ha.out]; exact putSel_upk 13 hb_ rfl rfl rfl), QB⟩
        refine steps_cons ?_ ?_
        · rintro b a w' ⟨ha, QB⟩ hb_ hon hoff
          refine ⟨_, rfl, fun K hK => ?_⟩
          have e39 : a.tmps[39]? = some (.pointer (some ⟨gx, 3, none⟩)) := by rw [ha]; exact putSel_on (e := (13, 39, .pointer (some ⟨gx, 3, none⟩))) 13 rfl rfl (hon 13 (by kernel_rfl)) rfl
          have q_ : w'.cell? ⟨gx, 3, none⟩ = some (.int .i64 x.f3) := (blk_cell ((QB.block gx (blk_lt BX.out)).trans BX.out) 3).trans rfl
          replace ha := Aside0.mk ha
          refine value_ (w1 := w') (v := .int .i64 x.f3) (by rfl) rfl ?_ ?_
          · go_simp
            try rfl
          exact hK.out _ _ ⟨(by rw [ha.out]; exact putSel_upk 14 hb_ rfl rfl rfl), QB⟩
        refine steps_cons ?_ ?_
        · rintro b a w' ⟨ha, QB⟩ hb_ hon hoff
          refine ⟨_, rfl, fun K hK => ?_⟩
          have e40 : a.tmps[40]? = some (.int .i64 x.f3) := by rw [ha]; exact putSel_on (e := (14, 40, .int .i64 x.f3)) 14 rfl rfl (hon 14 (by kernel_rfl)) rfl
          replace ha := Aside0.mk ha
          refine goes_ Tryd.func22 (by kernel_rfl) rfl #[.int .i64 x.f3] (by rfl) rfl rfl (by simp only [List.map_toArray, List.map_cons, List.map_nil, Act.eval, Array.getD_eq_getD_getElem?, e40, Option.getD_some]) ?_
          refine (wharfageref19_dec.calls 40 _ _ _ (dec_t HA.out.n3 40 (by omega))).mono ?_
          rintro e_ w'' ⟨rfl, hb⟩
          exact ⟨_, rfl, hK.out _ _ ⟨(by rw [ha.out]; exact putSel_upk 15 hb_ rfl rfl rfl), below_step QB hb⟩⟩
        refine steps_cons ?_ ?_
        · rintro b a w' ⟨ha, QB⟩ hb_ hon hoff
          refine ⟨_, rfl, fun K hK => ?_⟩
          have e38 : a.tmps[38]? = some (.string (Bs q3)) := by rw [ha]; exact putSel_on (e := (12, 38, .string (Bs q3))) 12 rfl rfl (hon 12 (by kernel_rfl)) rfl
          have e41 : a.tmps[41]? = some (.string (Bs (Pen.numT x.f3))) := by rw [ha]; exact putSel_on (e := (15, 41, .string (Bs (Pen.numT x.f3)))) 15 rfl rfl (hon 15 (by kernel_rfl)) rfl
          have hz_ := HZq4.out
          have hc_ := HCq4.out
          have hz2_ := hz_
          simp only [bsz] at hz2_
          replace ha := Aside0.mk ha
          refine value_ (w1 := w') (v := .string (Bs q4)) (by rfl) rfl ?_ ?_
          · go_simp
            try rfl
            try rw [hc_]
            try rfl
          exact hK.out _ _ ⟨(by rw [ha.out]; exact putSel_upk 16 hb_ rfl rfl rfl), QB⟩
        refine steps_cons ?_ ?_
        · rintro b a w' ⟨ha, QB⟩ hb_ hon hoff
          refine ⟨_, rfl, fun K hK => ?_⟩
          have e6 : a.tmps[6]? = some (.pointer (some ⟨gx, 0, none⟩)) := by rw [ha]; exact (putSel_off rfl).trans rfl
          replace ha := Aside0.mk ha
          refine value_ (w1 := w') (v := .pointer (some ⟨gx, 4, none⟩)) (by rfl) rfl ?_ ?_
          · go_simp
            try rfl
          exact hK.out _ _ ⟨(by rw [ha.out]; exact putSel_upk 17 hb_ rfl rfl rfl), QB⟩
        refine steps_cons ?_ ?_
        · rintro b a w' ⟨ha, QB⟩ hb_ hon hoff
          refine ⟨_, rfl, fun K hK => ?_⟩
          have e43 : a.tmps[43]? = some (.pointer (some ⟨gx, 4, none⟩)) := by rw [ha]; exact putSel_on (e := (17, 43, .pointer (some ⟨gx, 4, none⟩))) 17 rfl rfl (hon 17 (by kernel_rfl)) rfl
          have q_ : w'.cell? ⟨gx, 4, none⟩ = some (.int .i64 x.f4) := (blk_cell ((QB.block gx (blk_lt BX.out)).trans BX.out) 4).trans rfl
          replace ha := Aside0.mk ha
          refine value_ (w1 := w') (v := .int .i64 x.f4) (by rfl) rfl ?_ ?_
          · go_simp
            try rfl
          exact hK.out _ _ ⟨(by rw [ha.out]; exact putSel_upk 18 hb_ rfl rfl rfl), QB⟩
        refine steps_cons ?_ ?_
        · rintro b a w' ⟨ha, QB⟩ hb_ hon hoff
          refine ⟨_, rfl, fun K hK => ?_⟩
          have e44 : a.tmps[44]? = some (.int .i64 x.f4) := by rw [ha]; exact putSel_on (e := (18, 44, .int .i64 x.f4)) 18 rfl rfl (hon 18 (by kernel_rfl)) rfl
          replace ha := Aside0.mk ha
          refine goes_ Tryd.func22 (by kernel_rfl) rfl #[.int .i64 x.f4] (by rfl) rfl rfl (by simp only [List.map_toArray, List.map_cons, List.map_nil, Act.eval, Array.getD_eq_getD_getElem?, e44, Option.getD_some]) ?_
          refine (wharfageref19_dec.calls 40 _ _ _ (dec_t HA.out.n4 40 (by omega))).mono ?_
          rintro e_ w'' ⟨rfl, hb⟩
          exact ⟨_, rfl, hK.out _ _ ⟨(by rw [ha.out]; exact putSel_upk 19 hb_ rfl rfl rfl), below_step QB hb⟩⟩
        refine steps_cons ?_ ?_
        · rintro b a w' ⟨ha, QB⟩ hb_ hon hoff
          refine ⟨_, rfl, fun K hK => ?_⟩
          have e42 : a.tmps[42]? = some (.string (Bs q4)) := by rw [ha]; exact putSel_on (e := (16, 42, .string (Bs q4))) 16 rfl rfl (hon 16 (by kernel_rfl)) rfl
          have e45 : a.tmps[45]? = some (.string (Bs (Pen.numT x.f4))) := by rw [ha]; exact putSel_on (e := (19, 45, .string (Bs (Pen.numT x.f4)))) 19 rfl rfl (hon 19 (by kernel_rfl)) rfl
          have hz_ := HZq5.out
          have hc_ := HCq5.out
          have hz2_ := hz_
          simp only [bsz] at hz2_
          replace ha := Aside0.mk ha
          refine value_ (w1 := w') (v := .string (Bs q5)) (by rfl) rfl ?_ ?_
          · go_simp
            try rfl
            try rw [hc_]
            try rfl
          exact hK.out _ _ ⟨(by rw [ha.out]; exact putSel_upk 20 hb_ rfl rfl rfl), QB⟩
        refine steps_cons ?_ ?_
        · rintro b a w' ⟨ha, QB⟩ hb_ hon hoff
          refine ⟨_, rfl, fun K hK => ?_⟩
          have e6 : a.tmps[6]? = some (.pointer (some ⟨gx, 0, none⟩)) := by rw [ha]; exact (putSel_off rfl).trans rfl
          replace ha := Aside0.mk ha
          refine value_ (w1 := w') (v := .pointer (some ⟨gx, 5, none⟩)) (by rfl) rfl ?_ ?_
          · go_simp
            try rfl
          exact hK.out _ _ ⟨(by rw [ha.out]; exact putSel_upk 21 hb_ rfl rfl rfl), QB⟩
        refine steps_cons ?_ ?_
        · rintro b a w' ⟨ha, QB⟩ hb_ hon hoff
          refine ⟨_, rfl, fun K hK => ?_⟩
          have e47 : a.tmps[47]? = some (.pointer (some ⟨gx, 5, none⟩)) := by rw [ha]; exact putSel_on (e := (21, 47, .pointer (some ⟨gx, 5, none⟩))) 21 rfl rfl (hon 21 (by kernel_rfl)) rfl
          have q_ : w'.cell? ⟨gx, 5, none⟩ = some (.int .i64 x.f5) := (blk_cell ((QB.block gx (blk_lt BX.out)).trans BX.out) 5).trans rfl
          replace ha := Aside0.mk ha
          refine value_ (w1 := w') (v := .int .i64 x.f5) (by rfl) rfl ?_ ?_
          · go_simp
            try rfl
          exact hK.out _ _ ⟨(by rw [ha.out]; exact putSel_upk 22 hb_ rfl rfl rfl), QB⟩
        refine steps_cons ?_ ?_
        · rintro b a w' ⟨ha, QB⟩ hb_ hon hoff
          refine ⟨_, rfl, fun K hK => ?_⟩
          have e48 : a.tmps[48]? = some (.int .i64 x.f5) := by rw [ha]; exact putSel_on (e := (22, 48, .int .i64 x.f5)) 22 rfl rfl (hon 22 (by kernel_rfl)) rfl
          replace ha := Aside0.mk ha
          refine goes_ Tryd.func22 (by kernel_rfl) rfl #[.int .i64 x.f5] (by rfl) rfl rfl (by simp only [List.map_toArray, List.map_cons, List.map_nil, Act.eval, Array.getD_eq_getD_getElem?, e48, Option.getD_some]) ?_
          refine (wharfageref19_dec.calls 40 _ _ _ (dec_t HA.out.n5 40 (by omega))).mono ?_
          rintro e_ w'' ⟨rfl, hb⟩
          exact ⟨_, rfl, hK.out _ _ ⟨(by rw [ha.out]; exact putSel_upk 23 hb_ rfl rfl rfl), below_step QB hb⟩⟩
        refine steps_cons ?_ ?_
        · rintro b a w' ⟨ha, QB⟩ hb_ hon hoff
          refine ⟨_, rfl, fun K hK => ?_⟩
          have e46 : a.tmps[46]? = some (.string (Bs q5)) := by rw [ha]; exact putSel_on (e := (20, 46, .string (Bs q5))) 20 rfl rfl (hon 20 (by kernel_rfl)) rfl
          have e49 : a.tmps[49]? = some (.string (Bs (Pen.numT x.f5))) := by rw [ha]; exact putSel_on (e := (23, 49, .string (Bs (Pen.numT x.f5)))) 23 rfl rfl (hon 23 (by kernel_rfl)) rfl
          have hz_ := HZq6.out
          have hc_ := HCq6.out
          have hz2_ := hz_
          simp only [bsz] at hz2_
          replace ha := Aside0.mk ha
          refine value_ (w1 := w') (v := .string (Bs q6)) (by rfl) rfl ?_ ?_
          · go_simp
            try rfl
            try rw [hc_]
            try rfl
          exact hK.out _ _ ⟨(by rw [ha.out]; exact putSel_upk 24 hb_ rfl rfl rfl), QB⟩
        refine steps_cons ?_ ?_
        · rintro b a w' ⟨ha, QB⟩ hb_ hon hoff
          refine ⟨_, rfl, fun K hK => ?_⟩
          have e6 : a.tmps[6]? = some (.pointer (some ⟨gx, 0, none⟩)) := by rw [ha]; exact (putSel_off rfl).trans rfl
          replace ha := Aside0.mk ha
          refine value_ (w1 := w') (v := .pointer (some ⟨gx, 6, none⟩)) (by rfl) rfl ?_ ?_
          · go_simp
            try rfl
          exact hK.out _ _ ⟨(by rw [ha.out]; exact putSel_upk 25 hb_ rfl rfl rfl), QB⟩
        refine steps_cons ?_ ?_
        · rintro b a w' ⟨ha, QB⟩ hb_ hon hoff
          refine ⟨_, rfl, fun K hK => ?_⟩
          have e51 : a.tmps[51]? = some (.pointer (some ⟨gx, 6, none⟩)) := by rw [ha]; exact putSel_on (e := (25, 51, .pointer (some ⟨gx, 6, none⟩))) 25 rfl rfl (hon 25 (by kernel_rfl)) rfl
          have q_ : w'.cell? ⟨gx, 6, none⟩ = some (.bool x.f6) := (blk_cell ((QB.block gx (blk_lt BX.out)).trans BX.out) 6).trans rfl
          replace ha := Aside0.mk ha
          refine value_ (w1 := w') (v := .bool x.f6) (by rfl) rfl ?_ ?_
          · go_simp
            try rfl
          exact hK.out _ _ ⟨(by rw [ha.out]; exact putSel_upk 26 hb_ rfl rfl rfl), QB⟩
        refine steps_cons ?_ ?_
        · rintro b a w' ⟨ha, QB⟩ hb_ hon hoff
          refine ⟨_, rfl, fun K hK => ?_⟩
          have e52 : a.tmps[52]? = some (.bool x.f6) := by rw [ha]; exact putSel_on (e := (26, 52, .bool x.f6)) 26 rfl rfl (hon 26 (by kernel_rfl)) rfl
          replace ha := Aside0.mk ha
          refine goes_ Tryd.func23 (by kernel_rfl) rfl #[.bool x.f6, .string ⟨#[103]⟩, .string ⟨#[98]⟩] (by rfl) rfl rfl (by simp only [List.map_toArray, List.map_cons, List.map_nil, Act.eval, Array.getD_eq_getD_getElem?, e52, Option.getD_some]) ?_
          refine (wharfageref19_letter.calls x.f6 (Bs [103]) (Bs [98]) (Bs t6) _ (by rw [Tt6.out]; exact let_t _ _ _)).mono ?_
          rintro e_ w'' ⟨rfl, hb⟩
          exact ⟨_, rfl, hK.out _ _ ⟨(by rw [ha.out]; exact putSel_upk 27 hb_ rfl rfl rfl), below_step QB hb.below⟩⟩
        refine steps_cons ?_ ?_
        · rintro b a w' ⟨ha, QB⟩ hb_ hon hoff
          refine ⟨_, rfl, fun K hK => ?_⟩
          have e50 : a.tmps[50]? = some (.string (Bs q6)) := by rw [ha]; exact putSel_on (e := (24, 50, .string (Bs q6))) 24 rfl rfl (hon 24 (by kernel_rfl)) rfl
          have e53 : a.tmps[53]? = some (.string (Bs (t6))) := by rw [ha]; exact putSel_on (e := (27, 53, .string (Bs (t6)))) 27 rfl rfl (hon 27 (by kernel_rfl)) rfl
          have hz_ := HZq7.out
          have hc_ := HCq7.out
          have hz2_ := hz_
          simp only [bsz] at hz2_
          replace ha := Aside0.mk ha
          refine value_ (w1 := w') (v := .string (Bs q7)) (by rfl) rfl ?_ ?_
          · go_simp
            try rfl
            try rw [hc_]
            try rfl
          exact hK.out _ _ ⟨(by rw [ha.out]; exact putSel_upk 28 hb_ rfl rfl rfl), QB⟩
        refine steps_cons ?_ ?_
        · rintro b a w' ⟨ha, QB⟩ hb_ hon hoff
          refine ⟨_, rfl, fun K hK => ?_⟩
          have e6 : a.tmps[6]? = some (.pointer (some ⟨gx, 0, none⟩)) := by rw [ha]; exact (putSel_off rfl).trans rfl
          replace ha := Aside0.mk ha
          refine value_ (w1 := w') (v := .pointer (some ⟨gx, 7, none⟩)) (by rfl) rfl ?_ ?_
          · go_simp
            try rfl
          exact hK.out _ _ ⟨(by rw [ha.out]; exact putSel_upk 29 hb_ rfl rfl rfl), QB⟩
        refine steps_cons ?_ ?_
        · rintro b a w' ⟨ha, QB⟩ hb_ hon hoff
          refine ⟨_, rfl, fun K hK => ?_⟩
          have e55 : a.tmps[55]? = some (.pointer (some ⟨gx, 7, none⟩)) := by rw [ha]; exact putSel_on (e := (29, 55, .pointer (some ⟨gx, 7, none⟩))) 29 rfl rfl (hon 29 (by kernel_rfl)) rfl
          have q_ : w'.cell? ⟨gx, 7, none⟩ = some (.string x.f7) := (blk_cell ((QB.block gx (blk_lt BX.out)).trans BX.out) 7).trans rfl
          replace ha := Aside0.mk ha
          refine value_ (w1 := w') (v := .string x.f7) (by rfl) rfl ?_ ?_
          · go_simp
            try rfl
          exact hK.out _ _ ⟨(by rw [ha.out]; exact putSel_upk 30 hb_ rfl rfl rfl), QB⟩
        refine steps_cons ?_ ?_
        · rintro b a w' ⟨ha, QB⟩ hb_ hon hoff
          refine ⟨_, rfl, fun K hK => ?_⟩
          have e56 : a.tmps[56]? = some (.string x.f7) := by rw [ha]; exact putSel_on (e := (30, 56, .string x.f7)) 30 rfl rfl (hon 30 (by kernel_rfl)) rfl
          replace ha := Aside0.mk ha
          refine value_ (w1 := w') (v := .int .i64 (x.f7.size : Int)) (by rfl) rfl ?_ ?_
          · go_simp
            try rfl
          exact hK.out _ _ ⟨(by rw [ha.out]; exact putSel_upk 31 hb_ rfl rfl rfl), QB⟩
        refine steps_cons ?_ ?_
        · rintro b a w' ⟨ha, QB⟩ hb_ hon hoff
          refine ⟨_, rfl, fun K hK => ?_⟩
          have e57 : a.tmps[57]? = some (.int .i64 (x.f7.size : Int)) := by rw [ha]; exact putSel_on (e := (31, 57, .int .i64 (x.f7.size : Int))) 31 rfl rfl (hon 31 (by kernel_rfl)) rfl
          replace ha := Aside0.mk ha
          refine goes_ Tryd.func24 (by kernel_rfl) rfl #[.int .i64 (x.f7.size : Int)] (by rfl) rfl rfl (by simp only [List.map_toArray, List.map_cons, List.map_nil, Act.eval, Array.getD_eq_getD_getElem?, e57, Option.getD_some]) ?_
          refine (wharfageref0_Decimal.calls 40 _ _ _ (dec_b (Take.sm_len (show x.f7.size ≤ 1000 by have := HA.out.t; omega)) 40 (by omega))).mono ?_
          rintro e_ w'' ⟨rfl, hb⟩
          exact ⟨_, rfl, hK.out _ _ ⟨(by rw [ha.out]; exact putSel_upk 32 hb_ rfl rfl rfl), below_step QB hb⟩⟩
        refine steps_cons ?_ ?_
        · rintro b a w' ⟨ha, QB⟩ hb_ hon hoff
          refine ⟨_, rfl, fun K hK => ?_⟩
          have e54 : a.tmps[54]? = some (.string (Bs q7)) := by rw [ha]; exact putSel_on (e := (28, 54, .string (Bs q7))) 28 rfl rfl (hon 28 (by kernel_rfl)) rfl
          have e58 : a.tmps[58]? = some (.string (Bs (Lib.itoa (x.f7.size : Int)))) := by rw [ha]; exact putSel_on (e := (32, 58, .string (Bs (Lib.itoa (x.f7.size : Int))))) 32 rfl rfl (hon 32 (by kernel_rfl)) rfl
          have hz_ := HZq8.out
          have hc_ := HCq8.out
          have hz2_ := hz_
          simp only [bsz] at hz2_
          replace ha := Aside0.mk ha
          refine value_ (w1 := w') (v := .string (Bs q8)) (by rfl) rfl ?_ ?_
          · go_simp
            try rfl
            try rw [hc_]
            try rfl
          exact hK.out _ _ ⟨(by rw [ha.out]; exact putSel_upk 33 hb_ rfl rfl rfl), QB⟩
        refine steps_cons ?_ ?_
        · rintro b a w' ⟨ha, QB⟩ hb_ hon hoff
          refine ⟨_, rfl, fun K hK => ?_⟩
          have e59 : a.tmps[59]? = some (.string (Bs q8)) := by rw [ha]; exact putSel_on (e := (33, 59, .string (Bs q8))) 33 rfl rfl (hon 33 (by kernel_rfl)) rfl
          have hz_ := HZq9.out
          have hc_ := HCq9.out
          have hk_ : (⟨#[58]⟩ : ByteArray) = Bs [58] := rfl
          have hz2_ := hz_
          simp only [bsz] at hz2_
          replace ha := Aside0.mk ha
          refine value_ (w1 := w') (v := .string (Bs q9)) (by rfl) rfl ?_ ?_
          · go_simp
            try rfl
            try rw [hc_]
            try rfl
          exact hK.out _ _ ⟨(by rw [ha.out]; exact putSel_upk 34 hb_ rfl rfl rfl), QB⟩
        refine steps_cons ?_ ?_
        · rintro b a w' ⟨ha, QB⟩ hb_ hon hoff
          refine ⟨_, rfl, fun K hK => ?_⟩
          have e6 : a.tmps[6]? = some (.pointer (some ⟨gx, 0, none⟩)) := by rw [ha]; exact (putSel_off rfl).trans rfl
          replace ha := Aside0.mk ha
          refine value_ (w1 := w') (v := .pointer (some ⟨gx, 7, none⟩)) (by rfl) rfl ?_ ?_
          · go_simp
            try rfl
          exact hK.out _ _ ⟨(by rw [ha.out]; exact putSel_upk 35 hb_ rfl rfl rfl), QB⟩
        refine steps_cons ?_ ?_
        · rintro b a w' ⟨ha, QB⟩ hb_ hon hoff
          refine ⟨_, rfl, fun K hK => ?_⟩
          have e61 : a.tmps[61]? = some (.pointer (some ⟨gx, 7, none⟩)) := by rw [ha]; exact putSel_on (e := (35, 61, .pointer (some ⟨gx, 7, none⟩))) 35 rfl rfl (hon 35 (by kernel_rfl)) rfl
          have q_ : w'.cell? ⟨gx, 7, none⟩ = some (.string x.f7) := (blk_cell ((QB.block gx (blk_lt BX.out)).trans BX.out) 7).trans rfl
          replace ha := Aside0.mk ha
          refine value_ (w1 := w') (v := .string x.f7) (by rfl) rfl ?_ ?_
          · go_simp
            try rfl
          exact hK.out _ _ ⟨(by rw [ha.out]; exact putSel_upk 36 hb_ rfl rfl rfl), QB⟩
        refine steps_cons ?_ ?_
        · rintro b a w' ⟨ha, QB⟩ hb_ hon hoff
          refine ⟨_, rfl, fun K hK => ?_⟩
          have e60 : a.tmps[60]? = some (.string (Bs q9)) := by rw [ha]; exact putSel_on (e := (34, 60, .string (Bs q9))) 34 rfl rfl (hon 34 (by kernel_rfl)) rfl
          have e62 : a.tmps[62]? = some (.string x.f7) := by rw [ha]; exact putSel_on (e := (36, 62, .string x.f7)) 36 rfl rfl (hon 36 (by kernel_rfl)) rfl
          have hz_ := HZq10.out
          have hc_ := HCq10.out
          have hk_ : Bs x.f7.data.toList = x.f7 := wharfageref19_ShowActs.bself_ _
          rw [hk_] at hz_ hc_
          have hz2_ := hz_
          simp only [bsz] at hz2_
          replace ha := Aside0.mk ha
          refine value_ (w1 := w') (v := .string (Bs q10)) (by rfl) rfl ?_ ?_
          · go_simp
            try rfl
            try rw [hc_]
            try rfl
          exact hK.out _ _ ⟨(by rw [ha.out]; exact putSel_upk 37 hb_ rfl rfl rfl), QB⟩
        refine steps_cons ?_ ?_
        · rintro b a w' ⟨ha, QB⟩ hb_ hon hoff
          refine ⟨_, rfl, fun K hK => ?_⟩
          have e63 : a.tmps[63]? = some (.string (Bs q10)) := by rw [ha]; exact putSel_on (e := (37, 63, .string (Bs q10))) 37 rfl rfl (hon 37 (by kernel_rfl)) rfl
          replace ha := Aside0.mk ha
          refine value_ (w1 := w') (v := .string (Bs q10)) (by rfl) rfl ?_ ?_
          · go_simp
            try rfl
          exact hK.out _ _ ⟨(by rw [ha.out]; exact putSel_upk 38 hb_ rfl rfl rfl), QB⟩
        exact steps_nil
      rintro b a w6 hall ⟨ha, QB⟩
      have hb0_ := hall 0 (by kernel_rfl)
      have hb1_ := hall 1 (by kernel_rfl)
      have hb2_ := hall 2 (by kernel_rfl)
      have hb3_ := hall 3 (by kernel_rfl)
      have hb4_ := hall 4 (by kernel_rfl)
      have hb5_ := hall 5 (by kernel_rfl)
      have hb6_ := hall 6 (by kernel_rfl)
      have hb7_ := hall 7 (by kernel_rfl)
      have hb8_ := hall 8 (by kernel_rfl)
      have hb9_ := hall 9 (by kernel_rfl)
      have hb10_ := hall 10 (by kernel_rfl)
      have hb11_ := hall 11 (by kernel_rfl)
      have hb12_ := hall 12 (by kernel_rfl)
      have hb13_ := hall 13 (by kernel_rfl)
      have hb14_ := hall 14 (by kernel_rfl)
      have hb15_ := hall 15 (by kernel_rfl)
      have hb16_ := hall 16 (by kernel_rfl)
      have hb17_ := hall 17 (by kernel_rfl)
      have hb18_ := hall 18 (by kernel_rfl)
      have hb19_ := hall 19 (by kernel_rfl)
      have hb20_ := hall 20 (by kernel_rfl)
      have hb21_ := hall 21 (by kernel_rfl)
      have hb22_ := hall 22 (by kernel_rfl)
      have hb23_ := hall 23 (by kernel_rfl)
      have hb24_ := hall 24 (by kernel_rfl)
      have hb25_ := hall 25 (by kernel_rfl)
      have hb26_ := hall 26 (by kernel_rfl)
      have hb27_ := hall 27 (by kernel_rfl)
      have hb28_ := hall 28 (by kernel_rfl)
      have hb29_ := hall 29 (by kernel_rfl)
      have hb30_ := hall 30 (by kernel_rfl)
      have hb31_ := hall 31 (by kernel_rfl)
      have hb32_ := hall 32 (by kernel_rfl)
      have hb33_ := hall 33 (by kernel_rfl)
      have hb34_ := hall 34 (by kernel_rfl)
      have hb35_ := hall 35 (by kernel_rfl)
      have hb36_ := hall 36 (by kernel_rfl)
      have hb37_ := hall 37 (by kernel_rfl)
      have hb38_ := hall 38 (by kernel_rfl)
      subst ha
      simp only [putSel, hb0_, hb1_, hb2_, hb3_, hb4_, hb5_, hb6_, hb7_, hb8_, hb9_, hb10_, hb11_, hb12_, hb13_, hb14_, hb15_, hb16_, hb17_, hb18_, hb19_, hb20_, hb21_, hb22_, hb23_, hb24_, hb25_, hb26_, hb27_, hb28_, hb29_, hb30_, hb31_, hb32_, hb33_, hb34_, hb35_, hb36_, hb37_, hb38_, if_true, Act.put, List.setIfInBounds_toArray, List.set_cons_zero, List.set_cons_succ]
      replace HBW := Aside0.mk (below_step HBW.out QB)
      replace HIX := Aside0.mk (Kd.C_below HIX.out QB)
      replace BX := Aside0.mk ((QB.block gx (blk_lt BX.out)).trans BX.out)
      have hq := HEq10.out
      rw [HEq9.out, HEq8.out, HEq7.out, HEq6.out, HEq5.out, HEq4.out, HEq3.out, HEq2.out, HEq1.out] at hq
      have lq : q10.length ≤ acc.length + 700 := by rw [hq]; simp only [List.length_append, List.length_singleton]; omega
      have hq2 : q10 = acc ++ (Pen.numsT [x.f0, x.f1, x.f2, x.f3, x.f4, x.f5] ++ [if x.f6 = true then (103 : UInt8) else 98] ++ (Lib.itoa (x.f7.size : Int) ++ [58] ++ x.f7.data.toList)) := by rw [hq, Tt6.out]; unfold Pen.numsT; simp
      have LQ := Aside0.mk lq
      have HQ := Aside0.mk hq2
      clear hq hq2 lq QB n0 n1 n2 n3 n4 n5 ht hz7 hi7 hb7 lq10 HCq1 HZq1 HEq1 HCq2 HZq2 HEq2 HCq3 HZq3 HEq3 HCq4 HZq4 HEq4 HCq5 HZq5 HEq5 HCq6 HZq6 HEq6 HCq7 HZq7 HEq7 HCq8 HZq8 HEq8 HCq9 HZq9 HEq9 HCq10 HZq10 HEq10
      have y0_ : w6.cell? ⟨gx, 0, none⟩ = some (.int .i64 x.f0) := (blk_cell BX.out 0).trans rfl
      by_cases j9 : x.f0 = 9
      case neg =>
        have e9a : (x.f0 == 9) = false := beq_eq_false_iff_ne.2 j9
        have e9b : (x.f0 != 9) = true := bne_iff_ne.2 j9
        have e9c : decide (x.f0 = 9) = false := decide_eq_false j9
        have hs3 : showW (l.drop (i + 1)) q10 = some (r1, r2) := by
          rw [← HS2.out, HQ.out]
          congr 1
          unfold Pen.actT
          rw [if_neg j9, List.append_nil]
        have HS3 := Aside0.mk hs3
        have L9 := Aside0.mk (show q10.length ≤ 1400 * (i + 1) by have := LQ.out; omega)
        clear hs3 j9
        go_wp2_with fail
        go_roundg k1
        case measure => have := HX.out; omega
        case rel =>
          have h1 := HX.out
          exact ⟨i + 1, q10, rfl, by first | rfl | rw [show wrap64 ((i : Int) + 1) = ((i + 1 : Nat) : Int) by unfold wrap64; omega], ⟨by omega, by omega, L9.out⟩, ⟨HS3.out⟩, HBW⟩
      case pos =>
        have e9a : (x.f0 == 9) = true := beq_iff_eq.2 j9
        have e9b : (x.f0 != 9) = false := bne_eq_false_iff_eq.2 j9
        have e9c : decide (x.f0 = 9) = true := decide_eq_true j9
        have J9 := Aside0.mk j9
        have nv := numT_le HA.out.v
        have hns := HA.out.n
        have hzs := Take.sm_len (show x.f8.f1.length ≤ 1000 by omega)
        have nn := numT_le hzs
        have lq := LQ.out
        clear j9
        go_upto_region 12 with fail
        clear y0_ e9a e9b e9c
        obtain ⟨zz1, hzz1⟩ : ∃ q, q = q10 ++ Pen.numT x.f8.f0 := ⟨_, rfl⟩
        have lzz1 : zz1.length ≤ q10.length + 11 := by rw [hzz1, List.length_append]; first | omega | (simp only [List.length_singleton]; omega)
        have HCzz1 := Aside0.mk (show Bs q10 ++ Bs (Pen.numT x.f8.f0) = Bs zz1 by rw [hzz1]; exact bcat _ _)
        have HZzz1 := Aside0.mk (len_ok q10 (Pen.numT x.f8.f0) (by first | omega | (simp only [List.length_singleton]; omega)))
        obtain ⟨zz2, hzz2⟩ : ∃ q, q = zz1 ++ Pen.numT (x.f8.f1.length : Int) := ⟨_, rfl⟩
        have lzz2 : zz2.length ≤ zz1.length + 11 := by rw [hzz2, List.length_append]; first | omega | (simp only [List.length_singleton]; omega)
        have HCzz2 := Aside0.mk (show Bs zz1 ++ Bs (Pen.numT (x.f8.f1.length : Int)) = Bs zz2 by rw [hzz2]; exact bcat _ _)
        have HZzz2 := Aside0.mk (len_ok zz1 (Pen.numT (x.f8.f1.length : Int)) (by first | omega | (simp only [List.length_singleton]; omega)))
        have HEzz1 := Aside0.mk hzz1
        have HEzz2 := Aside0.mk hzz2
        clear hzz1 hzz2
        clear lzz1
        refine start_ (n := 13) (S := fun w' => True) (ds := []) #[false, false, false, false, false, false, false, false, false, false, false, false, false] (by kernel_rfl) rfl rfl trivial (fun hHeld => ?_); refine with_tabW wharfageref19_ShowActs.tab12 wharfageref19_ShowActs.bits12 (fun HT_ HW_ => ?_)
        refine inv_at [0, 1, 2, 3, 4, 5, 6, 7, 8, 9, 10, 11, 12] (fun a0_ b a w' => a = putSel a0_ b [(0, 67, .string (Bs q10)), (1, 68, .pointer (some ⟨gx, 8, none⟩)), (2, 69, .pointer (some ⟨gx, 8, none⟩)), (3, 70, .int .i64 x.f8.f0), (4, 71, .string (Bs (Pen.numT x.f8.f0))), (5, 72, .string (Bs zz1)), (6, 73, .pointer (some ⟨gx, 8, none⟩)), (7, 74, .pointer (some ⟨gx, 9, none⟩)), (8, 75, .slice A9 x.f8.f1.length c9), (9, 76, .int .i64 (x.f8.f1.length : Int)), (10, 77, .string (Bs (Pen.numT (x.f8.f1.length : Int)))), (11, 78, .string (Bs zz2)), (12, 4, .string (Bs zz2))] ∧ Below w6.heap.size w6 w') HT_.out HW_.out (by kernel_rfl) (by kernel_rfl) ?_ ?_ ?_
        · exact ⟨by simp only [putSel, Bool.false_eq_true, if_false], below_drew1 (Below.refl _ _)⟩
        · skip
          refine steps_cons ?_ ?_
          · rintro b a w' ⟨ha, QB⟩ hb_ hon hoff
            refine ⟨_, rfl, fun K hK => ?_⟩
            have e4 : a.tmps[4]? = some (.string (Bs q10)) := by rw [ha]; exact (putSel_not (hoff 12 (by kernel_rfl)) rfl).trans rfl
            replace ha := Aside0.mk ha
            refine value_ (w1 := w') (v := .string (Bs q10)) (by rfl) rfl ?_ ?_
            · go_simp
              try rfl
            exact hK.out _ _ ⟨(by rw [ha.out]; exact putSel_upk 0 hb_ rfl rfl rfl), QB⟩
          refine steps_cons ?_ ?_
          · rintro b a w' ⟨ha, QB⟩ hb_ hon hoff
            refine ⟨_, rfl, fun K hK => ?_⟩
            have e6 : a.tmps[6]? = some (.pointer (some ⟨gx, 0, none⟩)) := by rw [ha]; exact (putSel_off rfl).trans rfl
            replace ha := Aside0.mk ha
            refine value_ (w1 := w') (v := .pointer (some ⟨gx, 8, none⟩)) (by rfl) rfl ?_ ?_
            · go_simp
              try rfl
            exact hK.out _ _ ⟨(by rw [ha.out]; exact putSel_upk 1 hb_ rfl rfl rfl), QB⟩
          refine steps_cons ?_ ?_
          · rintro b a w' ⟨ha, QB⟩ hb_ hon hoff
            refine ⟨_, rfl, fun K hK => ?_⟩
            have e68 : a.tmps[68]? = some (.pointer (some ⟨gx, 8, none⟩)) := by rw [ha]; exact putSel_on (e := (1, 68, .pointer (some ⟨gx, 8, none⟩))) 1 rfl rfl (hon 1 (by kernel_rfl)) rfl
            replace ha := Aside0.mk ha
            refine value_ (w1 := w') (v := .pointer (some ⟨gx, 8, none⟩)) (by rfl) rfl ?_ ?_
            · go_simp
              try rfl
            exact hK.out _ _ ⟨(by rw [ha.out]; exact putSel_upk 2 hb_ rfl rfl rfl), QB⟩
          refine steps_cons ?_ ?_
          · rintro b a w' ⟨ha, QB⟩ hb_ hon hoff
            refine ⟨_, rfl, fun K hK => ?_⟩
            have e69 : a.tmps[69]? = some (.pointer (some ⟨gx, 8, none⟩)) := by rw [ha]; exact putSel_on (e := (2, 69, .pointer (some ⟨gx, 8, none⟩))) 2 rfl rfl (hon 2 (by kernel_rfl)) rfl
            have q_ : w'.cell? ⟨gx, 8, none⟩ = some (.int .i64 x.f8.f0) := (blk_cell ((QB.block gx (blk_lt BX.out)).trans BX.out) 8).trans rfl
            replace ha := Aside0.mk ha
            refine value_ (w1 := w') (v := .int .i64 x.f8.f0) (by rfl) rfl ?_ ?_
            · go_simp
              try rfl
            exact hK.out _ _ ⟨(by rw [ha.out]; exact putSel_upk 3 hb_ rfl rfl rfl), QB⟩
          refine steps_cons ?_ ?_
          · rintro b a w' ⟨ha, QB⟩ hb_ hon hoff
            refine ⟨_, rfl, fun K hK => ?_⟩
            have e70 : a.tmps[70]? = some (.int .i64 x.f8.f0) := by rw [ha]; exact putSel_on (e := (3, 70, .int .i64 x.f8.f0)) 3 rfl rfl (hon 3 (by kernel_rfl)) rfl
            replace ha := Aside0.mk ha
            refine goes_ Tryd.func22 (by kernel_rfl) rfl #[.int .i64 x.f8.f0] (by rfl) rfl rfl (by simp only [List.map_toArray, List.map_cons, List.map_nil, Act.eval, Array.getD_eq_getD_getElem?, e70, Option.getD_some]) ?_
            refine (wharfageref19_dec.calls 40 _ _ _ (dec_t HA.out.v 40 (by omega))).mono ?_
            rintro e_ w'' ⟨rfl, hb⟩
            exact ⟨_, rfl, hK.out _ _ ⟨(by rw [ha.out]; exact putSel_upk 4 hb_ rfl rfl rfl), below_step QB hb⟩⟩
          refine steps_cons ?_ ?_
          · rintro b a w' ⟨ha, QB⟩ hb_ hon hoff
            refine ⟨_, rfl, fun K hK => ?_⟩
            have e67 : a.tmps[67]? = some (.string (Bs q10)) := by rw [ha]; exact putSel_on (e := (0, 67, .string (Bs q10))) 0 rfl rfl (hon 0 (by kernel_rfl)) rfl
            have e71 : a.tmps[71]? = some (.string (Bs (Pen.numT x.f8.f0))) := by rw [ha]; exact putSel_on (e := (4, 71, .string (Bs (Pen.numT x.f8.f0)))) 4 rfl rfl (hon 4 (by kernel_rfl)) rfl
            have hz_ := HZzz1.out
            have hc_ := HCzz1.out
            have hz2_ := hz_
            simp only [bsz] at hz2_
            replace ha := Aside0.mk ha
            refine value_ (w1 := w') (v := .string (Bs zz1)) (by rfl) rfl ?_ ?_
            · go_simp
              try rfl
              try rw [hc_]
              try rfl
            exact hK.out _ _ ⟨(by rw [ha.out]; exact putSel_upk 5 hb_ rfl rfl rfl), QB⟩
          refine steps_cons ?_ ?_
          · rintro b a w' ⟨ha, QB⟩ hb_ hon hoff
            refine ⟨_, rfl, fun K hK => ?_⟩
            have e6 : a.tmps[6]? = some (.pointer (some ⟨gx, 0, none⟩)) := by rw [ha]; exact (putSel_off rfl).trans rfl
            replace ha := Aside0.mk ha
            refine value_ (w1 := w') (v := .pointer (some ⟨gx, 8, none⟩)) (by rfl) rfl ?_ ?_
            · go_simp
              try rfl
            exact hK.out _ _ ⟨(by rw [ha.out]; exact putSel_upk 6 hb_ rfl rfl rfl), QB⟩
          refine steps_cons ?_ ?_
          · rintro b a w' ⟨ha, QB⟩ hb_ hon hoff
            refine ⟨_, rfl, fun K hK => ?_⟩
            have e73 : a.tmps[73]? = some (.pointer (some ⟨gx, 8, none⟩)) := by rw [ha]; exact putSel_on (e := (6, 73, .pointer (some ⟨gx, 8, none⟩))) 6 rfl rfl (hon 6 (by kernel_rfl)) rfl
            replace ha := Aside0.mk ha
            refine value_ (w1 := w') (v := .pointer (some ⟨gx, 9, none⟩)) (by rfl) rfl ?_ ?_
            · go_simp
              try rfl
            exact hK.out _ _ ⟨(by rw [ha.out]; exact putSel_upk 7 hb_ rfl rfl rfl), QB⟩
          refine steps_cons ?_ ?_
          · rintro b a w' ⟨ha, QB⟩ hb_ hon hoff
            refine ⟨_, rfl, fun K hK => ?_⟩
            have e74 : a.tmps[74]? = some (.pointer (some ⟨gx, 9, none⟩)) := by rw [ha]; exact putSel_on (e := (7, 74, .pointer (some ⟨gx, 9, none⟩))) 7 rfl rfl (hon 7 (by kernel_rfl)) rfl
            have q_ : w'.cell? ⟨gx, 9, none⟩ = some (.slice A9 x.f8.f1.length c9) := (blk_cell ((QB.block gx (blk_lt BX.out)).trans BX.out) 9).trans rfl
            replace ha := Aside0.mk ha
            refine value_ (w1 := w') (v := .slice A9 x.f8.f1.length c9) (by rfl) rfl ?_ ?_
            · go_simp
              try rfl
            exact hK.out _ _ ⟨(by rw [ha.out]; exact putSel_upk 8 hb_ rfl rfl rfl), QB⟩
          refine steps_cons ?_ ?_
          · rintro b a w' ⟨ha, QB⟩ hb_ hon hoff
            refine ⟨_, rfl, fun K hK => ?_⟩
            have e75 : a.tmps[75]? = some (.slice A9 x.f8.f1.length c9) := by rw [ha]; exact putSel_on (e := (8, 75, .slice A9 x.f8.f1.length c9)) 8 rfl rfl (hon 8 (by kernel_rfl)) rfl
            replace ha := Aside0.mk ha
            refine value_ (w1 := w') (v := .int .i64 (x.f8.f1.length : Int)) (by rfl) rfl ?_ ?_
            · go_simp
              try rfl
            exact hK.out _ _ ⟨(by rw [ha.out]; exact putSel_upk 9 hb_ rfl rfl rfl), QB⟩
          refine steps_cons ?_ ?_
          · rintro b a w' ⟨ha, QB⟩ hb_ hon hoff
            refine ⟨_, rfl, fun K hK => ?_⟩
            have e76 : a.tmps[76]? = some (.int .i64 (x.f8.f1.length : Int)) := by rw [ha]; exact putSel_on (e := (9, 76, .int .i64 (x.f8.f1.length : Int))) 9 rfl rfl (hon 9 (by kernel_rfl)) rfl
            replace ha := Aside0.mk ha
            refine goes_ Tryd.func22 (by kernel_rfl) rfl #[.int .i64 (x.f8.f1.length : Int)] (by rfl) rfl rfl (by simp only [List.map_toArray, List.map_cons, List.map_nil, Act.eval, Array.getD_eq_getD_getElem?, e76, Option.getD_some]) ?_
            refine (wharfageref19_dec.calls 40 _ _ _ (dec_t (Take.sm_len (show x.f8.f1.length ≤ 1000 by have := HA.out.n; omega)) 40 (by omega))).mono ?_
            rintro e_ w'' ⟨rfl, hb⟩
            exact ⟨_, rfl, hK.out _ _ ⟨(by rw [ha.out]; exact putSel_upk 10 hb_ rfl rfl rfl), below_step QB hb⟩⟩
          refine steps_cons ?_ ?_
          · rintro b a w' ⟨ha, QB⟩ hb_ hon hoff
            refine ⟨_, rfl, fun K hK => ?_⟩
            have e72 : a.tmps[72]? = some (.string (Bs zz1)) := by rw [ha]; exact putSel_on (e := (5, 72, .string (Bs zz1))) 5 rfl rfl (hon 5 (by kernel_rfl)) rfl
            have e77 : a.tmps[77]? = some (.string (Bs (Pen.numT (x.f8.f1.length : Int)))) := by rw [ha]; exact putSel_on (e := (10, 77, .string (Bs (Pen.numT (x.f8.f1.length : Int))))) 10 rfl rfl (hon 10 (by kernel_rfl)) rfl
            have hz_ := HZzz2.out
            have hc_ := HCzz2.out
            have hz2_ := hz_
            simp only [bsz] at hz2_
            replace ha := Aside0.mk ha
            refine value_ (w1 := w') (v := .string (Bs zz2)) (by rfl) rfl ?_ ?_
            · go_simp
              try rfl
              try rw [hc_]
              try rfl
            exact hK.out _ _ ⟨(by rw [ha.out]; exact putSel_upk 11 hb_ rfl rfl rfl), QB⟩
          refine steps_cons ?_ ?_
          · rintro b a w' ⟨ha, QB⟩ hb_ hon hoff
            refine ⟨_, rfl, fun K hK => ?_⟩
            have e78 : a.tmps[78]? = some (.string (Bs zz2)) := by rw [ha]; exact putSel_on (e := (11, 78, .string (Bs zz2))) 11 rfl rfl (hon 11 (by kernel_rfl)) rfl
            replace ha := Aside0.mk ha
            refine value_ (w1 := w') (v := .string (Bs zz2)) (by rfl) rfl ?_ ?_
            · go_simp
              try rfl
            exact hK.out _ _ ⟨(by rw [ha.out]; exact putSel_upk 12 hb_ rfl rfl rfl), QB⟩
          exact steps_nil
        rintro b a w7 hall ⟨ha, QB⟩
        have hb0_ := hall 0 (by kernel_rfl)
        have hb1_ := hall 1 (by kernel_rfl)
        have hb2_ := hall 2 (by kernel_rfl)
        have hb3_ := hall 3 (by kernel_rfl)
        have hb4_ := hall 4 (by kernel_rfl)
        have hb5_ := hall 5 (by kernel_rfl)
        have hb6_ := hall 6 (by kernel_rfl)
        have hb7_ := hall 7 (by kernel_rfl)
        have hb8_ := hall 8 (by kernel_rfl)
        have hb9_ := hall 9 (by kernel_rfl)
        have hb10_ := hall 10 (by kernel_rfl)
        have hb11_ := hall 11 (by kernel_rfl)
        have hb12_ := hall 12 (by kernel_rfl)
        subst ha
        simp only [putSel, hb0_, hb1_, hb2_, hb3_, hb4_, hb5_, hb6_, hb7_, hb8_, hb9_, hb10_, hb11_, hb12_, if_true, Act.put, List.setIfInBounds_toArray, List.set_cons_zero, List.set_cons_succ]
        replace HBW := Aside0.mk (below_step HBW.out QB)
        replace HIX := Aside0.mk (Kd.C_below HIX.out QB)
        replace BX := Aside0.mk ((QB.block gx (blk_lt BX.out)).trans BX.out)
        have hzz2 : zz2 = q10 ++ Pen.numT x.f8.f0 ++ Pen.numT (x.f8.f1.length : Int) := by rw [HEzz2.out, HEzz1.out]
        have HZ2 := Aside0.mk hzz2
        have LZ := Aside0.mk (show zz2.length ≤ acc.length + 722 by rw [hzz2]; simp only [List.length_append]; omega)
        clear hzz2 QB nv hns hzs nn lq lzz2 HCzz1 HZzz1 HEzz1 HCzz2 HZzz2 HEzz2
        go_wp2_with fail
        go_loopg [4, 7] (x.f8.f1.length + 1) (fun kq v4 v7 w' => ∃ (j : Nat), v4 = .string (Bs (zz2 ++ (x.f8.f1.take j).flatMap Pen.siteT)) ∧ v7 = .int .i64 (j : Int) ∧ Aside0 (j ≤ x.f8.f1.length ∧ (kq : Int) + j = x.f8.f1.length + 1) ∧ Aside0 (Below w7.heap.size w7 w'))
        case atStart => exact ⟨0, by simp, rfl, ⟨by omega, by omega⟩, ⟨Below.refl _ _⟩⟩
        case round =>
          obtain ⟨j, rfl, rfl, HJ, HBJ⟩ := hrel
          have HXJ := Aside0.mk (Kd.C_below HIX.out HBJ.out)
          have BXJ := Aside0.mk ((HBJ.out.block gx (blk_lt BX.out)).trans BX.out)
          have y9_ : wr.cell? ⟨gx, 9, none⟩ = some (.slice A9 x.f8.f1.length c9) := (blk_cell BXJ.out 9).trans rfl
          cases gk with
          | zero => have := HJ.out; omega
          | succ k2 =>
            by_cases d3 : (j : Int) < (x.f8.f1.length : Int)
            case neg =>
              have d3b := decide_eq_false d3
              have d3n : decide (j < x.f8.f1.length) = false := decide_eq_false (by omega)
              have hs3 : showW (l.drop (i + 1)) (zz2 ++ (x.f8.f1.take j).flatMap Pen.siteT) = some (r1, r2) := by
                rw [← HS2.out, List.take_of_length_le (by omega), HZ2.out, HQ.out]
                congr 1
                unfold Pen.actT Pen.cfgT Pen.numsT
                rw [if_pos J9.out]
                simp
              have HS3 := Aside0.mk hs3
              have L9 := Aside0.mk (show (zz2 ++ (x.f8.f1.take j).flatMap Pen.siteT).length ≤ 1400 * (i + 1) by
                have h1 := sites_le (x.f8.f1.take j) (fun y hy => HA.out.s y (List.mem_of_mem_take hy))
                have h2 := HA.out.n
                have h3 := LZ.out
                have h4 : (x.f8.f1.take j).length ≤ 3 := by rw [List.length_take]; have := HA.out.n; omega
                rw [List.length_append]; omega)
              replace HBW := Aside0.mk (below_step HBW.out HBJ.out)
              clear hs3 d3
              go_wp2_with fail
              go_roundg k1
              case measure => have := HX.out; omega
              case rel =>
                have h1 := HX.out
                exact ⟨i + 1, _, rfl, by first | rfl | rw [show wrap64 ((i : Int) + 1) = ((i + 1 : Nat) : Int) by unfold wrap64; omega], ⟨by omega, by omega, L9.out⟩, ⟨HS3.out⟩, HBW⟩
            case pos =>
            have d3b := decide_eq_true d3
            have d3n : decide (j < x.f8.f1.length) = true := decide_eq_true (by omega)
            have q1_ : (0 : Int) ≤ (j : Int) := by omega
            have q1b := decide_eq_true q1_
            have hltj : j < x.f8.f1.length := by omega
            obtain ⟨bd, B9, d9, eb, hy0, hy1, hy2, hy3, hly, hiy⟩ := at_T63 HXJ.out (j : Int) q1_ d3
            cases eb
            have e9 : rd_T63 x.f8.f1 (j : Int) = x.f8.f1[j] := by simp [rd_T63, hltj]
            rw [e9] at hy0 hy1 hy2 hy3 hly hiy
            rw [Int.toNat_natCast] at hy0 hy1 hy2 hy3
            have HTK := Aside0.mk (take_flat Pen.siteT x.f8.f1 j hltj)
            have HSY := Aside0.mk (HA.out.s _ (List.getElem_mem hltj))
            obtain ⟨y, hyy⟩ : ∃ y, x.f8.f1[j] = y := ⟨_, rfl⟩
            rw [hyy] at hy0 hy1 hy2 hy3 hly hiy HTK HSY
            have HLY := Aside0.mk hly
            have HIY := Aside0.mk hiy
            have d3' := eq_true d3
            have q1' := eq_true q1_
            clear hyy e9 hly hiy
            go_upto_region 17 with ((with_reducible refine gate_dst (N := 8) rfl ?_); refine box_event ?hg (N := 8) ?hd (cs := #[.int .i64 0, .bool false, .int .i64 0, .slice none 0 0]) (t := 63) ?hr ?_; (case hd => rfl); (case hg => rfl); (case hr => first | (go_simp; done) | (go_simp; rfl)); intro gs hg w8 hbox hb; have HW := Aside0.mk hb; have G := Aside0.mk (Nat.le_of_eq hg.symm : wr.heap.size ≤ gs); have Zb := Aside0.mk hbox; clear hb hbox hg; have z0 : w8.cell? ⟨gs, 0, none⟩ = some (.int .i64 0) := (blk_cell Zb.out 0).trans rfl; have y0 := blk_frozen Zb.out 0; have z1 : w8.cell? ⟨gs, 1, none⟩ = some (.bool false) := (blk_cell Zb.out 1).trans rfl; have y1 := blk_frozen Zb.out 1; have z2 : w8.cell? ⟨gs, 2, none⟩ = some (.int .i64 0) := (blk_cell Zb.out 2).trans rfl; have y2 := blk_frozen Zb.out 2; have z3 : w8.cell? ⟨gs, 3, none⟩ = some (.slice none 0 0) := (blk_cell Zb.out 3).trans rfl; have y3 := blk_frozen Zb.out 3; skip)
            refine Take.hide_ (fun W => Below wr.heap.size wr W ∧ W.heap[gs]? = some (.cells #[.int .i64 y.f0, .bool y.f1, .int .i64 y.f2, .slice B9 y.f3.length d9] 63 (0, 0)) ∧ wr.heap.size ≤ gs) ⟨by with_reducible repeat (first | exact HW.out | refine below_set ?_ G.out), by refine blk_put (cs := #[.int .i64 y.f0, .bool y.f1, .int .i64 y.f2, .slice none 0 0]) ?_ 3 _ rfl; refine blk_put (cs := #[.int .i64 y.f0, .bool y.f1, .int .i64 0, .slice none 0 0]) ?_ 2 _ rfl; refine blk_put (cs := #[.int .i64 y.f0, .bool false, .int .i64 0, .slice none 0 0]) ?_ 1 _ rfl; refine blk_put (cs := #[.int .i64 0, .bool false, .int .i64 0, .slice none 0 0]) ?_ 0 _ rfl; exact Zb.out, G.out⟩ ?_
            intro w9 ⟨hb, hz, hge⟩
            replace HBJ := Aside0.mk (below_step HBJ.out hb)
            replace HIY := Aside0.mk (Kd.C_below HIY.out hb)
            replace BXJ := Aside0.mk ((hb.block gx (blk_lt BXJ.out)).trans BXJ.out)
            have BY := Aside0.mk hz
            clear hb hz hge HW G Zb z0 y0 z1 y1 z2 y2 z3 y3
            clear hy0 hy1 hy2 hy3 d3b d3n q1b d3' q1' y9_
            have hw := numT_le HSY.out.w
            have hc := numT_le HSY.out.c
            have hn4 := HSY.out.n
            have hn := numT_le (Take.sm_len (show y.f3.length ≤ 1000 by omega))
            have h1 := sites_le (x.f8.f1.take j) (fun y hy => HA.out.s y (List.mem_of_mem_take hy))
            have h2 := HA.out.n
            have h3 := LZ.out
            have h4 : (x.f8.f1.take j).length ≤ 3 := by rw [List.length_take]; have := HA.out.n; omega
            obtain ⟨u0, hu0⟩ : ∃ u, u = zz2 ++ (x.f8.f1.take j).flatMap Pen.siteT := ⟨_, rfl⟩
            have lu : u0.length ≤ acc.length + 1100 := by rw [hu0, List.length_append]; omega
            have HU0 := Aside0.mk hu0
            rw [← hu0]
            clear hu0 h1 h2 h3 h4
            obtain ⟨ty, hty⟩ : ∃ u, u = [if y.f1 = true then (100 : UInt8) else 117] := ⟨_, rfl⟩
            have lty : ty.length = 1 := by rw [hty]; rfl
            have Tty := Aside0.mk hty
            clear hty
            obtain ⟨u1, hu1⟩ : ∃ q, q = u0 ++ Pen.numT y.f0 := ⟨_, rfl⟩
            have lu1 : u1.length ≤ u0.length + 11 := by rw [hu1, List.length_append]; first | omega | (simp only [List.length_singleton]; omega)
            have HCu1 := Aside0.mk (show Bs u0 ++ Bs (Pen.numT y.f0) = Bs u1 by rw [hu1]; exact bcat _ _)
            have HZu1 := Aside0.mk (len_ok u0 (Pen.numT y.f0) (by first | omega | (simp only [List.length_singleton]; omega)))
            obtain ⟨u2, hu2⟩ : ∃ q, q = u1 ++ ty := ⟨_, rfl⟩
            have lu2 : u2.length ≤ u1.length + 1 := by rw [hu2, List.length_append]; first | omega | (simp only [List.length_singleton]; omega)
            have HCu2 := Aside0.mk (show Bs u1 ++ Bs (ty) = Bs u2 by rw [hu2]; exact bcat _ _)
            have HZu2 := Aside0.mk (len_ok u1 (ty) (by first | omega | (simp only [List.length_singleton]; omega)))
            obtain ⟨u3, hu3⟩ : ∃ q, q = u2 ++ Pen.numT y.f2 := ⟨_, rfl⟩
            have lu3 : u3.length ≤ u2.length + 11 := by rw [hu3, List.length_append]; first | omega | (simp only [List.length_singleton]; omega)
            have HCu3 := Aside0.mk (show Bs u2 ++ Bs (Pen.numT y.f2) = Bs u3 by rw [hu3]; exact bcat _ _)
            have HZu3 := Aside0.mk (len_ok u2 (Pen.numT y.f2) (by first | omega | (simp only [List.length_singleton]; omega)))
            obtain ⟨u4, hu4⟩ : ∃ q, q = u3 ++ Pen.numT (y.f3.length : Int) := ⟨_, rfl⟩
            have lu4 : u4.length ≤ u3.length + 11 := by rw [hu4, List.length_append]; first | omega | (simp only [List.length_singleton]; omega)
            have HCu4 := Aside0.mk (show Bs u3 ++ Bs (Pen.numT (y.f3.length : Int)) = Bs u4 by rw [hu4]; exact bcat _ _)
            have HZu4 := Aside0.mk (len_ok u3 (Pen.numT (y.f3.length : Int)) (by first | omega | (simp only [List.length_singleton]; omega)))
            have HEu1 := Aside0.mk hu1
            have HEu2 := Aside0.mk hu2
            have HEu3 := Aside0.mk hu3
            have HEu4 := Aside0.mk hu4
            clear hu1 hu2 hu3 hu4
            clear lu1 lu2 lu3
            refine start_ (n := 19) (S := fun w' => True) (ds := []) #[false, false, false, false, false, false, false, false, false, false, false, false, false, false, false, false, false, false, false] (by kernel_rfl) rfl rfl trivial (fun hHeld => ?_); refine with_tabW wharfageref19_ShowActs.tab17 wharfageref19_ShowActs.bits17 (fun HT_ HW_ => ?_)
            refine inv_at [0, 1, 2, 3, 4, 5, 6, 7, 8, 9, 10, 11, 12, 13, 14, 15, 16, 17, 18] (fun a0_ b a w' => a = putSel a0_ b [(0, 93, .string (Bs u0)), (1, 94, .pointer (some ⟨gs, 0, none⟩)), (2, 95, .int .i64 y.f0), (3, 96, .string (Bs (Pen.numT y.f0))), (4, 97, .string (Bs u1)), (5, 98, .pointer (some ⟨gs, 1, none⟩)), (6, 99, .bool y.f1), (7, 100, .string (Bs (ty))), (8, 101, .string (Bs u2)), (9, 102, .pointer (some ⟨gs, 2, none⟩)), (10, 103, .int .i64 y.f2), (11, 104, .string (Bs (Pen.numT y.f2))), (12, 105, .string (Bs u3)), (13, 106, .pointer (some ⟨gs, 3, none⟩)), (14, 107, .slice B9 y.f3.length d9), (15, 108, .int .i64 (y.f3.length : Int)), (16, 109, .string (Bs (Pen.numT (y.f3.length : Int)))), (17, 110, .string (Bs u4)), (18, 4, .string (Bs u4))] ∧ Below w9.heap.size w9 w') HT_.out HW_.out (by kernel_rfl) (by kernel_rfl) ?_ ?_ ?_
            · exact ⟨by simp only [putSel, Bool.false_eq_true, if_false], below_drew1 (Below.refl _ _)⟩
            · skip
              refine steps_cons ?_ ?_
              · rintro b a w' ⟨ha, QB⟩ hb_ hon hoff
                refine ⟨_, rfl, fun K hK => ?_⟩
                have e4 : a.tmps[4]? = some (.string (Bs u0)) := by rw [ha]; exact (putSel_not (hoff 18 (by kernel_rfl)) rfl).trans rfl
                replace ha := Aside0.mk ha
                refine value_ (w1 := w') (v := .string (Bs u0)) (by rfl) rfl ?_ ?_
                · go_simp
                  try rfl
                exact hK.out _ _ ⟨(by rw [ha.out]; exact putSel_upk 0 hb_ rfl rfl rfl), QB⟩
              refine steps_cons ?_ ?_
              · rintro b a w' ⟨ha, QB⟩ hb_ hon hoff
                refine ⟨_, rfl, fun K hK => ?_⟩
                have e8 : a.tmps[8]? = some (.pointer (some ⟨gs, 0, none⟩)) := by rw [ha]; exact (putSel_off rfl).trans rfl
                replace ha := Aside0.mk ha
                refine value_ (w1 := w') (v := .pointer (some ⟨gs, 0, none⟩)) (by rfl) rfl ?_ ?_
                · go_simp
                  try rfl
                exact hK.out _ _ ⟨(by rw [ha.out]; exact putSel_upk 1 hb_ rfl rfl rfl), QB⟩
              refine steps_cons ?_ ?_
              · rintro b a w' ⟨ha, QB⟩ hb_ hon hoff
                refine ⟨_, rfl, fun K hK => ?_⟩
                have e94 : a.tmps[94]? = some (.pointer (some ⟨gs, 0, none⟩)) := by rw [ha]; exact putSel_on (e := (1, 94, .pointer (some ⟨gs, 0, none⟩))) 1 rfl rfl (hon 1 (by kernel_rfl)) rfl
                have q_ : w'.cell? ⟨gs, 0, none⟩ = some (.int .i64 y.f0) := (blk_cell ((QB.block gs (blk_lt BY.out)).trans BY.out) 0).trans rfl
                replace ha := Aside0.mk ha
                refine value_ (w1 := w') (v := .int .i64 y.f0) (by rfl) rfl ?_ ?_
                · go_simp
                  try rfl
                exact hK.out _ _ ⟨(by rw [ha.out]; exact putSel_upk 2 hb_ rfl rfl rfl), QB⟩
              refine steps_cons ?_ ?_
              · rintro b a w' ⟨ha, QB⟩ hb_ hon hoff
                refine ⟨_, rfl, fun K hK => ?_⟩
                have e95 : a.tmps[95]? = some (.int .i64 y.f0) := by rw [ha]; exact putSel_on (e := (2, 95, .int .i64 y.f0)) 2 rfl rfl (hon 2 (by kernel_rfl)) rfl
                replace ha := Aside0.mk ha
                refine goes_ Tryd.func22 (by kernel_rfl) rfl #[.int .i64 y.f0] (by rfl) rfl rfl (by simp only [List.map_toArray, List.map_cons, List.map_nil, Act.eval, Array.getD_eq_getD_getElem?, e95, Option.getD_some]) ?_
                refine (wharfageref19_dec.calls 40 _ _ _ (dec_t HSY.out.w 40 (by omega))).mono ?_
                rintro e_ w'' ⟨rfl, hb⟩
                exact ⟨_, rfl, hK.out _ _ ⟨(by rw [ha.out]; exact putSel_upk 3 hb_ rfl rfl rfl), below_step QB hb⟩⟩
              refine steps_cons ?_ ?_
              · rintro b a w' ⟨ha, QB⟩ hb_ hon hoff
                refine ⟨_, rfl, fun K hK => ?_⟩
                have e93 : a.tmps[93]? = some (.string (Bs u0)) := by rw [ha]; exact putSel_on (e := (0, 93, .string (Bs u0))) 0 rfl rfl (hon 0 (by kernel_rfl)) rfl
                have e96 : a.tmps[96]? = some (.string (Bs (Pen.numT y.f0))) := by rw [ha]; exact putSel_on (e := (3, 96, .string (Bs (Pen.numT y.f0)))) 3 rfl rfl (hon 3 (by kernel_rfl)) rfl
                have hz_ := HZu1.out
                have hc_ := HCu1.out
                have hz2_ := hz_
                simp only [bsz] at hz2_
                replace ha := Aside0.mk ha
                refine value_ (w1 := w') (v := .string (Bs u1)) (by rfl) rfl ?_ ?_
                · go_simp
                  try rfl
                  try rw [hc_]
                  try rfl
                exact hK.out _ _ ⟨(by rw [ha.out]; exact putSel_upk 4 hb_ rfl rfl rfl), QB⟩
              refine steps_cons ?_ ?_
              · rintro b a w' ⟨ha, QB⟩ hb_ hon hoff
                refine ⟨_, rfl, fun K hK => ?_⟩
                have e8 : a.tmps[8]? = some (.pointer (some ⟨gs, 0, none⟩)) := by rw [ha]; exact (putSel_off rfl).trans rfl
                replace ha := Aside0.mk ha
                refine value_ (w1 := w') (v := .pointer (some ⟨gs, 1, none⟩)) (by rfl) rfl ?_ ?_
                · go_simp
                  try rfl
                exact hK.out _ _ ⟨(by rw [ha.out]; exact putSel_upk 5 hb_ rfl rfl rfl), QB⟩
              refine steps_cons ?_ ?_
              · rintro b a w' ⟨ha, QB⟩ hb_ hon hoff
                refine ⟨_, rfl, fun K hK => ?_⟩
                have e98 : a.tmps[98]? = some (.pointer (some ⟨gs, 1, none⟩)) := by rw [ha]; exact putSel_on (e := (5, 98, .pointer (some ⟨gs, 1, none⟩))) 5 rfl rfl (hon 5 (by kernel_rfl)) rfl
                have q_ : w'.cell? ⟨gs, 1, none⟩ = some (.bool y.f1) := (blk_cell ((QB.block gs (blk_lt BY.out)).trans BY.out) 1).trans rfl
                replace ha := Aside0.mk ha
                refine value_ (w1 := w') (v := .bool y.f1) (by rfl) rfl ?_ ?_
                · go_simp
                  try rfl
                exact hK.out _ _ ⟨(by rw [ha.out]; exact putSel_upk 6 hb_ rfl rfl rfl), QB⟩
              refine steps_cons ?_ ?_
              · rintro b a w' ⟨ha, QB⟩ hb_ hon hoff
                refine ⟨_, rfl, fun K hK => ?_⟩
                have e99 : a.tmps[99]? = some (.bool y.f1) := by rw [ha]; exact putSel_on (e := (6, 99, .bool y.f1)) 6 rfl rfl (hon 6 (by kernel_rfl)) rfl
                replace ha := Aside0.mk ha
                refine goes_ Tryd.func23 (by kernel_rfl) rfl #[.bool y.f1, .string ⟨#[100]⟩, .string ⟨#[117]⟩] (by rfl) rfl rfl (by simp only [List.map_toArray, List.map_cons, List.map_nil, Act.eval, Array.getD_eq_getD_getElem?, e99, Option.getD_some]) ?_
                refine (wharfageref19_letter.calls y.f1 (Bs [100]) (Bs [117]) (Bs ty) _ (by rw [Tty.out]; exact let_t _ _ _)).mono ?_
                rintro e_ w'' ⟨rfl, hb⟩
                exact ⟨_, rfl, hK.out _ _ ⟨(by rw [ha.out]; exact putSel_upk 7 hb_ rfl rfl rfl), below_step QB hb.below⟩⟩
              refine steps_cons ?_ ?_
              · rintro b a w' ⟨ha, QB⟩ hb_ hon hoff
                refine ⟨_, rfl, fun K hK => ?_⟩
                have e97 : a.tmps[97]? = some (.string (Bs u1)) := by rw [ha]; exact putSel_on (e := (4, 97, .string (Bs u1))) 4 rfl rfl (hon 4 (by kernel_rfl)) rfl
                have e100 : a.tmps[100]? = some (.string (Bs (ty))) := by rw [ha]; exact putSel_on (e := (7, 100, .string (Bs (ty)))) 7 rfl rfl (hon 7 (by kernel_rfl)) rfl
                have hz_ := HZu2.out
                have hc_ := HCu2.out
                have hz2_ := hz_
                simp only [bsz] at hz2_
                replace ha := Aside0.mk ha
                refine value_ (w1 := w') (v := .string (Bs u2)) (by rfl) rfl ?_ ?_
                · go_simp
                  try rfl
                  try rw [hc_]
                  try rfl
                exact hK.out _ _ ⟨(by rw [ha.out]; exact putSel_upk 8 hb_ rfl rfl rfl), QB⟩
              refine steps_cons ?_ ?_
              · rintro b a w' ⟨ha, QB⟩ hb_ hon hoff
                refine ⟨_, rfl, fun K hK => ?_⟩
                have e8 : a.tmps[8]? = some (.pointer (some ⟨gs, 0, none⟩)) := by rw [ha]; exact (putSel_off rfl).trans rfl
                replace ha := Aside0.mk ha
                refine value_ (w1 := w') (v := .pointer (some ⟨gs, 2, none⟩)) (by rfl) rfl ?_ ?_
                · go_simp
                  try rfl
                exact hK.out _ _ ⟨(by rw [ha.out]; exact putSel_upk 9 hb_ rfl rfl rfl), QB⟩
              refine steps_cons ?_ ?_
              · rintro b a w' ⟨ha, QB⟩ hb_ hon hoff
                refine ⟨_, rfl, fun K hK => ?_⟩
                have e102 : a.tmps[102]? = some (.pointer (some ⟨gs, 2, none⟩)) := by rw [ha]; exact putSel_on (e := (9, 102, .pointer (some ⟨gs, 2, none⟩))) 9 rfl rfl (hon 9 (by kernel_rfl)) rfl
                have q_ : w'.cell? ⟨gs, 2, none⟩ = some (.int .i64 y.f2) := (blk_cell ((QB.block gs (blk_lt BY.out)).trans BY.out) 2).trans rfl
                replace ha := Aside0.mk ha
                refine value_ (w1 := w') (v := .int .i64 y.f2) (by rfl) rfl ?_ ?_
                · go_simp
                  try rfl
                exact hK.out _ _ ⟨(by rw [ha.out]; exact putSel_upk 10 hb_ rfl rfl rfl), QB⟩
              refine steps_cons ?_ ?_
              · rintro b a w' ⟨ha, QB⟩ hb_ hon hoff
                refine ⟨_, rfl, fun K hK => ?_⟩
                have e103 : a.tmps[103]? = some (.int .i64 y.f2) := by rw [ha]; exact putSel_on (e := (10, 103, .int .i64 y.f2)) 10 rfl rfl (hon 10 (by kernel_rfl)) rfl
                replace ha := Aside0.mk ha
                refine goes_ Tryd.func22 (by kernel_rfl) rfl #[.int .i64 y.f2] (by rfl) rfl rfl (by simp only [List.map_toArray, List.map_cons, List.map_nil, Act.eval, Array.getD_eq_getD_getElem?, e103, Option.getD_some]) ?_
                refine (wharfageref19_dec.calls 40 _ _ _ (dec_t HSY.out.c 40 (by omega))).mono ?_
                rintro e_ w'' ⟨rfl, hb⟩
                exact ⟨_, rfl, hK.out _ _ ⟨(by rw [ha.out]; exact putSel_upk 11 hb_ rfl rfl rfl), below_step QB hb⟩⟩
              refine steps_cons ?_ ?_
              · rintro b a w' ⟨ha, QB⟩ hb_ hon hoff
                refine ⟨_, rfl, fun K hK => ?_⟩
                have e101 : a.tmps[101]? = some (.string (Bs u2)) := by rw [ha]; exact putSel_on (e := (8, 101, .string (Bs u2))) 8 rfl rfl (hon 8 (by kernel_rfl)) rfl
                have e104 : a.tmps[104]? = some (.string (Bs (Pen.numT y.f2))) := by rw [ha]; exact putSel_on (e := (11, 104, .string (Bs (Pen.numT y.f2)))) 11 rfl rfl (hon 11 (by kernel_rfl)) rfl
                have hz_ := HZu3.out
                have hc_ := HCu3.out
                have hz2_ := hz_
                simp only [bsz] at hz2_
                replace ha := Aside0.mk ha
                refine value_ (w1 := w') (v := .string (Bs u3)) (by rfl) rfl ?_ ?_
                · go_simp
                  try rfl
                  try rw [hc_]
                  try rfl
                exact hK.out _ _ ⟨(by rw [ha.out]; exact putSel_upk 12 hb_ rfl rfl rfl), QB⟩
              refine steps_cons ?_ ?_
              · rintro b a w' ⟨ha, QB⟩ hb_ hon hoff
                refine ⟨_, rfl, fun K hK => ?_⟩
                have e8 : a.tmps[8]? = some (.pointer (some ⟨gs, 0, none⟩)) := by rw [ha]; exact (putSel_off rfl).trans rfl
                replace ha := Aside0.mk ha
                refine value_ (w1 := w') (v := .pointer (some ⟨gs, 3, none⟩)) (by rfl) rfl ?_ ?_
                · go_simp
                  try rfl
                exact hK.out _ _ ⟨(by rw [ha.out]; exact putSel_upk 13 hb_ rfl rfl rfl), QB⟩
              refine steps_cons ?_ ?_
              · rintro b a w' ⟨ha, QB⟩ hb_ hon hoff
                refine ⟨_, rfl, fun K hK => ?_⟩
                have e106 : a.tmps[106]? = some (.pointer (some ⟨gs, 3, none⟩)) := by rw [ha]; exact putSel_on (e := (13, 106, .pointer (some ⟨gs, 3, none⟩))) 13 rfl rfl (hon 13 (by kernel_rfl)) rfl
                have q_ : w'.cell? ⟨gs, 3, none⟩ = some (.slice B9 y.f3.length d9) := (blk_cell ((QB.block gs (blk_lt BY.out)).trans BY.out) 3).trans rfl
                replace ha := Aside0.mk ha
                refine value_ (w1 := w') (v := .slice B9 y.f3.length d9) (by rfl) rfl ?_ ?_
                · go_simp
                  try rfl
                exact hK.out _ _ ⟨(by rw [ha.out]; exact putSel_upk 14 hb_ rfl rfl rfl), QB⟩
              refine steps_cons ?_ ?_
              · rintro b a w' ⟨ha, QB⟩ hb_ hon hoff
                refine ⟨_, rfl, fun K hK => ?_⟩
                have e107 : a.tmps[107]? = some (.slice B9 y.f3.length d9) := by rw [ha]; exact putSel_on (e := (14, 107, .slice B9 y.f3.length d9)) 14 rfl rfl (hon 14 (by kernel_rfl)) rfl
                replace ha := Aside0.mk ha
                refine value_ (w1 := w') (v := .int .i64 (y.f3.length : Int)) (by rfl) rfl ?_ ?_
                · go_simp
                  try rfl
                exact hK.out _ _ ⟨(by rw [ha.out]; exact putSel_upk 15 hb_ rfl rfl rfl), QB⟩
              refine steps_cons ?_ ?_
              · rintro b a w' ⟨ha, QB⟩ hb_ hon hoff
                refine ⟨_, rfl, fun K hK => ?_⟩
                have e108 : a.tmps[108]? = some (.int .i64 (y.f3.length : Int)) := by rw [ha]; exact putSel_on (e := (15, 108, .int .i64 (y.f3.length : Int))) 15 rfl rfl (hon 15 (by kernel_rfl)) rfl
                replace ha := Aside0.mk ha
                refine goes_ Tryd.func22 (by kernel_rfl) rfl #[.int .i64 (y.f3.length : Int)] (by rfl) rfl rfl (by simp only [List.map_toArray, List.map_cons, List.map_nil, Act.eval, Array.getD_eq_getD_getElem?, e108, Option.getD_some]) ?_
                refine (wharfageref19_dec.calls 40 _ _ _ (dec_t (Take.sm_len (show y.f3.length ≤ 1000 by have := HSY.out.n; omega)) 40 (by omega))).mono ?_
                rintro e_ w'' ⟨rfl, hb⟩
                exact ⟨_, rfl, hK.out _ _ ⟨(by rw [ha.out]; exact putSel_upk 16 hb_ rfl rfl rfl), below_step QB hb⟩⟩
              refine steps_cons ?_ ?_
              · rintro b a w' ⟨ha, QB⟩ hb_ hon hoff
                refine ⟨_, rfl, fun K hK => ?_⟩
                have e105 : a.tmps[105]? = some (.string (Bs u3)) := by rw [ha]; exact putSel_on (e := (12, 105, .string (Bs u3))) 12 rfl rfl (hon 12 (by kernel_rfl)) rfl
                have e109 : a.tmps[109]? = some (.string (Bs (Pen.numT (y.f3.length : Int)))) := by rw [ha]; exact putSel_on (e := (16, 109, .string (Bs (Pen.numT (y.f3.length : Int))))) 16 rfl rfl (hon 16 (by kernel_rfl)) rfl
                have hz_ := HZu4.out
                have hc_ := HCu4.out
                have hz2_ := hz_
                simp only [bsz] at hz2_
                replace ha := Aside0.mk ha
                refine value_ (w1 := w') (v := .string (Bs u4)) (by rfl) rfl ?_ ?_
                · go_simp
                  try rfl
                  try rw [hc_]
                  try rfl
                exact hK.out _ _ ⟨(by rw [ha.out]; exact putSel_upk 17 hb_ rfl rfl rfl), QB⟩
              refine steps_cons ?_ ?_
              · rintro b a w' ⟨ha, QB⟩ hb_ hon hoff
                refine ⟨_, rfl, fun K hK => ?_⟩
                have e110 : a.tmps[110]? = some (.string (Bs u4)) := by rw [ha]; exact putSel_on (e := (17, 110, .string (Bs u4))) 17 rfl rfl (hon 17 (by kernel_rfl)) rfl
                replace ha := Aside0.mk ha
                refine value_ (w1 := w') (v := .string (Bs u4)) (by rfl) rfl ?_ ?_
                · go_simp
                  try rfl
                exact hK.out _ _ ⟨(by rw [ha.out]; exact putSel_upk 18 hb_ rfl rfl rfl), QB⟩
              exact steps_nil
            rintro b a w10 hall ⟨ha, QB⟩
            have hb0_ := hall 0 (by kernel_rfl)
            have hb1_ := hall 1 (by kernel_rfl)
            have hb2_ := hall 2 (by kernel_rfl)
            have hb3_ := hall 3 (by kernel_rfl)
            have hb4_ := hall 4 (by kernel_rfl)
            have hb5_ := hall 5 (by kernel_rfl)
            have hb6_ := hall 6 (by kernel_rfl)
            have hb7_ := hall 7 (by kernel_rfl)
            have hb8_ := hall 8 (by kernel_rfl)
            have hb9_ := hall 9 (by kernel_rfl)
            have hb10_ := hall 10 (by kernel_rfl)
            have hb11_ := hall 11 (by kernel_rfl)
            have hb12_ := hall 12 (by kernel_rfl)
            have hb13_ := hall 13 (by kernel_rfl)
            have hb14_ := hall 14 (by kernel_rfl)
            have hb15_ := hall 15 (by kernel_rfl)
            have hb16_ := hall 16 (by kernel_rfl)
            have hb17_ := hall 17 (by kernel_rfl)
            have hb18_ := hall 18 (by kernel_rfl)
            subst ha
            simp only [putSel, hb0_, hb1_, hb2_, hb3_, hb4_, hb5_, hb6_, hb7_, hb8_, hb9_, hb10_, hb11_, hb12_, hb13_, hb14_, hb15_, hb16_, hb17_, hb18_, if_true, Act.put, List.setIfInBounds_toArray, List.set_cons_zero, List.set_cons_succ]
            replace HBJ := Aside0.mk (below_step HBJ.out QB)
            replace HIY := Aside0.mk (Kd.C_below HIY.out QB)
            replace BXJ := Aside0.mk ((QB.block gx (blk_lt BXJ.out)).trans BXJ.out)
            replace BY := Aside0.mk ((QB.block gs (blk_lt BY.out)).trans BY.out)
            have hu4 : u4 = u0 ++ (Pen.numsT [y.f0] ++ [if y.f1 = true then (100 : UInt8) else 117] ++ Pen.numsT [y.f2, (y.f3.length : Int)]) := by rw [HEu4.out, HEu3.out, HEu2.out, HEu1.out, Tty.out]; unfold Pen.numsT; simp
            have HU4 := Aside0.mk hu4
            have LU := Aside0.mk (show u4.length ≤ acc.length + 1140 by rw [HEu4.out, HEu3.out, HEu2.out, HEu1.out]; simp only [List.length_append, List.length_singleton]; omega)
            clear hu4 QB hw hc hn4 hn lu lu4 HCu1 HZu1 HEu1 HCu2 HZu2 HEu2 HCu3 HZu3 HEu3 HCu4 HZu4 HEu4
            go_wp2_with fail
            go_loopg [4, 9] (y.f3.length + 1) (fun kq v4 v9 w' => ∃ (m : Nat), v4 = .string (Bs (u4 ++ (y.f3.take m).flatMap Pen.backT)) ∧ v9 = .int .i64 (m : Int) ∧ Aside0 (m ≤ y.f3.length ∧ (kq : Int) + m = y.f3.length + 1) ∧ Aside0 (Below w10.heap.size w10 w'))
            case atStart => exact ⟨0, by simp, rfl, ⟨by omega, by omega⟩, ⟨Below.refl _ _⟩⟩
            case round =>
              obtain ⟨m, rfl, rfl, HM2, HBM⟩ := hrel
              have BYM := Aside0.mk ((HBM.out.block gs (blk_lt BY.out)).trans BY.out)
              have y3_ : wr.cell? ⟨gs, 3, none⟩ = some (.slice B9 y.f3.length d9) := (blk_cell BYM.out 3).trans rfl
              cases gk with
              | zero => have := HM2.out; omega
              | succ k3 =>
                by_cases f3 : (m : Int) < (y.f3.length : Int)
                case neg =>
                  have f3b := decide_eq_false f3
                  have f3n : decide (m < y.f3.length) = false := decide_eq_false (by omega)
                  have hfin : u4 ++ (y.f3.take m).flatMap Pen.backT = zz2 ++ (x.f8.f1.take (j + 1)).flatMap Pen.siteT := by
                    rw [List.take_of_length_le (by omega), ← HTK.out, HU4.out, HU0.out]
                    unfold Pen.siteT
                    simp
                  have HF := Aside0.mk hfin
                  replace HBJ := Aside0.mk (below_step HBJ.out HBM.out)
                  clear hfin f3
                  go_wp2_with fail
                  go_roundg k2
                  case measure => have := HJ.out; omega
                  case rel =>
                    have h1 := HJ.out
                    have h2 := HA.out.n
                    exact ⟨j + 1, by rw [HF.out], by first | rfl | rw [show wrap64 ((j : Int) + 1) = ((j + 1 : Nat) : Int) by unfold wrap64; omega], ⟨by omega, by omega⟩, HBJ⟩
                case pos =>
                have f3b := decide_eq_true f3
                have f3n : decide (m < y.f3.length) = true := decide_eq_true (by omega)
                have s1_ : (0 : Int) ≤ (m : Int) := by omega
                have s1b := decide_eq_true s1_
                have hltm : m < y.f3.length := by omega
                obtain ⟨cd, ec, hv0, hv1⟩ := at_T65 (Kd.C_below HIY.out HBM.out) (m : Int) s1_ f3
                cases ec
                have e9 : rd_T65 y.f3 (m : Int) = y.f3[m] := by simp [rd_T65, hltm]
                rw [e9] at hv0 hv1
                rw [Int.toNat_natCast] at hv0 hv1
                have HTM := Aside0.mk (take_flat Pen.backT y.f3 m hltm)
                have HSV := Aside0.mk (HSY.out.b _ (List.getElem_mem hltm))
                obtain ⟨v, hvv⟩ : ∃ v, y.f3[m] = v := ⟨_, rfl⟩
                rw [hvv] at hv0 hv1 HTM HSV
                have HV0 := Aside0.mk hv0
                have HV1 := Aside0.mk hv1
                have f3' := eq_true f3
                have s1' := eq_true s1_
                clear hvv e9 hv0 hv1
                have hw := numT_le HSV.out
                have hn4 := HSY.out.n
                have h1 := backs_le (y.f3.take m) (fun y_ hy => HSY.out.b y_ (List.mem_of_mem_take hy))
                have h3 := LU.out
                have h4 : (y.f3.take m).length ≤ 4 := by rw [List.length_take]; have := HSY.out.n; omega
                obtain ⟨b0, hb0⟩ : ∃ u, u = u4 ++ (y.f3.take m).flatMap Pen.backT := ⟨_, rfl⟩
                have lb : b0.length ≤ acc.length + 1200 := by rw [hb0, List.length_append]; omega
                have HB0 := Aside0.mk hb0
                rw [← hb0]
                clear hb0 h1 h3 h4 hn4
                go_upto_region 21 with fail
                obtain ⟨tv, htv⟩ : ∃ u, u = [if v.f1 = true then (100 : UInt8) else 117] := ⟨_, rfl⟩
                have ltv : tv.length = 1 := by rw [htv]; rfl
                have Ttv := Aside0.mk htv
                clear htv
                obtain ⟨b1, hb1⟩ : ∃ q, q = b0 ++ Pen.numT v.f0 := ⟨_, rfl⟩
                have lb1 : b1.length ≤ b0.length + 11 := by rw [hb1, List.length_append]; first | omega | (simp only [List.length_singleton]; omega)
                have HCb1 := Aside0.mk (show Bs b0 ++ Bs (Pen.numT v.f0) = Bs b1 by rw [hb1]; exact bcat _ _)
                have HZb1 := Aside0.mk (len_ok b0 (Pen.numT v.f0) (by first | omega | (simp only [List.length_singleton]; omega)))
                obtain ⟨b2, hb2⟩ : ∃ q, q = b1 ++ tv := ⟨_, rfl⟩
                have lb2 : b2.length ≤ b1.length + 1 := by rw [hb2, List.length_append]; first | omega | (simp only [List.length_singleton]; omega)
                have HCb2 := Aside0.mk (show Bs b1 ++ Bs (tv) = Bs b2 by rw [hb2]; exact bcat _ _)
                have HZb2 := Aside0.mk (len_ok b1 (tv) (by first | omega | (simp only [List.length_singleton]; omega)))
                have HEb1 := Aside0.mk hb1
                have HEb2 := Aside0.mk hb2
                clear hb1 hb2
                clear lb1
                refine start_ (n := 18) (S := fun w' => True) (ds := []) #[false, false, false, false, false, false, false, false, false, false, false, false, false, false, false, false, false, false] (by kernel_rfl) rfl rfl trivial (fun hHeld => ?_); refine with_tabW wharfageref19_ShowActs.tab21 wharfageref19_ShowActs.bits21 (fun HT_ HW_ => ?_)
                refine inv_at [0, 1, 2, 3, 4, 5, 6, 7, 8, 9, 10, 11, 12, 13, 14, 15, 16, 17] (fun a0_ b a w' => a = putSel a0_ b [(0, 118, .string (Bs b0)), (1, 119, .pointer (some ⟨gs, 3, none⟩)), (2, 120, .slice (some cd) y.f3.length d9), (3, 121, .int .i64 (m : Int)), (4, 122, .pointer (some (cd.add (m * 2)))), (5, 123, .pointer (some (cd.add (m * 2)))), (6, 124, .int .i64 v.f0), (7, 125, .string (Bs (Pen.numT v.f0))), (8, 126, .string (Bs b1)), (9, 127, .pointer (some ⟨gs, 3, none⟩)), (10, 128, .slice (some cd) y.f3.length d9), (11, 129, .int .i64 (m : Int)), (12, 130, .pointer (some (cd.add (m * 2)))), (13, 131, .pointer (some ⟨(cd.add (m * 2)).block, (cd.add (m * 2)).off + 1, none⟩)), (14, 132, .bool v.f1), (15, 133, .string (Bs (tv))), (16, 134, .string (Bs b2)), (17, 4, .string (Bs b2))] ∧ Below wr.heap.size wr w') HT_.out HW_.out (by kernel_rfl) (by kernel_rfl) ?_ ?_ ?_
                · exact ⟨by simp only [putSel, Bool.false_eq_true, if_false], below_drew1 (Below.refl _ _)⟩
                · skip
                  refine steps_cons ?_ ?_
                  · rintro b a w' ⟨ha, QB⟩ hb_ hon hoff
                    refine ⟨_, rfl, fun K hK => ?_⟩
                    have e4 : a.tmps[4]? = some (.string (Bs b0)) := by rw [ha]; exact (putSel_not (hoff 17 (by kernel_rfl)) rfl).trans rfl
                    replace ha := Aside0.mk ha
                    refine value_ (w1 := w') (v := .string (Bs b0)) (by rfl) rfl ?_ ?_
                    · go_simp
                      try rfl
                    exact hK.out _ _ ⟨(by rw [ha.out]; exact putSel_upk 0 hb_ rfl rfl rfl), QB⟩
                  refine steps_cons ?_ ?_
                  · rintro b a w' ⟨ha, QB⟩ hb_ hon hoff
                    refine ⟨_, rfl, fun K hK => ?_⟩
                    have e8 : a.tmps[8]? = some (.pointer (some ⟨gs, 0, none⟩)) := by rw [ha]; exact (putSel_off rfl).trans rfl
                    replace ha := Aside0.mk ha
                    refine value_ (w1 := w') (v := .pointer (some ⟨gs, 3, none⟩)) (by rfl) rfl ?_ ?_
                    · go_simp
                      try rfl
                    exact hK.out _ _ ⟨(by rw [ha.out]; exact putSel_upk 1 hb_ rfl rfl rfl), QB⟩
                  refine steps_cons ?_ ?_
                  · rintro b a w' ⟨ha, QB⟩ hb_ hon hoff
                    refine ⟨_, rfl, fun K hK => ?_⟩
                    have e119 : a.tmps[119]? = some (.pointer (some ⟨gs, 3, none⟩)) := by rw [ha]; exact putSel_on (e := (1, 119, .pointer (some ⟨gs, 3, none⟩))) 1 rfl rfl (hon 1 (by kernel_rfl)) rfl
                    have q_ : w'.cell? ⟨gs, 3, none⟩ = some (.slice (some cd) y.f3.length d9) := (blk_cell ((QB.block gs (blk_lt BYM.out)).trans BYM.out) 3).trans rfl
                    replace ha := Aside0.mk ha
                    refine value_ (w1 := w') (v := .slice (some cd) y.f3.length d9) (by rfl) rfl ?_ ?_
                    · go_simp
                      try rfl
                    exact hK.out _ _ ⟨(by rw [ha.out]; exact putSel_upk 2 hb_ rfl rfl rfl), QB⟩
                  refine steps_cons ?_ ?_
                  · rintro b a w' ⟨ha, QB⟩ hb_ hon hoff
                    refine ⟨_, rfl, fun K hK => ?_⟩
                    have e9 : a.tmps[9]? = some (.int .i64 (m : Int)) := by rw [ha]; exact (putSel_off rfl).trans rfl
                    replace ha := Aside0.mk ha
                    refine value_ (w1 := w') (v := .int .i64 (m : Int)) (by rfl) rfl ?_ ?_
                    · go_simp
                      try rfl
                    exact hK.out _ _ ⟨(by rw [ha.out]; exact putSel_upk 3 hb_ rfl rfl rfl), QB⟩
                  refine steps_cons ?_ ?_
                  · rintro b a w' ⟨ha, QB⟩ hb_ hon hoff
                    refine ⟨_, rfl, fun K hK => ?_⟩
                    have e120 : a.tmps[120]? = some (.slice (some cd) y.f3.length d9) := by rw [ha]; exact putSel_on (e := (2, 120, .slice (some cd) y.f3.length d9)) 2 rfl rfl (hon 2 (by kernel_rfl)) rfl
                    have e121 : a.tmps[121]? = some (.int .i64 (m : Int)) := by rw [ha]; exact putSel_on (e := (3, 121, .int .i64 (m : Int))) 3 rfl rfl (hon 3 (by kernel_rfl)) rfl
                    replace ha := Aside0.mk ha
                    refine value_ (w1 := w') (v := .pointer (some (cd.add (m * 2)))) (by rfl) rfl ?_ ?_
                    · go_simp
                      try rfl
                    exact hK.out _ _ ⟨(by rw [ha.out]; exact putSel_upk 4 hb_ rfl rfl rfl), QB⟩
                  refine steps_cons ?_ ?_
                  · rintro b a w' ⟨ha, QB⟩ hb_ hon hoff
                    refine ⟨_, rfl, fun K hK => ?_⟩
                    have e122 : a.tmps[122]? = some (.pointer (some (cd.add (m * 2)))) := by rw [ha]; exact putSel_on (e := (4, 122, .pointer (some (cd.add (m * 2))))) 4 rfl rfl (hon 4 (by kernel_rfl)) rfl
                    replace ha := Aside0.mk ha
                    refine value_ (w1 := w') (v := .pointer (some (cd.add (m * 2)))) (by rfl) rfl ?_ ?_
                    · go_simp
                      try rfl
                    exact hK.out _ _ ⟨(by rw [ha.out]; exact putSel_upk 5 hb_ rfl rfl rfl), QB⟩
                  refine steps_cons ?_ ?_
                  · rintro b a w' ⟨ha, QB⟩ hb_ hon hoff
                    refine ⟨_, rfl, fun K hK => ?_⟩
                    have e123 : a.tmps[123]? = some (.pointer (some (cd.add (m * 2)))) := by rw [ha]; exact putSel_on (e := (5, 123, .pointer (some (cd.add (m * 2))))) 5 rfl rfl (hon 5 (by kernel_rfl)) rfl
                    have q_ := pw_cell_below QB HV0.out
                    replace ha := Aside0.mk ha
                    refine value_ (w1 := w') (v := .int .i64 v.f0) (by rfl) rfl ?_ ?_
                    · go_simp
                      try rfl
                    exact hK.out _ _ ⟨(by rw [ha.out]; exact putSel_upk 6 hb_ rfl rfl rfl), QB⟩
                  refine steps_cons ?_ ?_
                  · rintro b a w' ⟨ha, QB⟩ hb_ hon hoff
                    refine ⟨_, rfl, fun K hK => ?_⟩
                    have e124 : a.tmps[124]? = some (.int .i64 v.f0) := by rw [ha]; exact putSel_on (e := (6, 124, .int .i64 v.f0)) 6 rfl rfl (hon 6 (by kernel_rfl)) rfl
                    replace ha := Aside0.mk ha
                    refine goes_ Tryd.func22 (by kernel_rfl) rfl #[.int .i64 v.f0] (by rfl) rfl rfl (by simp only [List.map_toArray, List.map_cons, List.map_nil, Act.eval, Array.getD_eq_getD_getElem?, e124, Option.getD_some]) ?_
                    refine (wharfageref19_dec.calls 40 _ _ _ (dec_t HSV.out 40 (by omega))).mono ?_
                    rintro e_ w'' ⟨rfl, hb⟩
                    exact ⟨_, rfl, hK.out _ _ ⟨(by rw [ha.out]; exact putSel_upk 7 hb_ rfl rfl rfl), below_step QB hb⟩⟩
                  refine steps_cons ?_ ?_
                  · rintro b a w' ⟨ha, QB⟩ hb_ hon hoff
                    refine ⟨_, rfl, fun K hK => ?_⟩
                    have e118 : a.tmps[118]? = some (.string (Bs b0)) := by rw [ha]; exact putSel_on (e := (0, 118, .string (Bs b0))) 0 rfl rfl (hon 0 (by kernel_rfl)) rfl
                    have e125 : a.tmps[125]? = some (.string (Bs (Pen.numT v.f0))) := by rw [ha]; exact putSel_on (e := (7, 125, .string (Bs (Pen.numT v.f0)))) 7 rfl rfl (hon 7 (by kernel_rfl)) rfl
                    have hz_ := HZb1.out
                    have hc_ := HCb1.out
                    have hz2_ := hz_
                    simp only [bsz] at hz2_
                    replace ha := Aside0.mk ha
                    refine value_ (w1 := w') (v := .string (Bs b1)) (by rfl) rfl ?_ ?_
                    · go_simp
                      try rfl
                      try rw [hc_]
                      try rfl
                    exact hK.out _ _ ⟨(by rw [ha.out]; exact putSel_upk 8 hb_ rfl rfl rfl), QB⟩
                  refine steps_cons ?_ ?_
                  · rintro b a w' ⟨ha, QB⟩ hb_ hon hoff
                    refine ⟨_, rfl, fun K hK => ?_⟩
                    have e8 : a.tmps[8]? = some (.pointer (some ⟨gs, 0, none⟩)) := by rw [ha]; exact (putSel_off rfl).trans rfl
                    replace ha := Aside0.mk ha
                    refine value_ (w1 := w') (v := .pointer (some ⟨gs, 3, none⟩)) (by rfl) rfl ?_ ?_
                    · go_simp
                      try rfl
                    exact hK.out _ _ ⟨(by rw [ha.out]; exact putSel_upk 9 hb_ rfl rfl rfl), QB⟩
                  refine steps_cons ?_ ?_
                  · rintro b a w' ⟨ha, QB⟩ hb_ hon hoff
                    refine ⟨_, rfl, fun K hK => ?_⟩
                    have e127 : a.tmps[127]? = some (.pointer (some ⟨gs, 3, none⟩)) := by rw [ha]; exact putSel_on (e := (9, 127, .pointer (some ⟨gs, 3, none⟩))) 9 rfl rfl (hon 9 (by kernel_rfl)) rfl
                    have q_ : w'.cell? ⟨gs, 3, none⟩ = some (.slice (some cd) y.f3.length d9) := (blk_cell ((QB.block gs (blk_lt BYM.out)).trans BYM.out) 3).trans rfl
                    replace ha := Aside0.mk ha
                    refine value_ (w1 := w') (v := .slice (some cd) y.f3.length d9) (by rfl) rfl ?_ ?_
                    · go_simp
                      try rfl
                    exact hK.out _ _ ⟨(by rw [ha.out]; exact putSel_upk 10 hb_ rfl rfl rfl), QB⟩
                  refine steps_cons ?_ ?_
                  · rintro b a w' ⟨ha, QB⟩ hb_ hon hoff
                    refine ⟨_, rfl, fun K hK => ?_⟩
                    have e9 : a.tmps[9]? = some (.int .i64 (m : Int)) := by rw [ha]; exact (putSel_off rfl).trans rfl
                    replace ha := Aside0.mk ha
                    refine value_ (w1 := w') (v := .int .i64 (m : Int)) (by rfl) rfl ?_ ?_
                    · go_simp
                      try rfl
                    exact hK.out _ _ ⟨(by rw [ha.out]; exact putSel_upk 11 hb_ rfl rfl rfl), QB⟩
                  refine steps_cons ?_ ?_
                  · rintro b a w' ⟨ha, QB⟩ hb_ hon hoff
                    refine ⟨_, rfl, fun K hK => ?_⟩
                    have e128 : a.tmps[128]? = some (.slice (some cd) y.f3.length d9) := by rw [ha]; exact putSel_on (e := (10, 128, .slice (some cd) y.f3.length d9)) 10 rfl rfl (hon 10 (by kernel_rfl)) rfl
                    have e129 : a.tmps[129]? = some (.int .i64 (m : Int)) := by rw [ha]; exact putSel_on (e := (11, 129, .int .i64 (m : Int))) 11 rfl rfl (hon 11 (by kernel_rfl)) rfl
                    replace ha := Aside0.mk ha
                    refine value_ (w1 := w') (v := .pointer (some (cd.add (m * 2)))) (by rfl) rfl ?_ ?_
                    · go_simp
                      try rfl
                    exact hK.out _ _ ⟨(by rw [ha.out]; exact putSel_upk 12 hb_ rfl rfl rfl), QB⟩
                  refine steps_cons ?_ ?_
                  · rintro b a w' ⟨ha, QB⟩ hb_ hon hoff
                    refine ⟨_, rfl, fun K hK => ?_⟩
                    have e130 : a.tmps[130]? = some (.pointer (some (cd.add (m * 2)))) := by rw [ha]; exact putSel_on (e := (12, 130, .pointer (some (cd.add (m * 2))))) 12 rfl rfl (hon 12 (by kernel_rfl)) rfl
                    replace ha := Aside0.mk ha
                    refine value_ (w1 := w') (v := .pointer (some ⟨(cd.add (m * 2)).block, (cd.add (m * 2)).off + 1, none⟩)) (by rfl) rfl ?_ ?_
                    · go_simp
                      try rfl
                    exact hK.out _ _ ⟨(by rw [ha.out]; exact putSel_upk 13 hb_ rfl rfl rfl), QB⟩
                  refine steps_cons ?_ ?_
                  · rintro b a w' ⟨ha, QB⟩ hb_ hon hoff
                    refine ⟨_, rfl, fun K hK => ?_⟩
                    have e131 : a.tmps[131]? = some (.pointer (some ⟨(cd.add (m * 2)).block, (cd.add (m * 2)).off + 1, none⟩)) := by rw [ha]; exact putSel_on (e := (13, 131, .pointer (some ⟨(cd.add (m * 2)).block, (cd.add (m * 2)).off + 1, none⟩))) 13 rfl rfl (hon 13 (by kernel_rfl)) rfl
                    have q_ := pw_cell_below QB HV1.out
                    replace ha := Aside0.mk ha
                    refine value_ (w1 := w') (v := .bool v.f1) (by rfl) rfl ?_ ?_
                    · go_simp
                      try rfl
                    exact hK.out _ _ ⟨(by rw [ha.out]; exact putSel_upk 14 hb_ rfl rfl rfl), QB⟩
                  refine steps_cons ?_ ?_
                  · rintro b a w' ⟨ha, QB⟩ hb_ hon hoff
                    refine ⟨_, rfl, fun K hK => ?_⟩
                    have e132 : a.tmps[132]? = some (.bool v.f1) := by rw [ha]; exact putSel_on (e := (14, 132, .bool v.f1)) 14 rfl rfl (hon 14 (by kernel_rfl)) rfl
                    replace ha := Aside0.mk ha
                    refine goes_ Tryd.func23 (by kernel_rfl) rfl #[.bool v.f1, .string ⟨#[100]⟩, .string ⟨#[117]⟩] (by rfl) rfl rfl (by simp only [List.map_toArray, List.map_cons, List.map_nil, Act.eval, Array.getD_eq_getD_getElem?, e132, Option.getD_some]) ?_
                    refine (wharfageref19_letter.calls v.f1 (Bs [100]) (Bs [117]) (Bs tv) _ (by rw [Ttv.out]; exact let_t _ _ _)).mono ?_
                    rintro e_ w'' ⟨rfl, hb⟩
                    exact ⟨_, rfl, hK.out _ _ ⟨(by rw [ha.out]; exact putSel_upk 15 hb_ rfl rfl rfl), below_step QB hb.below⟩⟩
                  refine steps_cons ?_ ?_
                  · rintro b a w' ⟨ha, QB⟩ hb_ hon hoff
                    refine ⟨_, rfl, fun K hK => ?_⟩
                    have e126 : a.tmps[126]? = some (.string (Bs b1)) := by rw [ha]; exact putSel_on (e := (8, 126, .string (Bs b1))) 8 rfl rfl (hon 8 (by kernel_rfl)) rfl
                    have e133 : a.tmps[133]? = some (.string (Bs (tv))) := by rw [ha]; exact putSel_on (e := (15, 133, .string (Bs (tv)))) 15 rfl rfl (hon 15 (by kernel_rfl)) rfl
                    have hz_ := HZb2.out
                    have hc_ := HCb2.out
                    have hz2_ := hz_
                    simp only [bsz] at hz2_
                    replace ha := Aside0.mk ha
                    refine value_ (w1 := w') (v := .string (Bs b2)) (by rfl) rfl ?_ ?_
                    · go_simp
                      try rfl
                      try rw [hc_]
                      try rfl
                    exact hK.out _ _ ⟨(by rw [ha.out]; exact putSel_upk 16 hb_ rfl rfl rfl), QB⟩
                  refine steps_cons ?_ ?_
                  · rintro b a w' ⟨ha, QB⟩ hb_ hon hoff
                    refine ⟨_, rfl, fun K hK => ?_⟩
                    have e134 : a.tmps[134]? = some (.string (Bs b2)) := by rw [ha]; exact putSel_on (e := (16, 134, .string (Bs b2))) 16 rfl rfl (hon 16 (by kernel_rfl)) rfl
                    replace ha := Aside0.mk ha
                    refine value_ (w1 := w') (v := .string (Bs b2)) (by rfl) rfl ?_ ?_
                    · go_simp
                      try rfl
                    exact hK.out _ _ ⟨(by rw [ha.out]; exact putSel_upk 17 hb_ rfl rfl rfl), QB⟩
                  exact steps_nil
                rintro b a w11 hall ⟨ha, QB⟩
                have hb0_ := hall 0 (by kernel_rfl)
                have hb1_ := hall 1 (by kernel_rfl)
                have hb2_ := hall 2 (by kernel_rfl)
                have hb3_ := hall 3 (by kernel_rfl)
                have hb4_ := hall 4 (by kernel_rfl)
                have hb5_ := hall 5 (by kernel_rfl)
                have hb6_ := hall 6 (by kernel_rfl)
                have hb7_ := hall 7 (by kernel_rfl)
                have hb8_ := hall 8 (by kernel_rfl)
                have hb9_ := hall 9 (by kernel_rfl)
                have hb10_ := hall 10 (by kernel_rfl)
                have hb11_ := hall 11 (by kernel_rfl)
                have hb12_ := hall 12 (by kernel_rfl)
                have hb13_ := hall 13 (by kernel_rfl)
                have hb14_ := hall 14 (by kernel_rfl)
                have hb15_ := hall 15 (by kernel_rfl)
                have hb16_ := hall 16 (by kernel_rfl)
                have hb17_ := hall 17 (by kernel_rfl)
                subst ha
                simp only [putSel, hb0_, hb1_, hb2_, hb3_, hb4_, hb5_, hb6_, hb7_, hb8_, hb9_, hb10_, hb11_, hb12_, hb13_, hb14_, hb15_, hb16_, hb17_, if_true, Act.put, List.setIfInBounds_toArray, List.set_cons_zero, List.set_cons_succ]
                replace HBM := Aside0.mk (below_step HBM.out QB)
                have HF := Aside0.mk (show b2 = u4 ++ (y.f3.take (m + 1)).flatMap Pen.backT by
                  rw [← HTM.out, HEb2.out, HEb1.out, HB0.out, Ttv.out]
                  unfold Pen.backT Pen.numsT
                  simp)
                clear QB hw lb lb2 HCb1 HZb1 HEb1 HCb2 HZb2 HEb2 f3b f3n s1b f3' s1' y3_
                go_wp2_with fail
                go_roundg k3
                case measure => have := HM2.out; omega
                case rel =>
                  have h1 := HM2.out
                  have h2 := HSY.out.n
                  exact ⟨m + 1, by rw [HF.out], by first | rfl | rw [show wrap64 ((m : Int) + 1) = ((m + 1 : Nat) : Int) by unfold wrap64; omega], ⟨by omega, by omega⟩, HBM⟩


end Go.Proofs.YtnojgkiaolmoeaaDoor.PSc
end
section
/- Contracts: what calls of these functions of the program do, each as a plain function; written by a program of this session. -/
namespace Go.Proofs.YtnojgkiaolmoeaaDoor.PSc
open Go.RowKit Go.Proofs.YtnojgkiaolmoeaaDoorW.PrintWords Go.Proofs.YtnojgkiaolmoeaaDoorW.PrintLast Go.Proofs.YtnojgkiaolmoeaaDoorW.PrintMore
attribute [local go_sem] max2_int min2_int max_two min_two max_three min_three max_four min_four   -- for this text's walks alone
set_option linter.unusedVariables false
set_option linter.unusedSimpArgs false

/-! ### script_Parse: function 10, by hand -/
def parseL : Nat → List S40 → Take.Ms → List S40 × Take.Ms
 | 0, acc, s => (acc, s)
 | f + 1, acc, s => if s.1 ≠ [] ∧ s.2 = false ∧ acc.length ≤ 256 then parseL f (acc ++ [(Take.actM s).1]) (Take.actM s).2 else (acc, s)
def script_Parse.f (k : Nat) (a0 : ByteArray) : Option (List S40 × Int) := if a0.size ≤ 281474976710656 then (script_Show.f k (parseL 258 [] (a0.data.toList, false)).1).bind fun u => (if (parseL 258 [] (a0.data.toList, false)).2.2 = true then some ([], 2300) else (if u.2 = 0 then (if u.1 = a0 then some ((parseL 258 [] (a0.data.toList, false)).1, 0) else some ([], 2300)) else some ([], 2300))) else none
theorem script_Parse.mono : ∀ a0 k, LeO (script_Parse.f k a0) (script_Parse.f (k + 1) a0) := by
 intro a0 k
 unfold script_Parse.f
 split
 ·exact LeO.bind (script_Show.mono _ _) (fun _ => LeO.refl _)
 ·exact LeO.refl _
theorem script_Parse.info : (Tryd.prog.info? 40).map (fun i => (i.zero, i.size, i.bytes)) = some (some (.agg #[(.int .i64 0), (.int .i64 0), (.int .i64 0), (.int .i64 0), (.int .i64 0), (.int .i64 0), (.bool false), (.string (⟨#[]⟩ : ByteArray)), (.int .i64 0), (.slice none 0 0)]), 10, 104) := by kernel_rfl
theorem bytes_ne {a b : ByteArray} (h : a ≠ b) : (a.toList == b.toList) = false := by
 rw [beq_eq_false_iff_ne]
 intro e
 apply h
 rw [ByteArray.toList_eq, ByteArray.toList_eq] at e
 cases a; cases b
 congr 1
 exact Array.toList_inj.1 e
set_option maxHeartbeats 4000000 in
set_option maxRecDepth 100000 in
theorem script_Parse.calls (k : Nat) (a0 : ByteArray) (r1 : List S40) (r2 : Int) (w : World) (ht : Take.Laid w) (h : script_Parse.f k a0 = some (r1, r2)) :
  Calls Tryd.prog 10 #[.string a0] w fun e w' => ∃ v0_ : Value, e = .returned (.tuple #[v0_, .int .i64 r2]) ∧ Kd.R k40 40 w' w.heap.size (fun _ => True) v0_ r1 ∧ Below w.heap.size w w' := by
 have hu := Tryd.underlying68
 have hu2 := Tryd.underlying40
 have HE : Aside0 (Take.Errs w) := ⟨fun w1 hb => (ht.below hb).2⟩
 have HLD := Aside0.mk ht
 unfold script_Parse.f at h
 by_cases hsz : a0.size ≤ 281474976710656
 case neg => rw [if_neg hsz] at h; cases h
 rw [if_pos hsz] at h
 obtain ⟨RR, hRR⟩ : ∃ R, parseL 258 [] (a0.data.toList, false) = R := ⟨_, rfl⟩
 rw [hRR] at h
 have HRR := Aside0.mk hRR
 have HH := Aside0.mk h
 have HZ := Aside0.mk hsz
 clear h hRR hsz ht
 go_enter Tryd.func10, Tryd.ntmps10
 go_wp2_with fail
 obtain ⟨g, hg⟩ : ∃ n, n = w.heap.size := ⟨_, rfl⟩
 obtain ⟨wE, hwE⟩ : ∃ x_, x_ = w.alloc (.cells #[.string a0, .bool false] 68) := ⟨_, rfl⟩
 have T0 := Aside0.mk (show Take.Tk w g a0.data.toList false wE from ⟨by rw [hwE, hg]; exact heap_alloc_new w _, by rw [hwE]; exact below_alloc (Below.refl _ _) _, by omega, HZ.out⟩)
 have HGE := Aside0.mk T0.out.lt
 have HW0 := Aside0.mk T0.out.sz
 rw [← hwE, ← hg]
 clear hwE hg
 go_loopg [5] 258 (fun kq v5 w' => ∃ (v : Value) (xs : List S40) (s : Take.Ms), v5 = v ∧ Aside0 (xs.length ≤ 257 ∧ kq + xs.length = 258) ∧ Aside0 (Take.Tk w g s.1 s.2 w') ∧ Aside0 (wE.heap.size ≤ w'.heap.size) ∧ Aside0 (Kd.R k40 40 w' wE.heap.size (fun _ => True) v xs) ∧ Aside0 (parseL kq xs s = RR))
 case atStart => exact ⟨_, [], (a0.data.toList, false), rfl, ⟨by simp, rfl⟩, T0, ⟨Nat.le_refl _⟩, ⟨Kd.R_nil _ _ _ _ _⟩, HRR⟩
 case round =>
  clear T0 HRR
  obtain ⟨v, xs, s, rfl, HX, HTK, HSZ0, HRW0, HR⟩ := hrel
  obtain ⟨A, cc, rfl⟩ := Kd.R_slice HRW0.out
  cases gk with
  | zero => have := HX.out; omega
  | succ k1 =>
   have q0 := HTK.out.c0
   have q1 := HTK.out.c1
   cases hl : s.1 with
   | nil =>
    have hcond : ¬ (s.1 ≠ [] ∧ s.2 = false ∧ xs.length ≤ 256) := fun q => q.1 hl
    have hr := HR.out
    rw [parseL, if_neg hcond] at hr
    have HFF := Aside0.mk (show (script_Show.f k xs).bind (fun u => (if s.2 = true then some ([], 2300) else (if u.2 = 0 then (if u.1 = a0 then some (xs, 0) else some ([], 2300)) else some ([], 2300)))) = some (r1, r2) by have h9 := HH.out; rw [← hr] at h9; exact h9)
    clear hr HR HH
    rw [hl] at q0 HTK
    clear hcond
    obtain ⟨⟨u1, u2⟩, hsh, hh⟩ := Option.bind_eq_some_iff.mp HFF.out
    have HSH := Aside0.mk hsh
    clear hsh
    cases hs2 : s.2
    ·rw [hs2] at hh HTK
     rw [if_neg (by decide)] at hh
     by_cases h0 : u2 = 0
     ·rw [if_pos h0] at hh
      subst h0
      by_cases h1 : u1 = a0
      ·rw [if_pos h1] at hh
       obtain ⟨rfl, rfl⟩ : xs = r1 ∧ 0 = r2 := by simpa using hh
       subst h1
       clear hh
       go_wp2_with (go_at_call 8; refine (script_Show.calls k A cc xs _ _ _ (Kd.R_reads' HRW0.out).2.2 (Kd.R_reads' HRW0.out).2.1 (HLD.out.below HTK.out.low) HSH.out).mono ?_; rintro e w6 ⟨rfl, hb⟩; have T6 := Aside0.mk (HTK.out.next hb); have R6 := Aside0.mk (Kd.R_below HRW0.out hb); clear q0 q1; have q1 := T6.out.c1; clear hb)
       go_ret2
       exact ⟨_, rfl, Kd.R_lower R6.out HW0.out, T6.out.low⟩
      ·rw [if_neg h1] at hh
       obtain ⟨rfl, rfl⟩ : [] = r1 ∧ 2300 = r2 := by simpa using hh
       have hne := bytes_ne h1
       clear hh h1
       go_wp2_with (go_at_call 8; refine (script_Show.calls k A cc xs _ _ _ (Kd.R_reads' HRW0.out).2.2 (Kd.R_reads' HRW0.out).2.1 (HLD.out.below HTK.out.low) HSH.out).mono ?_; rintro e w6 ⟨rfl, hb⟩; have T6 := Aside0.mk (HTK.out.next hb); have R6 := Aside0.mk (Kd.R_below HRW0.out hb); clear q0 q1; have q1 := T6.out.c1; clear hb)
       go_ret2
       exact ⟨_, rfl, Kd.R_nil _ _ _ _ _, T6.out.low⟩
     ·rw [if_neg h0] at hh
      obtain ⟨rfl, rfl⟩ : [] = r1 ∧ 2300 = r2 := by simpa using hh
      have h0b : (u2 != 0) = true := bne_iff_ne.2 h0
      have h0c : (u2 == 0) = false := beq_eq_false_iff_ne.2 h0
      clear hh h0
      go_wp2_with (go_at_call 8; refine (script_Show.calls k A cc xs _ _ _ (Kd.R_reads' HRW0.out).2.2 (Kd.R_reads' HRW0.out).2.1 (HLD.out.below HTK.out.low) HSH.out).mono ?_; rintro e w6 ⟨rfl, hb⟩; have T6 := Aside0.mk (HTK.out.next hb); have R6 := Aside0.mk (Kd.R_below HRW0.out hb); clear q0 q1; have q1 := T6.out.c1; clear hb)
      go_ret2
      exact ⟨_, rfl, Kd.R_nil _ _ _ _ _, T6.out.low⟩
    ·rw [hs2] at hh HTK
     rw [if_pos rfl] at hh
     obtain ⟨rfl, rfl⟩ : [] = r1 ∧ 2300 = r2 := by simpa using hh
     clear hh
     go_wp2_with (go_at_call 8; refine (script_Show.calls k A cc xs _ _ _ (Kd.R_reads' HRW0.out).2.2 (Kd.R_reads' HRW0.out).2.1 (HLD.out.below HTK.out.low) HSH.out).mono ?_; rintro e w6 ⟨rfl, hb⟩; have T6 := Aside0.mk (HTK.out.next hb); have R6 := Aside0.mk (Kd.R_below HRW0.out hb); clear q0 q1; have q1 := T6.out.c1; clear hb)
     go_ret2
     exact ⟨_, rfl, Kd.R_nil _ _ _ _ _, T6.out.low⟩
   | cons b0 br =>
    rw [hl] at q0
    by_cases hc2 : s.2 = false
    ·by_cases hc3 : xs.length ≤ 256
     ·have hr := HR.out
      rw [parseL, if_pos ⟨by rw [hl]; simp, hc2, hc3⟩] at hr
      obtain ⟨⟨x, sF⟩, ham⟩ : ∃ k, Take.actM s = k := ⟨_, rfl⟩
      rw [ham] at hr
      have HAM := Aside0.mk ham
      have HR2 := Aside0.mk hr
      have HX3 := Aside0.mk hc3
      have i3b : decide ((xs.length : Int) ≤ 256) = true := decide_eq_true (by omega)
      rw [hc2] at q1
      clear hr ham HR hl hc2 hc3 HH
      go_wp2_with (first | (go_at_call 25; refine (Take.act w g s wr HTK.out HE x sF HAM.out).mono ?_; rintro e w6 ⟨v9, rfl, hv, hT, hF⟩; have T6 := Aside0.mk hT; have HWS := Aside0.mk HSZ0.out; have HSZ := Aside0.mk (Nat.le_trans HSZ0.out hF.size); have HV := Aside0.mk hv; have HRW := Aside0.mk (Kd.R_mono (Kd.R_step (Kd.R_types HRW0.out HTK.out.blk (by decide)) (fun k hk hlt => hF.blk k hlt hk.2)) (fun _ _ => trivial)); clear hv hT hF q0 q1) | ((with_reducible refine gate_builtin (b := .append) (xs := #[.tmp 28, .tmp 31]) rfl ?_); at_builtin; refine Kd.R_append k40 (w0 := w6) wE.heap.size rfl (.tmp 28) (.tmp 31) 22 40 (.agg #[(.int .i64 0), (.int .i64 0), (.int .i64 0), (.int .i64 0), (.int .i64 0), (.int .i64 0), (.bool false), (.string (⟨#[]⟩ : ByteArray)), (.int .i64 0), (.slice none 0 0)]) 104 rfl Tryd.underlying22 script_Parse.info rfl (by decide) (by omega) (.slice A xs.length cc) xs x [.int .i64 x.f0, .int .i64 x.f1, .int .i64 x.f2, .int .i64 x.f3, .int .i64 x.f4, .int .i64 x.f5, .bool x.f6, .string x.f7, .int .i64 x.f8.f0, v9] (fun _ => True) (fun k => True ∧ some k ≠ (.slice A xs.length cc : Value).ownBlock) rfl rfl ?aP (fun _ hk => ⟨trivial, hk.2⟩) ?aF ?aO ?aB ?aS ?aL ?_; (case aP => exact k40_mkM _ _ _ x (Kd.R_apartR (Kd.R_lower HV.out HWS.out) HRW.out (by decide))); (case aB => exact Below.refl _ _); (case aF => exact (fun _ _ => trivial)); (case aO => exact HRW.out); (case aS => exact HSZ.out); (case aL => have := HX3.out; omega); intro vN w7 ho hb hg hat; have HRW2 := Aside0.mk ho; have T7 := Aside0.mk (T6.out.lowN hb HGE.out HW0.out); have S7 := Aside0.mk (Nat.le_trans HSZ.out hb.size); clear ho hb hg hat))
      go_roundg k1
      case measure => have := HX.out; omega
      case rel =>
       have h1 := HX.out
       have h2 := HX3.out
       exact ⟨_, xs ++ [x], sF, rfl, ⟨by rw [List.length_append, List.length_singleton]; omega, by rw [List.length_append, List.length_singleton]; omega⟩, T7, S7, HRW2, HR2⟩
     ·have hcond : ¬ (s.1 ≠ [] ∧ s.2 = false ∧ xs.length ≤ 256) := fun q => hc3 q.2.2
      have hr := HR.out
      rw [parseL, if_neg hcond] at hr
      have HFF := Aside0.mk (show (script_Show.f k xs).bind (fun u => (if s.2 = true then some ([], 2300) else (if u.2 = 0 then (if u.1 = a0 then some (xs, 0) else some ([], 2300)) else some ([], 2300)))) = some (r1, r2) by have h9 := HH.out; rw [← hr] at h9; exact h9)
      clear hr HR HH
      have i3b : decide ((xs.length : Int) ≤ 256) = false := decide_eq_false (by omega)
      rw [hc2] at q1
      clear hcond hc3 hl
      obtain ⟨⟨u1, u2⟩, hsh, hh⟩ := Option.bind_eq_some_iff.mp HFF.out
      have HSH := Aside0.mk hsh
      clear hsh
      cases hs2 : s.2
      ·rw [hs2] at hh HTK
       rw [if_neg (by decide)] at hh
       by_cases h0 : u2 = 0
       ·rw [if_pos h0] at hh
        subst h0
        by_cases h1 : u1 = a0
        ·rw [if_pos h1] at hh
         obtain ⟨rfl, rfl⟩ : xs = r1 ∧ 0 = r2 := by simpa using hh
         subst h1
         clear hh
         go_wp2_with (go_at_call 8; refine (script_Show.calls k A cc xs _ _ _ (Kd.R_reads' HRW0.out).2.2 (Kd.R_reads' HRW0.out).2.1 (HLD.out.below HTK.out.low) HSH.out).mono ?_; rintro e w6 ⟨rfl, hb⟩; have T6 := Aside0.mk (HTK.out.next hb); have R6 := Aside0.mk (Kd.R_below HRW0.out hb); clear q0 q1; have q1 := T6.out.c1; clear hb)
         go_ret2
         exact ⟨_, rfl, Kd.R_lower R6.out HW0.out, T6.out.low⟩
        ·rw [if_neg h1] at hh
         obtain ⟨rfl, rfl⟩ : [] = r1 ∧ 2300 = r2 := by simpa using hh
         have hne := bytes_ne h1
         clear hh h1
         go_wp2_with (go_at_call 8; refine (script_Show.calls k A cc xs _ _ _ (Kd.R_reads' HRW0.out).2.2 (Kd.R_reads' HRW0.out).2.1 (HLD.out.below HTK.out.low) HSH.out).mono ?_; rintro e w6 ⟨rfl, hb⟩; have T6 := Aside0.mk (HTK.out.next hb); have R6 := Aside0.mk (Kd.R_below HRW0.out hb); clear q0 q1; have q1 := T6.out.c1; clear hb)
         go_ret2
         exact ⟨_, rfl, Kd.R_nil _ _ _ _ _, T6.out.low⟩
       ·rw [if_neg h0] at hh
        obtain ⟨rfl, rfl⟩ : [] = r1 ∧ 2300 = r2 := by simpa using hh
        have h0b : (u2 != 0) = true := bne_iff_ne.2 h0
        have h0c : (u2 == 0) = false := beq_eq_false_iff_ne.2 h0
        clear hh h0
        go_wp2_with (go_at_call 8; refine (script_Show.calls k A cc xs _ _ _ (Kd.R_reads' HRW0.out).2.2 (Kd.R_reads' HRW0.out).2.1 (HLD.out.below HTK.out.low) HSH.out).mono ?_; rintro e w6 ⟨rfl, hb⟩; have T6 := Aside0.mk (HTK.out.next hb); have R6 := Aside0.mk (Kd.R_below HRW0.out hb); clear q0 q1; have q1 := T6.out.c1; clear hb)
        go_ret2
        exact ⟨_, rfl, Kd.R_nil _ _ _ _ _, T6.out.low⟩
      ·rw [hs2] at hh HTK
       rw [if_pos rfl] at hh
       obtain ⟨rfl, rfl⟩ : [] = r1 ∧ 2300 = r2 := by simpa using hh
       clear hh
       go_wp2_with (go_at_call 8; refine (script_Show.calls k A cc xs _ _ _ (Kd.R_reads' HRW0.out).2.2 (Kd.R_reads' HRW0.out).2.1 (HLD.out.below HTK.out.low) HSH.out).mono ?_; rintro e w6 ⟨rfl, hb⟩; have T6 := Aside0.mk (HTK.out.next hb); have R6 := Aside0.mk (Kd.R_below HRW0.out hb); clear q0 q1; have q1 := T6.out.c1; clear hb)
       go_ret2
       exact ⟨_, rfl, Kd.R_nil _ _ _ _ _, T6.out.low⟩
    ·have hc2t : s.2 = true := by simpa using hc2
     have hcond : ¬ (s.1 ≠ [] ∧ s.2 = false ∧ xs.length ≤ 256) := fun q => hc2 q.2.1
     have hr := HR.out
     rw [parseL, if_neg hcond] at hr
     have HFF := Aside0.mk (show (script_Show.f k xs).bind (fun u => (if s.2 = true then some ([], 2300) else (if u.2 = 0 then (if u.1 = a0 then some (xs, 0) else some ([], 2300)) else some ([], 2300)))) = some (r1, r2) by have h9 := HH.out; rw [← hr] at h9; exact h9)
     clear hr HR HH
     rw [hc2t] at q1
     clear hcond hl
     obtain ⟨⟨u1, u2⟩, hsh, hh⟩ := Option.bind_eq_some_iff.mp HFF.out
     have HSH := Aside0.mk hsh
     clear hsh
     cases hs2 : s.2
     ·rw [hs2] at hh HTK
      rw [if_neg (by decide)] at hh
      by_cases h0 : u2 = 0
      ·rw [if_pos h0] at hh
       subst h0
       by_cases h1 : u1 = a0
       ·rw [if_pos h1] at hh
        obtain ⟨rfl, rfl⟩ : xs = r1 ∧ 0 = r2 := by simpa using hh
        subst h1
        clear hh
        go_wp2_with (go_at_call 8; refine (script_Show.calls k A cc xs _ _ _ (Kd.R_reads' HRW0.out).2.2 (Kd.R_reads' HRW0.out).2.1 (HLD.out.below HTK.out.low) HSH.out).mono ?_; rintro e w6 ⟨rfl, hb⟩; have T6 := Aside0.mk (HTK.out.next hb); have R6 := Aside0.mk (Kd.R_below HRW0.out hb); clear q0 q1; have q1 := T6.out.c1; clear hb)
        go_ret2
        exact ⟨_, rfl, Kd.R_lower R6.out HW0.out, T6.out.low⟩
       ·rw [if_neg h1] at hh
        obtain ⟨rfl, rfl⟩ : [] = r1 ∧ 2300 = r2 := by simpa using hh
        have hne := bytes_ne h1
        clear hh h1
        go_wp2_with (go_at_call 8; refine (script_Show.calls k A cc xs _ _ _ (Kd.R_reads' HRW0.out).2.2 (Kd.R_reads' HRW0.out).2.1 (HLD.out.below HTK.out.low) HSH.out).mono ?_; rintro e w6 ⟨rfl, hb⟩; have T6 := Aside0.mk (HTK.out.next hb); have R6 := Aside0.mk (Kd.R_below HRW0.out hb); clear q0 q1; have q1 := T6.out.c1; clear hb)
        go_ret2
        exact ⟨_, rfl, Kd.R_nil _ _ _ _ _, T6.out.low⟩
      ·rw [if_neg h0] at hh
       obtain ⟨rfl, rfl⟩ : [] = r1 ∧ 2300 = r2 := by simpa using hh
       have h0b : (u2 != 0) = true := bne_iff_ne.2 h0
       have h0c : (u2 == 0) = false := beq_eq_false_iff_ne.2 h0
       clear hh h0
       go_wp2_with (go_at_call 8; refine (script_Show.calls k A cc xs _ _ _ (Kd.R_reads' HRW0.out).2.2 (Kd.R_reads' HRW0.out).2.1 (HLD.out.below HTK.out.low) HSH.out).mono ?_; rintro e w6 ⟨rfl, hb⟩; have T6 := Aside0.mk (HTK.out.next hb); have R6 := Aside0.mk (Kd.R_below HRW0.out hb); clear q0 q1; have q1 := T6.out.c1; clear hb)
       go_ret2
       exact ⟨_, rfl, Kd.R_nil _ _ _ _ _, T6.out.low⟩
     ·rw [hs2] at hh HTK
      rw [if_pos rfl] at hh
      obtain ⟨rfl, rfl⟩ : [] = r1 ∧ 2300 = r2 := by simpa using hh
      clear hh
      go_wp2_with (go_at_call 8; refine (script_Show.calls k A cc xs _ _ _ (Kd.R_reads' HRW0.out).2.2 (Kd.R_reads' HRW0.out).2.1 (HLD.out.below HTK.out.low) HSH.out).mono ?_; rintro e w6 ⟨rfl, hb⟩; have T6 := Aside0.mk (HTK.out.next hb); have R6 := Aside0.mk (Kd.R_below HRW0.out hb); clear q0 q1; have q1 := T6.out.c1; clear hb)
      go_ret2
      exact ⟨_, rfl, Kd.R_nil _ _ _ _ _, T6.out.low⟩


end Go.Proofs.YtnojgkiaolmoeaaDoor.PSc
end
section
/- Contracts: what calls of these functions of the program do, each as a plain function; written by a program of this session. -/
namespace Go.Proofs.YtnojgkiaolmoeaaDoor.PSc
open Go.RowKit Go.Proofs.YtnojgkiaolmoeaaDoorW.PrintWords Go.Proofs.YtnojgkiaolmoeaaDoorW.PrintLast Go.Proofs.YtnojgkiaolmoeaaDoorW.PrintMore
attribute [local go_sem] max2_int min2_int max_two min_two max_three min_three max_four min_four   -- for this text's walks alone
set_option linter.unusedVariables false
set_option linter.unusedSimpArgs false

/-- A state of type 72 at block g of W; what its slices lead to came in by w0. -/
def IsS72 (w0 W : World) (g : Nat) (f0 : ByteArray) (f1 : Int) (f2 : Bool) : Prop := W.heap[g]? = some (.cells #[.string f0, .int .i64 f1, .bool f2] 72 (0, 0)) ∧ w0.heap.size ≤ g
theorem IsS72.grown {w0 W : World} {g : Nat} {f0 : ByteArray} {f1 : Int} {f2 : Bool} {W1 : World} {row : Option Nat} (h : IsS72 w0 W g f0 f1 f2) (hw : W.grownBy W1 row) (hne : some g ≠ row) : IsS72 w0 W1 g f0 f1 f2 := by
 obtain ⟨hb, hg⟩ := h
 exact ⟨blk_grown hb hw hne, hg⟩
theorem IsS72.fresh {w0 W : World} {g : Nat} {f0 : ByteArray} {f1 : Int} {f2 : Bool} (h : IsS72 w0 W g f0 f1 f2) : ∀ k, W.heap.size ≤ k → k ≠ g := by
 obtain ⟨hb, hg⟩ := h
 exact Kd.freshB hb
theorem IsS72.kept {w0 W : World} {g : Nat} {f0 : ByteArray} {f1 : Int} {f2 : Bool} {W1 : World} {S : Nat → Prop} (h : IsS72 w0 W g f0 f1 f2) (hk : Kept W W1 S) (hne : ¬ S g) : IsS72 w0 W1 g f0 f1 f2 := by
 obtain ⟨hb, hg⟩ := h
 exact ⟨blk_kept hb hk hne, hg⟩
theorem IsS72.below {w0 W : World} {g : Nat} {f0 : ByteArray} {f1 : Int} {f2 : Bool} {W1 : World} (h : IsS72 w0 W g f0 f1 f2) (hw : Below W.heap.size W W1) : IsS72 w0 W1 g f0 f1 f2 := h.grown (grown_of_below hw none) (by simp)
theorem IsS72.alloc {w0 W : World} {g : Nat} {f0 : ByteArray} {f1 : Int} {f2 : Bool} (h : IsS72 w0 W g f0 f1 f2) (o : Obj) : IsS72 w0 (W.alloc o) g f0 f1 f2 := h.below (below_alloc (Below.refl _ _) o)
theorem IsS72.drewN {w0 W : World} {g : Nat} {f0 : ByteArray} {f1 : Int} {f2 : Bool} (h : IsS72 w0 W g f0 f1 f2) (m : Nat) : IsS72 w0 (W.drewN m) g f0 f1 f2 := h
theorem IsS72.drew {w0 W : World} {g : Nat} {f0 : ByteArray} {f1 : Int} {f2 : Bool} (h : IsS72 w0 W g f0 f1 f2) : IsS72 w0 W.drew g f0 f1 f2 := h
theorem IsS72.apart {w0 W : World} {g : Nat} {f0 : ByteArray} {f1 : Int} {f2 : Bool} {α : Type} {d : Kd α} {e : Nat} {base : Nat} {ok : Nat → Prop} {v : Value} {xs : List α} (h : IsS72 w0 W g f0 f1 f2) (ho : d.R e W base ok v xs) (ht : ∀ q, q ∈ e :: d.E → q ≠ 72) : d.R e W base (fun k => ok k ∧ k ≠ g) v xs := by
 obtain ⟨hb, hg⟩ := h
 exact Kd.R_types ho hb ht
theorem IsS72.own_ne {w0 W : World} {g : Nat} {f0 : ByteArray} {f1 : Int} {f2 : Bool} {α : Type} {d : Kd α} {e : Nat} {base : Nat} {ok : Nat → Prop} {v : Value} {xs : List α} (h : IsS72 w0 W g f0 f1 f2) (ho : d.R e W base ok v xs) (ht : e ≠ 72) : some g ≠ v.ownBlock := by
 obtain ⟨hb, hg⟩ := h
 exact Kd.R_ne ho hb ht
theorem IsS72.lt {w0 W : World} {g : Nat} {f0 : ByteArray} {f1 : Int} {f2 : Bool} (h : IsS72 w0 W g f0 f1 f2) : g < W.heap.size := by
 obtain ⟨hb, hg⟩ := h
 exact blk_lt hb
theorem IsS72.ge {w0 W : World} {g : Nat} {f0 : ByteArray} {f1 : Int} {f2 : Bool} (h : IsS72 w0 W g f0 f1 f2) : w0.heap.size ≤ g := by
 obtain ⟨hb, hg⟩ := h
 exact hg
theorem cellS72_0 {W : World} {g : Nat} {f0 : ByteArray} {f1 : Int} {f2 : Bool} (h : W.heap[g]? = some (.cells #[.string f0, .int .i64 f1, .bool f2] 72 (0, 0))) : W.cell? ⟨g, 0, none⟩ = some (.string f0) := (blk_cell h 0).trans rfl
theorem IsS72.set_0 {w0 W : World} {g : Nat} {f0 : ByteArray} {f1 : Int} {f2 : Bool} (h : IsS72 w0 W g f0 f1 f2) (x : ByteArray) : IsS72 w0 (W.setCell ⟨g, 0, none⟩ (.string x)) g x f1 f2 := by
 obtain ⟨hb, hg⟩ := h
 exact ⟨by simpa using blk_set hb 0 (.string x), hg⟩
theorem cellS72_1 {W : World} {g : Nat} {f0 : ByteArray} {f1 : Int} {f2 : Bool} (h : W.heap[g]? = some (.cells #[.string f0, .int .i64 f1, .bool f2] 72 (0, 0))) : W.cell? ⟨g, 1, none⟩ = some (.int .i64 f1) := (blk_cell h 1).trans rfl
theorem IsS72.set_1 {w0 W : World} {g : Nat} {f0 : ByteArray} {f1 : Int} {f2 : Bool} (h : IsS72 w0 W g f0 f1 f2) (x : Int) : IsS72 w0 (W.setCell ⟨g, 1, none⟩ (.int .i64 x)) g f0 x f2 := by
 obtain ⟨hb, hg⟩ := h
 exact ⟨by simpa using blk_set hb 1 (.int .i64 x), hg⟩
theorem cellS72_2 {W : World} {g : Nat} {f0 : ByteArray} {f1 : Int} {f2 : Bool} (h : W.heap[g]? = some (.cells #[.string f0, .int .i64 f1, .bool f2] 72 (0, 0))) : W.cell? ⟨g, 2, none⟩ = some (.bool f2) := (blk_cell h 2).trans rfl
theorem IsS72.set_2 {w0 W : World} {g : Nat} {f0 : ByteArray} {f1 : Int} {f2 : Bool} (h : IsS72 w0 W g f0 f1 f2) (x : Bool) : IsS72 w0 (W.setCell ⟨g, 2, none⟩ (.bool x)) g f0 f1 x := by
 obtain ⟨hb, hg⟩ := h
 exact ⟨by simpa using blk_set hb 2 (.bool x), hg⟩
/-! ### wharfageref19_words_is: function 27 -/
def wharfageref19_words_is.f (s0_0 : ByteArray) (s0_1 : Int) (s0_2 : Bool) (a1 : Int) : Option (Bool × ByteArray × Int × Bool) := if s0_2 = true then (some (false, s0_0, wrap64 (s0_1 + 1), true)) else (if (wrap64 (s0_1 + 1)) > (s0_0.size : Int) then (some (false, s0_0, wrap64 (s0_1 + 1), true)) else (if 0 ≤ (wrap64 ((wrap64 (s0_1 + 1)) - 1)) then (if (wrap64 ((wrap64 (s0_1 + 1)) - 1)) < (s0_0.size : Int) then (some (((bt s0_0 (wrap64 ((wrap64 (s0_1 + 1)) - 1))) == a1), s0_0, wrap64 (s0_1 + 1), s0_2)) else (none)) else (none)))
set_option maxHeartbeats 8000000 in
set_option maxRecDepth 100000 in
theorem wharfageref19_words_is.calls (g : Nat) (s0_0 : ByteArray) (s0_1 : Int) (s0_2 : Bool) (a1 : Int) (r1 : Bool) (r2 : ByteArray) (r3 : Int) (r4 : Bool) (w0 w : World) (hI : IsS72 w0 w g s0_0 s0_1 s0_2) (hB : Below w0.heap.size w0 w) (h : wharfageref19_words_is.f s0_0 s0_1 s0_2 a1 = some (r1, r2, r3, r4)) :
  Calls Tryd.prog 27 #[.pointer (some ⟨g, 0, none⟩), .int .u8 a1] w fun e w' => e = .returned (.bool r1) ∧ IsS72 w0 w' g r2 r3 r4 ∧ Below w0.heap.size w0 w' ∧ KeepBut w w' g none := by
 have HI0 := Aside0.mk hI
 have HK := Aside0.mk (KeepBut.refl w g none)
 have HL := Aside0.mk hB.size
 clear hI
 have HW0 := Aside0.mk hB.size
 have HB := Aside0.mk hB
 clear hB
 have H : (if s0_2 = true then (some (false, s0_0, wrap64 (s0_1 + 1), true)) else (if (wrap64 (s0_1 + 1)) > (s0_0.size : Int) then (some (false, s0_0, wrap64 (s0_1 + 1), true)) else (if 0 ≤ (wrap64 ((wrap64 (s0_1 + 1)) - 1)) then (if (wrap64 ((wrap64 (s0_1 + 1)) - 1)) < (s0_0.size : Int) then (some (((bt s0_0 (wrap64 ((wrap64 (s0_1 + 1)) - 1))) == a1), s0_0, wrap64 (s0_1 + 1), s0_2)) else (none)) else (none)))) = some (r1, r2, r3, r4) := h
 clear h
 by_cases c3 : s0_2 = true
 ·subst c3
  have H1 : (some (false, s0_0, wrap64 (s0_1 + 1), true)) = some (r1, r2, r3, r4) := by rw [if_pos rfl] at H; exact H
  clear H
  have H := H1
  clear H1
  simp only [Option.some.injEq, Prod.mk.injEq] at H
  obtain ⟨rfl, rfl, rfl, rfl⟩ := H
  obtain ⟨HGz4, hgz4⟩ := HI0.out
  have hcz4_0 := cellS72_0 HGz4
  have hcz4_1 := cellS72_1 HGz4
  have hcz4_2 := cellS72_2 HGz4
  have hfz4_0 := blk_frozen HGz4 0
  have hfz4_1 := blk_frozen HGz4 1
  have hfz4_2 := blk_frozen HGz4 2
  clear HGz4 hgz4
  go_enter Tryd.func27, Tryd.ntmps27
  go_wp2
  repeat (go_quiet (fail); try go_wp2)
  go_ret
  exact ⟨by first | rfl | (simp [errW_none, errW_some] <;> rfl) | (simp [*, errW_none, errW_some] <;> rfl), by repeat (first | (with_reducible first | exact HI0.out | apply IsS72.alloc | apply IsS72.drewN | apply IsS72.drew | apply IsS72.set_0 | apply IsS72.set_1 | apply IsS72.set_2) | exact HI0.out), by repeat (first | (with_reducible first | exact HB.out | apply below_alloc | apply pw_below_drewN | apply below_drew1 | refine below_set ?_ (IsS72.ge HI0.out)) | exact HB.out), by repeat (first | (with_reducible first | exact HK.out | apply KeepBut.set_ | apply keep_drewN | apply keep_drew | apply keep_alloc) | exact HK.out)⟩
 ·replace c3 := Bool.eq_false_iff.mpr c3
  subst c3
  have H1 : (if (wrap64 (s0_1 + 1)) > (s0_0.size : Int) then (some (false, s0_0, wrap64 (s0_1 + 1), true)) else (if 0 ≤ (wrap64 ((wrap64 (s0_1 + 1)) - 1)) then (if (wrap64 ((wrap64 (s0_1 + 1)) - 1)) < (s0_0.size : Int) then (some (((bt s0_0 (wrap64 ((wrap64 (s0_1 + 1)) - 1))) == a1), s0_0, wrap64 (s0_1 + 1), false)) else (none)) else (none))) = some (r1, r2, r3, r4) := by rw [if_neg (show ¬ (false = true) by decide)] at H; exact H
  clear H
  have H := H1
  clear H1
  by_cases c5 : (wrap64 (s0_1 + 1)) > (s0_0.size : Int)
  ·rw [if_pos c5] at H
   have c5b0 : decide ((s0_0.size : Int) < (wrap64 (s0_1 + 1))) = true := decide_eq_true c5
   clear c5
   simp only [Option.some.injEq, Prod.mk.injEq] at H
   obtain ⟨rfl, rfl, rfl, rfl⟩ := H
   obtain ⟨HGz6, hgz6⟩ := HI0.out
   have hcz6_0 := cellS72_0 HGz6
   have hcz6_1 := cellS72_1 HGz6
   have hcz6_2 := cellS72_2 HGz6
   have hfz6_0 := blk_frozen HGz6 0
   have hfz6_1 := blk_frozen HGz6 1
   have hfz6_2 := blk_frozen HGz6 2
   clear HGz6 hgz6
   go_enter Tryd.func27, Tryd.ntmps27
   go_wp2
   repeat (go_quiet (fail); try go_wp2)
   go_ret
   exact ⟨by first | rfl | (simp [errW_none, errW_some] <;> rfl) | (simp [*, errW_none, errW_some] <;> rfl), by repeat (first | (with_reducible first | exact HI0.out | apply IsS72.alloc | apply IsS72.drewN | apply IsS72.drew | apply IsS72.set_0 | apply IsS72.set_1 | apply IsS72.set_2) | exact HI0.out), by repeat (first | (with_reducible first | exact HB.out | apply below_alloc | apply pw_below_drewN | apply below_drew1 | refine below_set ?_ (IsS72.ge HI0.out)) | exact HB.out), by repeat (first | (with_reducible first | exact HK.out | apply KeepBut.set_ | apply keep_drewN | apply keep_drew | apply keep_alloc) | exact HK.out)⟩
  ·rw [if_neg c5] at H
   have c5b0 : decide ((s0_0.size : Int) < (wrap64 (s0_1 + 1))) = false := decide_eq_false c5
   clear c5
   obtain ⟨ji7, hji7⟩ : ∃ j_ : Int, (wrap64 ((wrap64 (s0_1 + 1)) - 1)) = j_ := ⟨_, rfl⟩
   replace H : (if 0 ≤ (ji7) then (if (ji7) < (s0_0.size : Int) then (some (((bt s0_0 (ji7)) == a1), s0_0, wrap64 (s0_1 + 1), false)) else (none)) else (none)) = some (r1, r2, r3, r4) := by first | (rw [hji7] at H; exact H) | (simp only [hji7] at H ⊢; exact H)
   have hji7w : (IntKind.i64.wrap ((wrap64 (s0_1 + 1)) - 1)) = ji7 := (i64_w _).trans hji7
   by_cases c8 : 0 ≤ (ji7)
   ·rw [if_pos c8] at H
    have c8b0 : decide (0 ≤ (ji7)) = true := decide_eq_true c8
    clear c8
    by_cases c9 : (ji7) < (s0_0.size : Int)
    ·rw [if_pos c9] at H
     have c9b0 : decide ((ji7) < (s0_0.size : Int)) = true := decide_eq_true c9
     clear c9
     simp only [Option.some.injEq, Prod.mk.injEq] at H
     obtain ⟨rfl, rfl, rfl, rfl⟩ := H
     obtain ⟨HGz11, hgz11⟩ := HI0.out
     have hcz11_0 := cellS72_0 HGz11
     have hcz11_1 := cellS72_1 HGz11
     have hcz11_2 := cellS72_2 HGz11
     have hfz11_0 := blk_frozen HGz11 0
     have hfz11_1 := blk_frozen HGz11 1
     have hfz11_2 := blk_frozen HGz11 2
     clear HGz11 hgz11
     have p10 : 0 ≤ ((ji7) : Int) := of_decide_eq_true (by first | (with_reducible assumption) | assumption)
     have q10 : (ji7) < (s0_0.size : Int) := of_decide_eq_true (by first | (with_reducible assumption) | assumption)
     have hx10 := bt_at s0_0 (ji7)
     replace p10 := eq_true p10
     replace q10 := eq_true q10
     go_enter Tryd.func27, Tryd.ntmps27
     go_wp2
     repeat (go_quiet (fail); try go_wp2)
     go_ret
     exact ⟨by first | rfl | (simp [errW_none, errW_some] <;> rfl) | (simp only [← hji7]; first | rfl | (simp [errW_none, errW_some] <;> rfl)) | (simp [*, errW_none, errW_some] <;> rfl), by repeat (first | (with_reducible first | exact HI0.out | apply IsS72.alloc | apply IsS72.drewN | apply IsS72.drew | apply IsS72.set_0 | apply IsS72.set_1 | apply IsS72.set_2) | exact HI0.out), by repeat (first | (with_reducible first | exact HB.out | apply below_alloc | apply pw_below_drewN | apply below_drew1 | refine below_set ?_ (IsS72.ge HI0.out)) | exact HB.out), by repeat (first | (with_reducible first | exact HK.out | apply KeepBut.set_ | apply keep_drewN | apply keep_drew | apply keep_alloc) | exact HK.out)⟩
    ·rw [if_neg c9] at H
     exact absurd H (by simp)
   ·rw [if_neg c8] at H
    exact absurd H (by simp)

end Go.Proofs.YtnojgkiaolmoeaaDoor.PSc
end
section
/- Contracts: what calls of these functions of the program do, each as a plain function; written by a program of this session. -/
namespace Go.Proofs.YtnojgkiaolmoeaaDoor.PSc
open Go.RowKit Go.Proofs.YtnojgkiaolmoeaaDoorW.PrintWords Go.Proofs.YtnojgkiaolmoeaaDoorW.PrintLast Go.Proofs.YtnojgkiaolmoeaaDoorW.PrintMore
attribute [local go_sem] max2_int min2_int max_two min_two max_three min_three max_four min_four   -- for this text's walks alone
set_option linter.unusedVariables false
set_option linter.unusedSimpArgs false

/-! ### wharfageref19_words_num: function 26, by hand -/
/-- So many digits at most, from a place on: the number, the place behind. -/
def wharfageref19_words_num.L (s : ByteArray) : Nat → Int → Int → Int × Int
 | 0, x, a => (x, a)
 | n + 1, x, a => if a < (s.size : Int) ∧ bt s a ≥ 48 ∧ bt s a ≤ 57 then wharfageref19_words_num.L s n (10 * x + (bt s a - 48)) (a + 1) else (x, a)
def wharfageref19_words_num.f (s0_0 : ByteArray) (s0_1 : Int) (s0_2 : Bool) : Option (Int × ByteArray × Int × Bool) :=
 if 0 ≤ s0_1 ∧ s0_1 ≤ 562949953421312 ∧ s0_0.size ≤ 281474976710656 then some ((wharfageref19_words_num.L s0_0 7 0 s0_1).1, s0_0, (wharfageref19_words_num.L s0_0 7 0 s0_1).2 + 1, s0_2 || decide ((wharfageref19_words_num.L s0_0 7 0 s0_1).2 ≥ (s0_0.size : Int))) else none
theorem wharfageref19_words_num.L_le (s : ByteArray) : ∀ (n : Nat) (x a : Int), 0 ≤ a → a ≤ (wharfageref19_words_num.L s n x a).2 ∧ (wharfageref19_words_num.L s n x a).2 ≤ a + n
 | 0, x, a, h => by simp [wharfageref19_words_num.L]
 | n + 1, x, a, h => by
  unfold wharfageref19_words_num.L
  split
  ·have := wharfageref19_words_num.L_le s n (10 * x + (bt s a - 48)) (a + 1) (by omega)
   omega
  ·simp only []; omega
theorem wharfageref19_words_num.hide {P : Program} {c : Code} {Q : Exit → Act → World → Prop} {a : Act} {w : World} (R : World → Prop) (h : R w) (k : ∀ w', R w' → c.wp P Q a w') : c.wp P Q a w := k w h
/-- The state as it stands, and what lies beside it. -/
structure wharfageref19_words_num.St (w0 w : World) (g : Nat) (s : ByteArray) (a : Int) (b : Bool) (w' : World) : Prop where
 st : IsS72 w0 w' g s a b
 low : Below w0.heap.size w0 w'
 kp : KeepBut w w' g none
theorem wharfageref19_words_num.St.drew {w0 w g s a b w1} (h : wharfageref19_words_num.St w0 w g s a b w1) : wharfageref19_words_num.St w0 w g s a b w1.drew := ⟨h.st.drew, below_drew1 h.low, keep_drew h.kp⟩
theorem wharfageref19_words_num.St.drewN {w0 w g s a b w1} (h : wharfageref19_words_num.St w0 w g s a b w1) (n : Nat) : wharfageref19_words_num.St w0 w g s a b (w1.drewN n) := ⟨h.st.drewN n, pw_below_drewN h.low n, keep_drewN h.kp n⟩
theorem wharfageref19_words_num.St.set1 {w0 w g s a b w1} (h : wharfageref19_words_num.St w0 w g s a b w1) (y : Int) : wharfageref19_words_num.St w0 w g s y b (w1.setCell ⟨g, 1, none⟩ (.int .i64 y)) := ⟨h.st.set_1 y, below_set h.low h.st.ge, KeepBut.set_ h.kp _ _⟩
theorem wharfageref19_words_num.St.set2 {w0 w g s a b w1} (h : wharfageref19_words_num.St w0 w g s a b w1) (y : Bool) : wharfageref19_words_num.St w0 w g s a y (w1.setCell ⟨g, 2, none⟩ (.bool y)) := ⟨h.st.set_2 y, below_set h.low h.st.ge, KeepBut.set_ h.kp _ _⟩
set_option maxHeartbeats 8000000 in
set_option maxRecDepth 100000 in
theorem wharfageref19_words_num.calls (g : Nat) (s0_0 : ByteArray) (s0_1 : Int) (s0_2 : Bool) (r1 : Int) (r2 : ByteArray) (r3 : Int) (r4 : Bool) (w0 w : World) (hI : IsS72 w0 w g s0_0 s0_1 s0_2) (hB : Below w0.heap.size w0 w) (h : wharfageref19_words_num.f s0_0 s0_1 s0_2 = some (r1, r2, r3, r4)) :
  Calls Tryd.prog 26 #[.pointer (some ⟨g, 0, none⟩)] w fun e w' => e = .returned (.int .i64 r1) ∧ IsS72 w0 w' g r2 r3 r4 ∧ Below w0.heap.size w0 w' ∧ KeepBut w w' g none := by
 unfold wharfageref19_words_num.f at h
 by_cases hk : 0 ≤ s0_1 ∧ s0_1 ≤ 562949953421312 ∧ s0_0.size ≤ 281474976710656
 case neg => rw [if_neg hk] at h; cases h
 rw [if_pos hk] at h
 simp only [Option.some.injEq, Prod.mk.injEq] at h
 obtain ⟨rfl, rfl, rfl, rfl⟩ := h
 have HS0 := Aside0.mk (show wharfageref19_words_num.St w0 w g s0_0 s0_1 s0_2 w from ⟨hI, hB, KeepBut.refl w g none⟩)
 have HKB := Aside0.mk hk
 have HLE := Aside0.mk (wharfageref19_words_num.L_le s0_0 7 0 s0_1 hk.1)
 obtain ⟨F, hF⟩ : ∃ F, wharfageref19_words_num.L s0_0 7 0 s0_1 = F := ⟨_, rfl⟩
 have HFI := Aside0.mk hF
 rw [hF] at HLE ⊢
 clear hI hB hk hF
 go_enter Tryd.func26, Tryd.ntmps26
 go_wp2_with fail
 go_loopg [3, 4] 8 (fun kq v3 v4 w' => ∃ (x : Int) (j : Nat) (a : Int), v3 = .int .i64 x ∧ v4 = .int .i64 (j : Int) ∧ Aside0 (j ≤ 7 ∧ kq + j = 8 ∧ 0 ≤ x ∧ x < 10 ^ j ∧ 0 ≤ a ∧ a ≤ s0_1 + j) ∧ Aside0 (wharfageref19_words_num.L s0_0 (7 - j) x a = F) ∧ Aside0 (wharfageref19_words_num.St w0 w g s0_0 a s0_2 w'))
 case atStart => exact ⟨0, 0, s0_1, rfl, rfl, ⟨by have := HKB.out; omega⟩, ⟨HFI.out⟩, HS0⟩
 case round =>
  obtain ⟨x, j, a, rfl, rfl, HX, HL, HST⟩ := hrel
  cases gk with
  | zero => have := HX.out; omega
  | succ k1 =>
   by_cases c1 : (j : Int) < 7
   case neg =>
    obtain rfl : F = (x, a) := by
     rw [← HL.out]
     rw [show 7 - j = 0 by have := HX.out; omega]
     rfl
    have c1_ : decide ((j : Int) < 7) = false := decide_eq_false (by omega)
    by_cases c2 : a < (s0_0.size : Int)
    case pos =>
     obtain ⟨hgy_, _⟩ := HST.out.st
     have y0_ := cellS72_0 hgy_
     have fy0_ := blk_frozen hgy_ 0
     have y1_ := cellS72_1 hgy_
     have fy1_ := blk_frozen hgy_ 1
     have y2_ := cellS72_2 hgy_
     have fy2_ := blk_frozen hgy_ 2
     clear hgy_
     go_wp2_with fail
     go_quiet (fail)
     go_upto_region 7 with fail
     clear y0_ fy0_ y1_ fy1_ y2_ fy2_
     refine wharfageref19_words_num.hide (fun W => wharfageref19_words_num.St w0 w g s0_0 a s0_2 W) (by first | exact HST.out.drewN _ | exact HST.out.drew | exact HST.out) ?_
     intro wz hz_
     have HZ := Aside0.mk hz_
     clear hz_
     obtain ⟨hgy_, _⟩ := HZ.out.st
     have y0_ := cellS72_0 hgy_
     have fy0_ := blk_frozen hgy_ 0
     have y1_ := cellS72_1 hgy_
     have fy1_ := blk_frozen hgy_ 1
     have y2_ := cellS72_2 hgy_
     have fy2_ := blk_frozen hgy_ 2
     clear hgy_
     have bb_ : (s0_2 || decide (a ≥ (s0_0.size : Int))) = s0_2 := by rw [decide_eq_false (show ¬ (a ≥ (s0_0.size : Int)) by omega)]; exact Bool.or_false _
     have d_ : decide ((s0_0.size : Int) ≤ a) = false := decide_eq_false (by omega)
     have HBT := Aside0.mk bb_
     clear bb_
     cases s0_2
     case false =>
      go_region
      go_upto_region 8 with fail
      clear y0_ fy0_ y1_ fy1_ y2_ fy2_
      refine wharfageref19_words_num.hide (fun W => wharfageref19_words_num.St w0 w g s0_0 a false W) (by first | exact (HZ.out.drew).set2 _ | exact (HZ.out.set2 _).drew | exact (HZ.out.set2 _) | exact ((HZ.out.drewN _).set2 _)) ?_
      intro wu hu_
      have HU := Aside0.mk hu_
      clear hu_
      obtain ⟨hgu_, _⟩ := HU.out.st
      have u0_ := cellS72_0 hgu_
      have fu0_ := blk_frozen hgu_ 0
      have u1_ := cellS72_1 hgu_
      have fu1_ := blk_frozen hgu_ 1
      have u2_ := cellS72_2 hgu_
      have fu2_ := blk_frozen hgu_ 2
      clear hgu_
      have ha1_ : wrap64 (a + 1) = a + 1 := by have := HX.out; have := HKB.out; unfold wrap64; omega
      go_wp2_with fail
      go_ret
      exact ⟨rfl, (HU.out.set1 (a + 1)).st, (HU.out.set1 (a + 1)).low, (HU.out.set1 (a + 1)).kp⟩
     case true =>
      go_region
      go_upto_region 8 with fail
      clear y0_ fy0_ y1_ fy1_ y2_ fy2_
      refine wharfageref19_words_num.hide (fun W => wharfageref19_words_num.St w0 w g s0_0 a true W) (by first | exact (HZ.out.drew).set2 _ | exact (HZ.out.set2 _).drew | exact (HZ.out.set2 _) | exact ((HZ.out.drewN _).set2 _)) ?_
      intro wu hu_
      have HU := Aside0.mk hu_
      clear hu_
      obtain ⟨hgu_, _⟩ := HU.out.st
      have u0_ := cellS72_0 hgu_
      have fu0_ := blk_frozen hgu_ 0
      have u1_ := cellS72_1 hgu_
      have fu1_ := blk_frozen hgu_ 1
      have u2_ := cellS72_2 hgu_
      have fu2_ := blk_frozen hgu_ 2
      clear hgu_
      have ha1_ : wrap64 (a + 1) = a + 1 := by have := HX.out; have := HKB.out; unfold wrap64; omega
      go_wp2_with fail
      go_ret
      exact ⟨rfl, (HU.out.set1 (a + 1)).st, (HU.out.set1 (a + 1)).low, (HU.out.set1 (a + 1)).kp⟩
    case neg =>
     obtain ⟨hgy_, _⟩ := HST.out.st
     have y0_ := cellS72_0 hgy_
     have fy0_ := blk_frozen hgy_ 0
     have y1_ := cellS72_1 hgy_
     have fy1_ := blk_frozen hgy_ 1
     have y2_ := cellS72_2 hgy_
     have fy2_ := blk_frozen hgy_ 2
     clear hgy_
     go_wp2_with fail
     go_quiet (fail)
     go_upto_region 7 with fail
     clear y0_ fy0_ y1_ fy1_ y2_ fy2_
     refine wharfageref19_words_num.hide (fun W => wharfageref19_words_num.St w0 w g s0_0 a s0_2 W) (by first | exact HST.out.drewN _ | exact HST.out.drew | exact HST.out) ?_
     intro wz hz_
     have HZ := Aside0.mk hz_
     clear hz_
     obtain ⟨hgy_, _⟩ := HZ.out.st
     have y0_ := cellS72_0 hgy_
     have fy0_ := blk_frozen hgy_ 0
     have y1_ := cellS72_1 hgy_
     have fy1_ := blk_frozen hgy_ 1
     have y2_ := cellS72_2 hgy_
     have fy2_ := blk_frozen hgy_ 2
     clear hgy_
     have bb_ : (s0_2 || decide (a ≥ (s0_0.size : Int))) = true := by rw [decide_eq_true (show a ≥ (s0_0.size : Int) by omega)]; exact Bool.or_true _
     have d_ : decide ((s0_0.size : Int) ≤ a) = true := decide_eq_true (by omega)
     have HBT := Aside0.mk bb_
     clear bb_
     cases s0_2
     case false =>
      go_region
      go_upto_region 8 with fail
      clear y0_ fy0_ y1_ fy1_ y2_ fy2_
      refine wharfageref19_words_num.hide (fun W => wharfageref19_words_num.St w0 w g s0_0 a true W) (by first | exact (HZ.out.drew).set2 _ | exact (HZ.out.set2 _).drew | exact (HZ.out.set2 _) | exact ((HZ.out.drewN _).set2 _)) ?_
      intro wu hu_
      have HU := Aside0.mk hu_
      clear hu_
      obtain ⟨hgu_, _⟩ := HU.out.st
      have u0_ := cellS72_0 hgu_
      have fu0_ := blk_frozen hgu_ 0
      have u1_ := cellS72_1 hgu_
      have fu1_ := blk_frozen hgu_ 1
      have u2_ := cellS72_2 hgu_
      have fu2_ := blk_frozen hgu_ 2
      clear hgu_
      have ha1_ : wrap64 (a + 1) = a + 1 := by have := HX.out; have := HKB.out; unfold wrap64; omega
      go_wp2_with fail
      go_ret
      exact ⟨rfl, (HU.out.set1 (a + 1)).st, (HU.out.set1 (a + 1)).low, (HU.out.set1 (a + 1)).kp⟩
     case true =>
      go_region
      go_upto_region 8 with fail
      clear y0_ fy0_ y1_ fy1_ y2_ fy2_
      refine wharfageref19_words_num.hide (fun W => wharfageref19_words_num.St w0 w g s0_0 a true W) (by first | exact (HZ.out.drew).set2 _ | exact (HZ.out.set2 _).drew | exact (HZ.out.set2 _) | exact ((HZ.out.drewN _).set2 _)) ?_
      intro wu hu_
      have HU := Aside0.mk hu_
      clear hu_
      obtain ⟨hgu_, _⟩ := HU.out.st
      have u0_ := cellS72_0 hgu_
      have fu0_ := blk_frozen hgu_ 0
      have u1_ := cellS72_1 hgu_
      have fu1_ := blk_frozen hgu_ 1
      have u2_ := cellS72_2 hgu_
      have fu2_ := blk_frozen hgu_ 2
      clear hgu_
      have ha1_ : wrap64 (a + 1) = a + 1 := by have := HX.out; have := HKB.out; unfold wrap64; omega
      go_wp2_with fail
      go_ret
      exact ⟨rfl, (HU.out.set1 (a + 1)).st, (HU.out.set1 (a + 1)).low, (HU.out.set1 (a + 1)).kp⟩
   case pos =>
    have c1_ : decide ((j : Int) < 7) = true := decide_eq_true (by omega)
    obtain ⟨n, hn⟩ : ∃ n, 7 - j = n + 1 := ⟨6 - j, by omega⟩
    have hl := HL.out
    rw [hn, wharfageref19_words_num.L] at hl
    by_cases c2 : a < (s0_0.size : Int)
    case neg =>
     obtain rfl : F = (x, a) := by rw [← hl, if_neg (fun q => c2 q.1)]
     have c2_ : decide (a < (s0_0.size : Int)) = false := decide_eq_false (by omega)
     obtain ⟨hgy_, _⟩ := HST.out.st
     have y0_ := cellS72_0 hgy_
     have fy0_ := blk_frozen hgy_ 0
     have y1_ := cellS72_1 hgy_
     have fy1_ := blk_frozen hgy_ 1
     have y2_ := cellS72_2 hgy_
     have fy2_ := blk_frozen hgy_ 2
     clear hgy_
     go_wp2_with fail
     go_quiet (fail)
     go_upto_region 7 with fail
     clear y0_ fy0_ y1_ fy1_ y2_ fy2_
     refine wharfageref19_words_num.hide (fun W => wharfageref19_words_num.St w0 w g s0_0 a s0_2 W) (by first | exact HST.out.drewN _ | exact HST.out.drew | exact HST.out) ?_
     intro wz hz_
     have HZ := Aside0.mk hz_
     clear hz_
     obtain ⟨hgy_, _⟩ := HZ.out.st
     have y0_ := cellS72_0 hgy_
     have fy0_ := blk_frozen hgy_ 0
     have y1_ := cellS72_1 hgy_
     have fy1_ := blk_frozen hgy_ 1
     have y2_ := cellS72_2 hgy_
     have fy2_ := blk_frozen hgy_ 2
     clear hgy_
     have bb_ : (s0_2 || decide (a ≥ (s0_0.size : Int))) = true := by rw [decide_eq_true (show a ≥ (s0_0.size : Int) by omega)]; exact Bool.or_true _
     have d_ : decide ((s0_0.size : Int) ≤ a) = true := decide_eq_true (by omega)
     have HBT := Aside0.mk bb_
     clear bb_
     cases s0_2
     case false =>
      go_region
      go_upto_region 8 with fail
      clear y0_ fy0_ y1_ fy1_ y2_ fy2_
      refine wharfageref19_words_num.hide (fun W => wharfageref19_words_num.St w0 w g s0_0 a true W) (by first | exact (HZ.out.drew).set2 _ | exact (HZ.out.set2 _).drew | exact (HZ.out.set2 _) | exact ((HZ.out.drewN _).set2 _)) ?_
      intro wu hu_
      have HU := Aside0.mk hu_
      clear hu_
      obtain ⟨hgu_, _⟩ := HU.out.st
      have u0_ := cellS72_0 hgu_
      have fu0_ := blk_frozen hgu_ 0
      have u1_ := cellS72_1 hgu_
      have fu1_ := blk_frozen hgu_ 1
      have u2_ := cellS72_2 hgu_
      have fu2_ := blk_frozen hgu_ 2
      clear hgu_
      have ha1_ : wrap64 (a + 1) = a + 1 := by have := HX.out; have := HKB.out; unfold wrap64; omega
      go_wp2_with fail
      go_ret
      exact ⟨rfl, (HU.out.set1 (a + 1)).st, (HU.out.set1 (a + 1)).low, (HU.out.set1 (a + 1)).kp⟩
     case true =>
      go_region
      go_upto_region 8 with fail
      clear y0_ fy0_ y1_ fy1_ y2_ fy2_
      refine wharfageref19_words_num.hide (fun W => wharfageref19_words_num.St w0 w g s0_0 a true W) (by first | exact (HZ.out.drew).set2 _ | exact (HZ.out.set2 _).drew | exact (HZ.out.set2 _) | exact ((HZ.out.drewN _).set2 _)) ?_
      intro wu hu_
      have HU := Aside0.mk hu_
      clear hu_
      obtain ⟨hgu_, _⟩ := HU.out.st
      have u0_ := cellS72_0 hgu_
      have fu0_ := blk_frozen hgu_ 0
      have u1_ := cellS72_1 hgu_
      have fu1_ := blk_frozen hgu_ 1
      have u2_ := cellS72_2 hgu_
      have fu2_ := blk_frozen hgu_ 2
      clear hgu_
      have ha1_ : wrap64 (a + 1) = a + 1 := by have := HX.out; have := HKB.out; unfold wrap64; omega
      go_wp2_with fail
      go_ret
      exact ⟨rfl, (HU.out.set1 (a + 1)).st, (HU.out.set1 (a + 1)).low, (HU.out.set1 (a + 1)).kp⟩
    case pos =>
     have c2_ : decide (a < (s0_0.size : Int)) = true := decide_eq_true (by omega)
     have hx_ := bt_at s0_0 a
     have p_ : (0 ≤ a) = True := eq_true (by have := HX.out; omega)
     have q_ : (a < (s0_0.size : Int)) = True := eq_true c2
     have pb_ : decide (0 ≤ a) = true := decide_eq_true (by have := HX.out; omega)
     by_cases c3 : bt s0_0 a ≥ 48
     case neg =>
      obtain rfl : F = (x, a) := by rw [← hl, if_neg (fun q => c3 q.2.1)]
      have c3_ : decide (48 ≤ bt s0_0 a) = false := decide_eq_false (by omega)
      obtain ⟨hgy_, _⟩ := HST.out.st
      have y0_ := cellS72_0 hgy_
      have fy0_ := blk_frozen hgy_ 0
      have y1_ := cellS72_1 hgy_
      have fy1_ := blk_frozen hgy_ 1
      have y2_ := cellS72_2 hgy_
      have fy2_ := blk_frozen hgy_ 2
      clear hgy_
      go_wp2_with fail
      go_quiet (fail)
      go_upto_region 7 with fail
      clear y0_ fy0_ y1_ fy1_ y2_ fy2_
      refine wharfageref19_words_num.hide (fun W => wharfageref19_words_num.St w0 w g s0_0 a s0_2 W) (by first | exact HST.out.drewN _ | exact HST.out.drew | exact HST.out) ?_
      intro wz hz_
      have HZ := Aside0.mk hz_
      clear hz_
      obtain ⟨hgy_, _⟩ := HZ.out.st
      have y0_ := cellS72_0 hgy_
      have fy0_ := blk_frozen hgy_ 0
      have y1_ := cellS72_1 hgy_
      have fy1_ := blk_frozen hgy_ 1
      have y2_ := cellS72_2 hgy_
      have fy2_ := blk_frozen hgy_ 2
      clear hgy_
      have bb_ : (s0_2 || decide (a ≥ (s0_0.size : Int))) = s0_2 := by rw [decide_eq_false (show ¬ (a ≥ (s0_0.size : Int)) by omega)]; exact Bool.or_false _
      have d_ : decide ((s0_0.size : Int) ≤ a) = false := decide_eq_false (by omega)
      have HBT := Aside0.mk bb_
      clear bb_
      cases s0_2
      case false =>
       go_region
       go_upto_region 8 with fail
       clear y0_ fy0_ y1_ fy1_ y2_ fy2_
       refine wharfageref19_words_num.hide (fun W => wharfageref19_words_num.St w0 w g s0_0 a false W) (by first | exact (HZ.out.drew).set2 _ | exact (HZ.out.set2 _).drew | exact (HZ.out.set2 _) | exact ((HZ.out.drewN _).set2 _)) ?_
       intro wu hu_
       have HU := Aside0.mk hu_
       clear hu_
       obtain ⟨hgu_, _⟩ := HU.out.st
       have u0_ := cellS72_0 hgu_
       have fu0_ := blk_frozen hgu_ 0
       have u1_ := cellS72_1 hgu_
       have fu1_ := blk_frozen hgu_ 1
       have u2_ := cellS72_2 hgu_
       have fu2_ := blk_frozen hgu_ 2
       clear hgu_
       have ha1_ : wrap64 (a + 1) = a + 1 := by have := HX.out; have := HKB.out; unfold wrap64; omega
       go_wp2_with fail
       go_ret
       exact ⟨rfl, (HU.out.set1 (a + 1)).st, (HU.out.set1 (a + 1)).low, (HU.out.set1 (a + 1)).kp⟩
      case true =>
       go_region
       go_upto_region 8 with fail
       clear y0_ fy0_ y1_ fy1_ y2_ fy2_
       refine wharfageref19_words_num.hide (fun W => wharfageref19_words_num.St w0 w g s0_0 a true W) (by first | exact (HZ.out.drew).set2 _ | exact (HZ.out.set2 _).drew | exact (HZ.out.set2 _) | exact ((HZ.out.drewN _).set2 _)) ?_
       intro wu hu_
       have HU := Aside0.mk hu_
       clear hu_
       obtain ⟨hgu_, _⟩ := HU.out.st
       have u0_ := cellS72_0 hgu_
       have fu0_ := blk_frozen hgu_ 0
       have u1_ := cellS72_1 hgu_
       have fu1_ := blk_frozen hgu_ 1
       have u2_ := cellS72_2 hgu_
       have fu2_ := blk_frozen hgu_ 2
       clear hgu_
       have ha1_ : wrap64 (a + 1) = a + 1 := by have := HX.out; have := HKB.out; unfold wrap64; omega
       go_wp2_with fail
       go_ret
       exact ⟨rfl, (HU.out.set1 (a + 1)).st, (HU.out.set1 (a + 1)).low, (HU.out.set1 (a + 1)).kp⟩
     case pos =>
      have c3_ : decide (48 ≤ bt s0_0 a) = true := decide_eq_true (by omega)
      by_cases c4 : bt s0_0 a ≤ 57
      case neg =>
       obtain rfl : F = (x, a) := by rw [← hl, if_neg (fun q => c4 q.2.2)]
       have c4_ : decide (bt s0_0 a ≤ 57) = false := decide_eq_false (by omega)
       obtain ⟨hgy_, _⟩ := HST.out.st
       have y0_ := cellS72_0 hgy_
       have fy0_ := blk_frozen hgy_ 0
       have y1_ := cellS72_1 hgy_
       have fy1_ := blk_frozen hgy_ 1
       have y2_ := cellS72_2 hgy_
       have fy2_ := blk_frozen hgy_ 2
       clear hgy_
       go_wp2_with fail
       go_quiet (fail)
       go_upto_region 7 with fail
       clear y0_ fy0_ y1_ fy1_ y2_ fy2_
       refine wharfageref19_words_num.hide (fun W => wharfageref19_words_num.St w0 w g s0_0 a s0_2 W) (by first | exact HST.out.drewN _ | exact HST.out.drew | exact HST.out) ?_
       intro wz hz_
       have HZ := Aside0.mk hz_
       clear hz_
       obtain ⟨hgy_, _⟩ := HZ.out.st
       have y0_ := cellS72_0 hgy_
       have fy0_ := blk_frozen hgy_ 0
       have y1_ := cellS72_1 hgy_
       have fy1_ := blk_frozen hgy_ 1
       have y2_ := cellS72_2 hgy_
       have fy2_ := blk_frozen hgy_ 2
       clear hgy_
       have bb_ : (s0_2 || decide (a ≥ (s0_0.size : Int))) = s0_2 := by rw [decide_eq_false (show ¬ (a ≥ (s0_0.size : Int)) by omega)]; exact Bool.or_false _
       have d_ : decide ((s0_0.size : Int) ≤ a) = false := decide_eq_false (by omega)
       have HBT := Aside0.mk bb_
       clear bb_
       cases s0_2
       case false =>
        go_region
        go_upto_region 8 with fail
        clear y0_ fy0_ y1_ fy1_ y2_ fy2_
        refine wharfageref19_words_num.hide (fun W => wharfageref19_words_num.St w0 w g s0_0 a false W) (by first | exact (HZ.out.drew).set2 _ | exact (HZ.out.set2 _).drew | exact (HZ.out.set2 _) | exact ((HZ.out.drewN _).set2 _)) ?_
        intro wu hu_
        have HU := Aside0.mk hu_
        clear hu_
        obtain ⟨hgu_, _⟩ := HU.out.st
        have u0_ := cellS72_0 hgu_
        have fu0_ := blk_frozen hgu_ 0
        have u1_ := cellS72_1 hgu_
        have fu1_ := blk_frozen hgu_ 1
        have u2_ := cellS72_2 hgu_
        have fu2_ := blk_frozen hgu_ 2
        clear hgu_
        have ha1_ : wrap64 (a + 1) = a + 1 := by have := HX.out; have := HKB.out; unfold wrap64; omega
        go_wp2_with fail
        go_ret
        exact ⟨rfl, (HU.out.set1 (a + 1)).st, (HU.out.set1 (a + 1)).low, (HU.out.set1 (a + 1)).kp⟩
       case true =>
        go_region
        go_upto_region 8 with fail
        clear y0_ fy0_ y1_ fy1_ y2_ fy2_
        refine wharfageref19_words_num.hide (fun W => wharfageref19_words_num.St w0 w g s0_0 a true W) (by first | exact (HZ.out.drew).set2 _ | exact (HZ.out.set2 _).drew | exact (HZ.out.set2 _) | exact ((HZ.out.drewN _).set2 _)) ?_
        intro wu hu_
        have HU := Aside0.mk hu_
        clear hu_
        obtain ⟨hgu_, _⟩ := HU.out.st
        have u0_ := cellS72_0 hgu_
        have fu0_ := blk_frozen hgu_ 0
        have u1_ := cellS72_1 hgu_
        have fu1_ := blk_frozen hgu_ 1
        have u2_ := cellS72_2 hgu_
        have fu2_ := blk_frozen hgu_ 2
        clear hgu_
        have ha1_ : wrap64 (a + 1) = a + 1 := by have := HX.out; have := HKB.out; unfold wrap64; omega
        go_wp2_with fail
        go_ret
        exact ⟨rfl, (HU.out.set1 (a + 1)).st, (HU.out.set1 (a + 1)).low, (HU.out.set1 (a + 1)).kp⟩
      case pos =>
       have c4_ : decide (bt s0_0 a ≤ 57) = true := decide_eq_true (by omega)
       rw [if_pos ⟨c2, c3, c4⟩] at hl
       obtain ⟨hgy_, _⟩ := HST.out.st
       have y0_ := cellS72_0 hgy_
       have fy0_ := blk_frozen hgy_ 0
       have y1_ := cellS72_1 hgy_
       have fy1_ := blk_frozen hgy_ 1
       have y2_ := cellS72_2 hgy_
       have fy2_ := blk_frozen hgy_ 2
       clear hgy_
       go_wp2_with fail
       go_quiet (fail)
       go_wp2_with fail
       go_quiet (fail)
       clear y0_ fy0_ y1_ fy1_ y2_ fy2_
       go_upto_region 6 with fail
       refine wharfageref19_words_num.hide (fun W => wharfageref19_words_num.St w0 w g s0_0 a s0_2 W) (by first | exact (HST.out.drewN _).drewN _ | exact HST.out.drewN _ | exact HST.out.drew | exact HST.out.drew.drew | exact HST.out) ?_
       intro wz hz_
       have HZ := Aside0.mk hz_
       clear hz_
       obtain ⟨hgy_, _⟩ := HZ.out.st
       have y0_ := cellS72_0 hgy_
       have fy0_ := blk_frozen hgy_ 0
       have y1_ := cellS72_1 hgy_
       have fy1_ := blk_frozen hgy_ 1
       have y2_ := cellS72_2 hgy_
       have fy2_ := blk_frozen hgy_ 2
       clear hgy_
       have HLL := Aside0.mk hl
       clear hl
       have hp_ : x < 1000000 := by
        have h1 := HX.out
        have hj : j = 0 ∨ j = 1 ∨ j = 2 ∨ j = 3 ∨ j = 4 ∨ j = 5 ∨ j = 6 := by omega
        rcases hj with rfl | rfl | rfl | rfl | rfl | rfl | rfl <;> simp at h1 <;> omega
       have hb_ := bt_range s0_0 a
       have HV := Aside0.mk (show wrap64 (wrap64 (10 * x) + (bt s0_0 a - 48)) = 10 * x + (bt s0_0 a - 48) by have h1 := HX.out; unfold wrap64; omega)
       clear hx_ p_ q_ pb_ c1_ c2_ c3_ c4_
       go_wp2_with fail
       go_roundg k1
       case measure => have := HX.out; omega
       case rel =>
        have h1 := HX.out
        have h2 := HKB.out
        refine ⟨10 * x + (bt s0_0 a - 48), j + 1, a + 1, by rw [HV.out], by first | rfl | (congr 1) | (rw [show wrap64 ((j : Int) + 1) = ((j + 1 : Nat) : Int) by unfold wrap64; omega]), ⟨?_⟩, ⟨?_⟩, ⟨?_⟩⟩
        ·have h3 : (10 : Int) ^ (j + 1) = 10 ^ j * 10 := Int.pow_succ 10 j
         rw [h3]
         omega
        ·rw [show 7 - (j + 1) = n by omega]
         exact HLL.out
        ·first | exact HZ.out.set1 (a + 1) | (rw [show wrap64 (a + 1) = a + 1 by unfold wrap64; omega]; exact HZ.out.set1 (a + 1))


end Go.Proofs.YtnojgkiaolmoeaaDoor.PSc
end
