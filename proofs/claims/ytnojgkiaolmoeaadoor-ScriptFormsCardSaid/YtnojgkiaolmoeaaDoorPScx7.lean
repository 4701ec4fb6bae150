/- Several texts of this proof in one file (put together by a program of this session). -/
import Derived.Test.YtnojgkiaolmoeaaDoorPScx0
section
/- Contracts: what calls of these functions of the program do, each as a plain function; written by a program of this session. -/
namespace Go.Proofs.YtnojgkiaolmoeaaDoor.PSc
open Go.RowKit Go.Proofs.YtnojgkiaolmoeaaDoorW.PrintWords Go.Proofs.YtnojgkiaolmoeaaDoorW.PrintLast Go.Proofs.YtnojgkiaolmoeaaDoorW.PrintMore
attribute [local go_sem] max2_int min2_int max_two min_two max_three min_three max_four min_four   -- for this text's walks alone
set_option linter.unusedVariables false
set_option linter.unusedSimpArgs false

/-! ### script_named: function 30 -/
mutual
def script_named.j0 : Nat → Int → Bool → Int → Int → Int → Int → Int → Int → Bool → ByteArray → Int → List (S63) → Option (Int × Int × Int × Int × Int × Int × Bool × ByteArray × Int × (List (S63)) × Bool)
 | 0, _, _, _, _, _, _, _, _, _, _, _, _ => none
 | k + 1, x5, x8, x125000, x125001, x125002, x125003, x125004, x125005, x125006, x125007, x125008, x125009 => if x8 = true then (some (x125000, 0, 0, 0, x125004, x125005, x125006, x125007, x125008, x125009, true)) else (if x5 = 1 then (script_named.j1 k x5 (x5 == 1) x125000 x125001 x125002 x125003 x125004 x125005 x125006 x125007 x125008 x125009) else (if x5 = 2 then (script_named.j1 k x5 (x5 == 2) x125000 x125001 x125002 x125003 x125004 x125005 x125006 x125007 x125008 x125009) else (script_named.j1 k x5 (x5 == 3) x125000 x125001 x125002 x125003 x125004 x125005 x125006 x125007 x125008 x125009)))
def script_named.j1 : Nat → Int → Bool → Int → Int → Int → Int → Int → Int → Bool → ByteArray → Int → List (S63) → Option (Int × Int × Int × Int × Int × Int × Bool × ByteArray × Int × (List (S63)) × Bool)
 | 0, _, _, _, _, _, _, _, _, _, _, _, _ => none
 | k + 1, x5, x11, x125000, x125001, x125002, x125003, x125004, x125005, x125006, x125007, x125008, x125009 => if x11 = true then (some (x125000, x125001, x125002, x125003, x125004, 0, x125006, x125007, x125008, x125009, true)) else (if x5 = 5 then (some (x125000, 0, 0, 0, 0, x125005, false, x125007, x125008, x125009, true)) else (if x5 = 6 then (some (x125000, x125001, 0, x125003, x125004, x125005, x125006, x125007, x125008, x125009, true)) else (if x5 = 9 then (some (x125000, x125001, x125002, x125003, x125004, x125005, x125006, x125007, 0, ([] : List (S63)), true)) else (if x5 = 4 then (some (x125000, x125001, x125002, x125003, x125004, x125005, x125006, x125007, x125008, x125009, true)) else (some (x125000, x125001, x125002, x125003, x125004, x125005, x125006, x125007, x125008, x125009, false))))))
end
def script_named.f (k : Nat) (a0_0 : Int) (a0_1 : Int) (a0_2 : Int) (a0_3 : Int) (a0_4 : Int) (a0_5 : Int) (a0_6 : Bool) (a0_7 : ByteArray) (a0_8 : Int) (l0_9 : List (S63)) : Option (Int × Int × Int × Int × Int × Int × Bool × ByteArray × Int × (List (S63)) × Bool) := if a0_0 = 0 then (some (a0_0, 0, 0, 0, a0_4, a0_5, a0_6, (⟨#[]⟩ : ByteArray), a0_8, l0_9, true)) else (if a0_0 = 7 then (script_named.j0 k a0_0 (a0_0 == 7) a0_0 a0_1 a0_2 a0_3 a0_4 a0_5 a0_6 a0_7 a0_8 l0_9) else (script_named.j0 k a0_0 (a0_0 == 8) a0_0 a0_1 a0_2 a0_3 a0_4 a0_5 a0_6 a0_7 a0_8 l0_9))
theorem script_named.mono_l : ∀ k, (∀ y0 y1 y2 y3 y4 y5 y6 y7 y8 y9 y10 y11, LeO (script_named.j0 k y0 y1 y2 y3 y4 y5 y6 y7 y8 y9 y10 y11) (script_named.j0 (k + 1) y0 y1 y2 y3 y4 y5 y6 y7 y8 y9 y10 y11)) ∧ (∀ y0 y1 y2 y3 y4 y5 y6 y7 y8 y9 y10 y11, LeO (script_named.j1 k y0 y1 y2 y3 y4 y5 y6 y7 y8 y9 y10 y11) (script_named.j1 (k + 1) y0 y1 y2 y3 y4 y5 y6 y7 y8 y9 y10 y11))
 | 0 => ⟨fun _ _ _ _ _ _ _ _ _ _ _ _ r h => by simp [script_named.j0] at h, fun _ _ _ _ _ _ _ _ _ _ _ _ r h => by simp [script_named.j1] at h⟩
 | k + 1 => by
  obtain ⟨ih0, ih1⟩ := script_named.mono_l k
  refine ⟨?_, ?_⟩
  ·intro y0 y1 y2 y3 y4 y5 y6 y7 y8 y9 y10 y11
   unfold script_named.j0
   repeat' first
   | (with_reducible exact ih0 _ _ _ _ _ _ _ _ _ _ _ _)
   | (with_reducible exact ih1 _ _ _ _ _ _ _ _ _ _ _ _)
   | (with_reducible exact LeO.refl _)
   | (with_reducible exact LeO.none _)
   | (with_reducible refine LeO.ite ?_ ?_)
   | (with_reducible refine LeO.bind ?_ (fun _ => ?_))
   | exact ih0 _ _ _ _ _ _ _ _ _ _ _ _
   | exact ih1 _ _ _ _ _ _ _ _ _ _ _ _
   | exact LeO.none _
   | refine LeO.ite ?_ ?_
   | refine LeO.bind ?_ (fun _ => ?_)
  ·intro y0 y1 y2 y3 y4 y5 y6 y7 y8 y9 y10 y11
   unfold script_named.j1
   repeat' first
   | (with_reducible exact ih0 _ _ _ _ _ _ _ _ _ _ _ _)
   | (with_reducible exact ih1 _ _ _ _ _ _ _ _ _ _ _ _)
   | (with_reducible exact LeO.refl _)
   | (with_reducible exact LeO.none _)
   | (with_reducible refine LeO.ite ?_ ?_)
   | (with_reducible refine LeO.bind ?_ (fun _ => ?_))
   | exact ih0 _ _ _ _ _ _ _ _ _ _ _ _
   | exact ih1 _ _ _ _ _ _ _ _ _ _ _ _
   | exact LeO.none _
   | refine LeO.ite ?_ ?_
   | refine LeO.bind ?_ (fun _ => ?_)
theorem script_named.mono : ∀ a0 a1 a2 a3 a4 a5 a6 a7 a8 a9 k, LeO (script_named.f k a0 a1 a2 a3 a4 a5 a6 a7 a8 a9) (script_named.f (k + 1) a0 a1 a2 a3 a4 a5 a6 a7 a8 a9) := by
 intro a0 a1 a2 a3 a4 a5 a6 a7 a8 a9 k
 obtain ⟨ih0, ih1⟩ := script_named.mono_l k
 unfold script_named.f
 repeat' first
   | (with_reducible exact ih0 _ _ _ _ _ _ _ _ _ _ _ _)
   | (with_reducible exact ih1 _ _ _ _ _ _ _ _ _ _ _ _)
   | (with_reducible exact LeO.refl _)
   | (with_reducible exact LeO.none _)
   | (with_reducible refine LeO.ite ?_ ?_)
   | (with_reducible refine LeO.bind ?_ (fun _ => ?_))
   | exact ih0 _ _ _ _ _ _ _ _ _ _ _ _
   | exact ih1 _ _ _ _ _ _ _ _ _ _ _ _
   | exact LeO.none _
   | refine LeO.ite ?_ ?_
   | refine LeO.bind ?_ (fun _ => ?_)
set_option maxHeartbeats 8000000 in
set_option maxRecDepth 100000 in
theorem script_named.calls (k : Nat) (a0_0 : Int) (a0_1 : Int) (a0_2 : Int) (a0_3 : Int) (a0_4 : Int) (a0_5 : Int) (a0_6 : Bool) (a0_7 : ByteArray) (a0_8 : Int) (P0_9_ : Nat → Prop) (A0_9 : Option Addr) (c0_9 : Nat) (l0_9 : List (S63)) (r1 : Int) (r2 : Int) (r3 : Int) (r4 : Int) (r5 : Int) (r6 : Int) (r7 : Bool) (r8 : ByteArray) (r9 : Int) (r10 : List (S63)) (r11 : Bool) (w : World) (hs0_9 : Kd.V k63 63 w w.heap.size (fun k_ => P0_9_ k_) (.slice A0_9 l0_9.length c0_9) l0_9) (h : script_named.f k a0_0 a0_1 a0_2 a0_3 a0_4 a0_5 a0_6 a0_7 a0_8 l0_9 = some (r1, r2, r3, r4, r5, r6, r7, r8, r9, r10, r11)) :
  Calls Tryd.prog 30 #[.agg #[.int .i64 a0_0, .int .i64 a0_1, .int .i64 a0_2, .int .i64 a0_3, .int .i64 a0_4, .int .i64 a0_5, .bool a0_6, .string a0_7, .int .i64 a0_8, .slice A0_9 l0_9.length c0_9]] w fun e w' => ∃ v9_ : Value, e = .returned (.tuple #[.agg #[.int .i64 r1, .int .i64 r2, .int .i64 r3, .int .i64 r4, .int .i64 r5, .int .i64 r6, .bool r7, .string r8, .int .i64 r9, v9_], .bool r11]) ∧ Kd.V k63 63 w' w.heap.size (fun k_ => (P0_9_ k_ ∨ w.heap.size ≤ k_)) v9_ r10 ∧ Below w.heap.size w w' := by
 have hu40 := Tryd.underlying40
 have hu38 := Tryd.underlying38
 have O0 := Aside0.mk (show Kd.V k63 63 w w.heap.size (fun k_ => (P0_9_ k_ ∨ w.heap.size ≤ k_)) (.slice A0_9 l0_9.length c0_9) l0_9 from Kd.V_mono hs0_9 (fun k_ hk => .inl hk))
 have HB := Aside0.mk (Below.refl w.heap.size w)
 have H : (if a0_0 = 0 then (some (a0_0, 0, 0, 0, a0_4, a0_5, a0_6, (⟨#[]⟩ : ByteArray), a0_8, l0_9, true)) else (if a0_0 = 7 then (script_named.j0 k a0_0 (a0_0 == 7) a0_0 a0_1 a0_2 a0_3 a0_4 a0_5 a0_6 a0_7 a0_8 l0_9) else (script_named.j0 k a0_0 (a0_0 == 8) a0_0 a0_1 a0_2 a0_3 a0_4 a0_5 a0_6 a0_7 a0_8 l0_9))) = some (r1, r2, r3, r4, r5, r6, r7, r8, r9, r10, r11) := h
 clear h
 by_cases c2 : a0_0 = 0
 ·rw [if_pos c2] at H
  have c2b0 : (a0_0 == 0) = true := beq_iff_eq.mpr c2
  have c2b1 : (a0_0 != 0) = false := bne_eq_false_iff_eq.mpr c2
  clear c2
  simp only [Option.some.injEq, Prod.mk.injEq] at H
  obtain ⟨rfl, rfl, rfl, rfl, rfl, rfl, rfl, rfl, rfl, rfl, rfl⟩ := H
  go_enter Tryd.func30, Tryd.ntmps30
  go_wp2_with (first | ((with_reducible refine gate_dst (N := 1) rfl ?_); refine box_event ?hg (N := 1) ?hd (cs := #[.int .i64 a0_0, .int .i64 a0_1, .int .i64 a0_2, .int .i64 a0_3, .int .i64 a0_4, .int .i64 a0_5, .bool a0_6, .string a0_7, .int .i64 a0_8, .slice A0_9 l0_9.length c0_9]) (t := 40) ?hr ?_; (case hd => rfl); (case hg => rfl); (case hr => first | (go_simp; done) | (go_simp; rfl)); intro g1 hg w3 hbox hb; have n0_ := Aside0.mk (Kd.V_below (Kd.V_elderB (by (with_reducible repeat (first | apply Kd.V_alloc | apply Kd.V_drewN | apply Kd.V_drew)); exact O0.out) g1 (Nat.le_of_eq hg.symm)) hb); have n1_ := Aside0.mk (below_step (by repeat (first | (with_reducible first | exact HB.out | apply below_alloc | apply pw_below_drewN | apply below_drew1) | exact HB.out)) hb); have n2_ := Aside0.mk (hbox); have n3_ := Aside0.mk ((by rw [hg]; exact (below_size (by repeat (first | (with_reducible first | exact HB.out | apply below_alloc | apply pw_below_drewN | apply below_drew1) | exact HB.out))) : w.heap.size ≤ g1)); have n4_ := Aside0.mk ((by rw [hg]; exact (below_size (by repeat (first | (with_reducible first | exact HB.out | apply below_alloc | apply pw_below_drewN | apply below_drew1) | exact HB.out))) : w.heap.size ≤ g1)); clear O0; clear HB; have O0 := n0_; have HB := n1_; have K0 := n2_; have G0 := n3_; have E0 := n4_; clear n0_ n1_ n2_ n3_ n4_; clear hb hbox hg) | ((with_reducible refine gate_dst (N := 2) rfl ?_); refine box_event ?hg (N := 2) ?hd (cs := #[.int .i64 0, .int .i64 0, .int .i64 0, .int .i64 0, .int .i64 0, .int .i64 0, .bool false, .string (⟨#[]⟩ : ByteArray), .int .i64 0, .slice none 0 0]) (t := 40) ?hr ?_; (case hd => rfl); (case hg => rfl); (case hr => first | (go_simp; done) | (go_simp; rfl)); intro g0 hg w4 hbox hb; have n0_ := Aside0.mk (Kd.V_below (Kd.V_elderB (by (with_reducible repeat (first | apply Kd.V_alloc | apply Kd.V_drewN | apply Kd.V_drew)); exact O0.out) g0 (Nat.le_of_eq hg.symm)) hb); have n1_ := Aside0.mk (blk_below (g := g1) (o := .cells #[.int .i64 a0_0, .int .i64 a0_1, .int .i64 a0_2, .int .i64 a0_3, .int .i64 a0_4, .int .i64 a0_5, .bool a0_6, .string a0_7, .int .i64 a0_8, .slice A0_9 l0_9.length c0_9] 40 (0, 0)) (by (with_reducible repeat (first | refine blk_drewN ?_ _ | refine blk_drew ?_ | refine blk_alloc ?_ _)); exact K0.out) hb); have n2_ := Aside0.mk (below_step (by repeat (first | (with_reducible first | exact HB.out | apply below_alloc | apply pw_below_drewN | apply below_drew1 | refine below_set ?_ E0.out) | exact HB.out)) hb); have n3_ := Aside0.mk (hbox); have n4_ := Aside0.mk ((by rw [hg]; exact (below_size (by repeat (first | (with_reducible first | exact HB.out | apply below_alloc | apply pw_below_drewN | apply below_drew1 | refine below_set ?_ E0.out) | exact HB.out))) : w.heap.size ≤ g0)); have n5_ := Aside0.mk ((by rw [hg]; exact (below_size (by repeat (first | (with_reducible first | exact HB.out | apply below_alloc | apply pw_below_drewN | apply below_drew1 | refine below_set ?_ E0.out) | exact HB.out))) : w.heap.size ≤ g0)); have n6_ := Aside0.mk ((by rw [hg]; exact Nat.ne_of_lt (blk_lt (g := g1) (o := .cells #[.int .i64 a0_0, .int .i64 a0_1, .int .i64 a0_2, .int .i64 a0_3, .int .i64 a0_4, .int .i64 a0_5, .bool a0_6, .string a0_7, .int .i64 a0_8, .slice A0_9 l0_9.length c0_9] 40 (0, 0)) (by (with_reducible repeat (first | refine blk_drewN ?_ _ | refine blk_drew ?_ | refine blk_alloc ?_ _)); exact K0.out)) : g1 ≠ g0)); have n7_ := Aside0.mk ((by rw [hg]; exact Nat.ne_of_gt (blk_lt (g := g1) (o := .cells #[.int .i64 a0_0, .int .i64 a0_1, .int .i64 a0_2, .int .i64 a0_3, .int .i64 a0_4, .int .i64 a0_5, .bool a0_6, .string a0_7, .int .i64 a0_8, .slice A0_9 l0_9.length c0_9] 40 (0, 0)) (by (with_reducible repeat (first | refine blk_drewN ?_ _ | refine blk_drew ?_ | refine blk_alloc ?_ _)); exact K0.out)) : g0 ≠ g1)); clear O0; clear K0; clear HB; have O0 := n0_; have K0 := n1_; have HB := n2_; have K1 := n3_; have G1 := n4_; have E1 := n5_; have N1 := n6_; have N0 := n7_; clear n0_ n1_ n2_ n3_ n4_ n5_ n6_ n7_; clear hb hbox hg; have hnb5 := N1.out; have hnc5 := N0.out; have hcz6_0 : w4.cell? ⟨g1, 0, none⟩ = some (.int .i64 a0_0) := (blk_cell K0.out 0).trans rfl; have hcz6_1 : w4.cell? ⟨g1, 1, none⟩ = some (.int .i64 a0_1) := (blk_cell K0.out 1).trans rfl; have hcz6_2 : w4.cell? ⟨g1, 2, none⟩ = some (.int .i64 a0_2) := (blk_cell K0.out 2).trans rfl; have hcz6_3 : w4.cell? ⟨g1, 3, none⟩ = some (.int .i64 a0_3) := (blk_cell K0.out 3).trans rfl; have hcz6_4 : w4.cell? ⟨g1, 4, none⟩ = some (.int .i64 a0_4) := (blk_cell K0.out 4).trans rfl; have hcz6_5 : w4.cell? ⟨g1, 5, none⟩ = some (.int .i64 a0_5) := (blk_cell K0.out 5).trans rfl; have hcz6_6 : w4.cell? ⟨g1, 6, none⟩ = some (.bool a0_6) := (blk_cell K0.out 6).trans rfl; have hcz6_7 : w4.cell? ⟨g1, 7, none⟩ = some (.string a0_7) := (blk_cell K0.out 7).trans rfl; have hcz6_8 : w4.cell? ⟨g1, 8, none⟩ = some (.int .i64 a0_8) := (blk_cell K0.out 8).trans rfl; have hcz6_9 : w4.cell? ⟨g1, 9, none⟩ = some (.slice A0_9 l0_9.length c0_9) := (blk_cell K0.out 9).trans rfl; have hfz6_0 := blk_frozen K0.out 0; have hfz6_1 := blk_frozen K0.out 1; have hfz6_2 := blk_frozen K0.out 2; have hfz6_3 := blk_frozen K0.out 3; have hfz6_4 := blk_frozen K0.out 4; have hfz6_5 := blk_frozen K0.out 5; have hfz6_6 := blk_frozen K0.out 6; have hfz6_7 := blk_frozen K0.out 7; have hfz6_8 := blk_frozen K0.out 8; have hfz6_9 := blk_frozen K0.out 9; have hcz7_0 : w4.cell? ⟨g0, 0, none⟩ = some (.int .i64 0) := (blk_cell K1.out 0).trans rfl; have hcz7_1 : w4.cell? ⟨g0, 1, none⟩ = some (.int .i64 0) := (blk_cell K1.out 1).trans rfl; have hcz7_2 : w4.cell? ⟨g0, 2, none⟩ = some (.int .i64 0) := (blk_cell K1.out 2).trans rfl; have hcz7_3 : w4.cell? ⟨g0, 3, none⟩ = some (.int .i64 0) := (blk_cell K1.out 3).trans rfl; have hcz7_4 : w4.cell? ⟨g0, 4, none⟩ = some (.int .i64 0) := (blk_cell K1.out 4).trans rfl; have hcz7_5 : w4.cell? ⟨g0, 5, none⟩ = some (.int .i64 0) := (blk_cell K1.out 5).trans rfl; have hcz7_6 : w4.cell? ⟨g0, 6, none⟩ = some (.bool false) := (blk_cell K1.out 6).trans rfl; have hcz7_7 : w4.cell? ⟨g0, 7, none⟩ = some (.string (⟨#[]⟩ : ByteArray)) := (blk_cell K1.out 7).trans rfl; have hcz7_8 : w4.cell? ⟨g0, 8, none⟩ = some (.int .i64 0) := (blk_cell K1.out 8).trans rfl; have hcz7_9 : w4.cell? ⟨g0, 9, none⟩ = some (.slice none 0 0) := (blk_cell K1.out 9).trans rfl; have hfz7_0 := blk_frozen K1.out 0; have hfz7_1 := blk_frozen K1.out 1; have hfz7_2 := blk_frozen K1.out 2; have hfz7_3 := blk_frozen K1.out 3; have hfz7_4 := blk_frozen K1.out 4; have hfz7_5 := blk_frozen K1.out 5; have hfz7_6 := blk_frozen K1.out 6; have hfz7_7 := blk_frozen K1.out 7; have hfz7_8 := blk_frozen K1.out 8; have hfz7_9 := blk_frozen K1.out 9))
  refine bodyPost_ret (results_ct rfl _ _ g0 40 #[.int .i64 a0_0, .int .i64 0, .int .i64 0, .int .i64 0, .int .i64 a0_4, .int .i64 a0_5, .bool a0_6, .string (⟨#[]⟩ : ByteArray), .int .i64 a0_8, .slice A0_9 l0_9.length c0_9] (0, 0) _ rfl (by (with_reducible repeat (first | refine blk_drewN ?_ _ | refine blk_drew ?_ | refine blk_alloc ?_ _)); refine blk_put (cs := #[.int .i64 a0_0, .int .i64 0, .int .i64 0, .int .i64 0, .int .i64 a0_4, .int .i64 a0_5, .bool a0_6, .string (⟨#[]⟩ : ByteArray), .int .i64 a0_8, .slice none 0 0]) ?_ 9 _ rfl; (with_reducible repeat (first | refine blk_drewN ?_ _ | refine blk_drew ?_ | refine blk_alloc ?_ _)); refine blk_put (cs := #[.int .i64 a0_0, .int .i64 0, .int .i64 0, .int .i64 0, .int .i64 a0_4, .int .i64 a0_5, .bool a0_6, .string (⟨#[]⟩ : ByteArray), .int .i64 0, .slice none 0 0]) ?_ 8 _ rfl; (with_reducible repeat (first | refine blk_drewN ?_ _ | refine blk_drew ?_ | refine blk_alloc ?_ _)); refine blk_put (cs := #[.int .i64 a0_0, .int .i64 0, .int .i64 0, .int .i64 0, .int .i64 a0_4, .int .i64 a0_5, .bool a0_6, .string (⟨#[]⟩ : ByteArray), .int .i64 0, .slice none 0 0]) ?_ 7 _ rfl; (with_reducible repeat (first | refine blk_drewN ?_ _ | refine blk_drew ?_ | refine blk_alloc ?_ _)); refine blk_put (cs := #[.int .i64 a0_0, .int .i64 0, .int .i64 0, .int .i64 0, .int .i64 a0_4, .int .i64 a0_5, .bool false, .string (⟨#[]⟩ : ByteArray), .int .i64 0, .slice none 0 0]) ?_ 6 _ rfl; (with_reducible repeat (first | refine blk_drewN ?_ _ | refine blk_drew ?_ | refine blk_alloc ?_ _)); refine blk_put (cs := #[.int .i64 a0_0, .int .i64 0, .int .i64 0, .int .i64 0, .int .i64 a0_4, .int .i64 0, .bool false, .string (⟨#[]⟩ : ByteArray), .int .i64 0, .slice none 0 0]) ?_ 5 _ rfl; (with_reducible repeat (first | refine blk_drewN ?_ _ | refine blk_drew ?_ | refine blk_alloc ?_ _)); refine blk_put (cs := #[.int .i64 a0_0, .int .i64 0, .int .i64 0, .int .i64 0, .int .i64 0, .int .i64 0, .bool false, .string (⟨#[]⟩ : ByteArray), .int .i64 0, .slice none 0 0]) ?_ 4 _ rfl; (with_reducible repeat (first | refine blk_drewN ?_ _ | refine blk_drew ?_ | refine blk_alloc ?_ _)); refine blk_put (cs := #[.int .i64 a0_0, .int .i64 0, .int .i64 0, .int .i64 0, .int .i64 0, .int .i64 0, .bool false, .string (⟨#[]⟩ : ByteArray), .int .i64 0, .slice none 0 0]) ?_ 3 _ rfl; (with_reducible repeat (first | refine blk_drewN ?_ _ | refine blk_drew ?_ | refine blk_alloc ?_ _)); refine blk_put (cs := #[.int .i64 a0_0, .int .i64 0, .int .i64 0, .int .i64 0, .int .i64 0, .int .i64 0, .bool false, .string (⟨#[]⟩ : ByteArray), .int .i64 0, .slice none 0 0]) ?_ 2 _ rfl; (with_reducible repeat (first | refine blk_drewN ?_ _ | refine blk_drew ?_ | refine blk_alloc ?_ _)); refine blk_put (cs := #[.int .i64 a0_0, .int .i64 0, .int .i64 0, .int .i64 0, .int .i64 0, .int .i64 0, .bool false, .string (⟨#[]⟩ : ByteArray), .int .i64 0, .slice none 0 0]) ?_ 1 _ rfl; (with_reducible repeat (first | refine blk_drewN ?_ _ | refine blk_drew ?_ | refine blk_alloc ?_ _)); refine blk_put (cs := #[.int .i64 0, .int .i64 0, .int .i64 0, .int .i64 0, .int .i64 0, .int .i64 0, .bool false, .string (⟨#[]⟩ : ByteArray), .int .i64 0, .slice none 0 0]) ?_ 0 _ rfl; (with_reducible repeat (first | refine blk_drewN ?_ _ | refine blk_drew ?_ | refine blk_alloc ?_ _)); refine blk_far ?_ N0.out _; (with_reducible repeat (first | refine blk_drewN ?_ _ | refine blk_drew ?_ | refine blk_alloc ?_ _)); refine blk_far ?_ N0.out _; (with_reducible repeat (first | refine blk_drewN ?_ _ | refine blk_drew ?_ | refine blk_alloc ?_ _)); refine blk_far ?_ N0.out _; (with_reducible repeat (first | refine blk_drewN ?_ _ | refine blk_drew ?_ | refine blk_alloc ?_ _)); refine blk_far ?_ N0.out _; (with_reducible repeat (first | refine blk_drewN ?_ _ | refine blk_drew ?_ | refine blk_alloc ?_ _)); exact K1.out) Tryd.underlying40 rfl (by kernel_rfl)) rfl ?_
  exact ⟨_, by first | rfl | (simp [errW_none, errW_some] <;> rfl) | (simp [*, errW_none, errW_some] <;> rfl), by (with_reducible repeat (first | apply Kd.V_alloc | apply Kd.V_drewN | apply Kd.V_drew)); exact Kd.V_mono (Kd.V_far (p := ⟨g0, 9, none⟩) (Kd.V_far (p := ⟨g0, 8, none⟩) (Kd.V_far (p := ⟨g0, 7, none⟩) (Kd.V_far (p := ⟨g0, 6, none⟩) (Kd.V_far (p := ⟨g0, 5, none⟩) (Kd.V_far (p := ⟨g0, 4, none⟩) (Kd.V_far (p := ⟨g0, 3, none⟩) (Kd.V_far (p := ⟨g0, 2, none⟩) (Kd.V_far (p := ⟨g0, 1, none⟩) (Kd.V_far (p := ⟨g0, 0, none⟩) (Kd.V_far (p := ⟨g1, 3, none⟩) (Kd.V_far (p := ⟨g1, 2, none⟩) (Kd.V_far (p := ⟨g1, 1, none⟩) (Kd.V_far (p := ⟨g1, 7, none⟩) (Kd.V_mono (Kd.V_mono O0.out (fun k_ hk => (⟨hk, hk.1.2⟩ : _ ∧ k_ ≠ g1))) (fun k_ hk => (⟨hk, hk.1.2⟩ : _ ∧ k_ ≠ g0))) (fun _ hk => hk.1.2) (.string (⟨#[]⟩ : ByteArray))) (fun _ hk => hk.1.2) (.int .i64 0)) (fun _ hk => hk.1.2) (.int .i64 0)) (fun _ hk => hk.1.2) (.int .i64 0)) (fun _ hk => hk.2) (.int .i64 a0_0)) (fun _ hk => hk.2) (.int .i64 0)) (fun _ hk => hk.2) (.int .i64 0)) (fun _ hk => hk.2) (.int .i64 0)) (fun _ hk => hk.2) (.int .i64 a0_4)) (fun _ hk => hk.2) (.int .i64 a0_5)) (fun _ hk => hk.2) (.bool a0_6)) (fun _ hk => hk.2) (.string (⟨#[]⟩ : ByteArray))) (fun _ hk => hk.2) (.int .i64 a0_8)) (fun _ hk => hk.2) (.slice A0_9 l0_9.length c0_9)) (fun _ hk => hk.1.1.1.1), by repeat (first | (with_reducible first | exact HB.out | apply below_alloc | apply pw_below_drewN | apply below_drew1 | refine below_set ?_ E0.out | refine below_set ?_ E1.out) | exact HB.out)⟩
 ·rw [if_neg c2] at H
  have c2b0 : (a0_0 == 0) = false := beq_eq_false_iff_ne.mpr c2
  have c2b1 : (a0_0 != 0) = true := bne_iff_ne.mpr c2
  have HC8 := Aside0.mk H
  clear H
  go_enter Tryd.func30, Tryd.ntmps30
  go_upto_if 8 with (first | ((with_reducible refine gate_dst (N := 1) rfl ?_); refine box_event ?hg (N := 1) ?hd (cs := #[.int .i64 a0_0, .int .i64 a0_1, .int .i64 a0_2, .int .i64 a0_3, .int .i64 a0_4, .int .i64 a0_5, .bool a0_6, .string a0_7, .int .i64 a0_8, .slice A0_9 l0_9.length c0_9]) (t := 40) ?hr ?_; (case hd => rfl); (case hg => rfl); (case hr => first | (go_simp; done) | (go_simp; rfl)); intro g1 hg w9 hbox hb; have n0_ := Aside0.mk (Kd.V_below (Kd.V_elderB (by (with_reducible repeat (first | apply Kd.V_alloc | apply Kd.V_drewN | apply Kd.V_drew)); exact O0.out) g1 (Nat.le_of_eq hg.symm)) hb); have n1_ := Aside0.mk (below_step (by repeat (first | (with_reducible first | exact HB.out | apply below_alloc | apply pw_below_drewN | apply below_drew1) | exact HB.out)) hb); have n2_ := Aside0.mk (hbox); have n3_ := Aside0.mk ((by rw [hg]; exact (below_size (by repeat (first | (with_reducible first | exact HB.out | apply below_alloc | apply pw_below_drewN | apply below_drew1) | exact HB.out))) : w.heap.size ≤ g1)); have n4_ := Aside0.mk ((by rw [hg]; exact (below_size (by repeat (first | (with_reducible first | exact HB.out | apply below_alloc | apply pw_below_drewN | apply below_drew1) | exact HB.out))) : w.heap.size ≤ g1)); clear O0; clear HB; have O0 := n0_; have HB := n1_; have K0 := n2_; have G0 := n3_; have E0 := n4_; clear n0_ n1_ n2_ n3_ n4_; clear hb hbox hg) | ((with_reducible refine gate_dst (N := 2) rfl ?_); refine box_event ?hg (N := 2) ?hd (cs := #[.int .i64 0, .int .i64 0, .int .i64 0, .int .i64 0, .int .i64 0, .int .i64 0, .bool false, .string (⟨#[]⟩ : ByteArray), .int .i64 0, .slice none 0 0]) (t := 40) ?hr ?_; (case hd => rfl); (case hg => rfl); (case hr => first | (go_simp; done) | (go_simp; rfl)); intro g0 hg w10 hbox hb; have n0_ := Aside0.mk (Kd.V_below (Kd.V_elderB (by (with_reducible repeat (first | apply Kd.V_alloc | apply Kd.V_drewN | apply Kd.V_drew)); exact O0.out) g0 (Nat.le_of_eq hg.symm)) hb); have n1_ := Aside0.mk (blk_below (g := g1) (o := .cells #[.int .i64 a0_0, .int .i64 a0_1, .int .i64 a0_2, .int .i64 a0_3, .int .i64 a0_4, .int .i64 a0_5, .bool a0_6, .string a0_7, .int .i64 a0_8, .slice A0_9 l0_9.length c0_9] 40 (0, 0)) (by (with_reducible repeat (first | refine blk_drewN ?_ _ | refine blk_drew ?_ | refine blk_alloc ?_ _)); exact K0.out) hb); have n2_ := Aside0.mk (below_step (by repeat (first | (with_reducible first | exact HB.out | apply below_alloc | apply pw_below_drewN | apply below_drew1 | refine below_set ?_ E0.out) | exact HB.out)) hb); have n3_ := Aside0.mk (hbox); have n4_ := Aside0.mk ((by rw [hg]; exact (below_size (by repeat (first | (with_reducible first | exact HB.out | apply below_alloc | apply pw_below_drewN | apply below_drew1 | refine below_set ?_ E0.out) | exact HB.out))) : w.heap.size ≤ g0)); have n5_ := Aside0.mk ((by rw [hg]; exact (below_size (by repeat (first | (with_reducible first | exact HB.out | apply below_alloc | apply pw_below_drewN | apply below_drew1 | refine below_set ?_ E0.out) | exact HB.out))) : w.heap.size ≤ g0)); have n6_ := Aside0.mk ((by rw [hg]; exact Nat.ne_of_lt (blk_lt (g := g1) (o := .cells #[.int .i64 a0_0, .int .i64 a0_1, .int .i64 a0_2, .int .i64 a0_3, .int .i64 a0_4, .int .i64 a0_5, .bool a0_6, .string a0_7, .int .i64 a0_8, .slice A0_9 l0_9.length c0_9] 40 (0, 0)) (by (with_reducible repeat (first | refine blk_drewN ?_ _ | refine blk_drew ?_ | refine blk_alloc ?_ _)); exact K0.out)) : g1 ≠ g0)); have n7_ := Aside0.mk ((by rw [hg]; exact Nat.ne_of_gt (blk_lt (g := g1) (o := .cells #[.int .i64 a0_0, .int .i64 a0_1, .int .i64 a0_2, .int .i64 a0_3, .int .i64 a0_4, .int .i64 a0_5, .bool a0_6, .string a0_7, .int .i64 a0_8, .slice A0_9 l0_9.length c0_9] 40 (0, 0)) (by (with_reducible repeat (first | refine blk_drewN ?_ _ | refine blk_drew ?_ | refine blk_alloc ?_ _)); exact K0.out)) : g0 ≠ g1)); clear O0; clear K0; clear HB; have O0 := n0_; have K0 := n1_; have HB := n2_; have K1 := n3_; have G1 := n4_; have E1 := n5_; have N1 := n6_; have N0 := n7_; clear n0_ n1_ n2_ n3_ n4_ n5_ n6_ n7_; clear hb hbox hg; have hnb11 := N1.out; have hnc11 := N0.out; have hcz12_0 : w10.cell? ⟨g1, 0, none⟩ = some (.int .i64 a0_0) := (blk_cell K0.out 0).trans rfl; have hcz12_1 : w10.cell? ⟨g1, 1, none⟩ = some (.int .i64 a0_1) := (blk_cell K0.out 1).trans rfl; have hcz12_2 : w10.cell? ⟨g1, 2, none⟩ = some (.int .i64 a0_2) := (blk_cell K0.out 2).trans rfl; have hcz12_3 : w10.cell? ⟨g1, 3, none⟩ = some (.int .i64 a0_3) := (blk_cell K0.out 3).trans rfl; have hcz12_4 : w10.cell? ⟨g1, 4, none⟩ = some (.int .i64 a0_4) := (blk_cell K0.out 4).trans rfl; have hcz12_5 : w10.cell? ⟨g1, 5, none⟩ = some (.int .i64 a0_5) := (blk_cell K0.out 5).trans rfl; have hcz12_6 : w10.cell? ⟨g1, 6, none⟩ = some (.bool a0_6) := (blk_cell K0.out 6).trans rfl; have hcz12_7 : w10.cell? ⟨g1, 7, none⟩ = some (.string a0_7) := (blk_cell K0.out 7).trans rfl; have hcz12_8 : w10.cell? ⟨g1, 8, none⟩ = some (.int .i64 a0_8) := (blk_cell K0.out 8).trans rfl; have hcz12_9 : w10.cell? ⟨g1, 9, none⟩ = some (.slice A0_9 l0_9.length c0_9) := (blk_cell K0.out 9).trans rfl; have hfz12_0 := blk_frozen K0.out 0; have hfz12_1 := blk_frozen K0.out 1; have hfz12_2 := blk_frozen K0.out 2; have hfz12_3 := blk_frozen K0.out 3; have hfz12_4 := blk_frozen K0.out 4; have hfz12_5 := blk_frozen K0.out 5; have hfz12_6 := blk_frozen K0.out 6; have hfz12_7 := blk_frozen K0.out 7; have hfz12_8 := blk_frozen K0.out 8; have hfz12_9 := blk_frozen K0.out 9))
  (try simp only [Act.put, List.setIfInBounds_toArray, List.set_cons_zero, List.set_cons_succ])
  go_cut [8] (fun v8 wc => ∃ (kq : Nat) (x8_7 : Bool), v8 = .bool x8_7 ∧ Aside0 (script_named.j0 kq a0_0 x8_7 a0_0 a0_1 a0_2 a0_3 a0_4 a0_5 a0_6 a0_7 a0_8 l0_9 = some (r1, r2, r3, r4, r5, r6, r7, r8, r9, r10, r11)) ∧ Aside0 (kq ≤ k) ∧ Aside0 (Kd.V k63 63 wc w.heap.size (fun k_ => (P0_9_ k_ ∨ w.heap.size ≤ k_) ∧ k_ ≠ g1 ∧ k_ ≠ g0) (.slice A0_9 l0_9.length c0_9) l0_9) ∧ Aside0 (wc.heap[g1]? = some (.cells #[.int .i64 a0_0, .int .i64 a0_1, .int .i64 a0_2, .int .i64 a0_3, .int .i64 a0_4, .int .i64 a0_5, .bool a0_6, .string a0_7, .int .i64 a0_8, (.slice A0_9 l0_9.length c0_9)] 40 (0, 0))) ∧ Aside0 (wc.heap[g0]? = some (.cells #[.int .i64 0, .int .i64 0, .int .i64 0, .int .i64 0, .int .i64 0, .int .i64 0, .bool false, .string (⟨#[]⟩ : ByteArray), .int .i64 0, (.slice none 0 0)] 40 (0, 0))) ∧ Aside0 (Below w.heap.size w wc))
  case first =>
   have H := HC8.out
   clear HC8
   by_cases c13 : a0_0 = 7
   ·rw [if_pos c13] at H
    have c13b0 : (a0_0 == 7) = true := beq_iff_eq.mpr c13
    have c13b1 : (a0_0 != 7) = false := bne_eq_false_iff_eq.mpr c13
    clear c13
    (first | rw [c13b0] | (simp only [i64_w, i32_w]; rw [c13b0]) | skip)
    have H' := Aside0.mk H
    clear H
    go_wp2
    go_meet
    case rel => exact ⟨_, ((a0_0 == 7)), (by first | rfl | (simp; done) | (simp [*]; done)), H', ⟨by first | omega | exact Nat.le_refl _⟩, ⟨by (with_reducible repeat (first | apply Kd.V_alloc | apply Kd.V_drewN | apply Kd.V_drew)); exact Kd.V_mono O0.out (fun _ hk => ⟨hk.1.1, ⟨hk.1.2, hk.2⟩⟩)⟩, ⟨by (with_reducible repeat (first | refine blk_drewN ?_ _ | refine blk_drew ?_ | refine blk_alloc ?_ _)); exact K0.out⟩, ⟨by (with_reducible repeat (first | refine blk_drewN ?_ _ | refine blk_drew ?_ | refine blk_alloc ?_ _)); exact K1.out⟩, ⟨by repeat (first | (with_reducible first | exact HB.out | apply below_alloc | apply pw_below_drewN | apply below_drew1 | refine below_set ?_ E0.out | refine below_set ?_ E1.out) | exact HB.out)⟩⟩
   ·rw [if_neg c13] at H
    have c13b0 : (a0_0 == 7) = false := beq_eq_false_iff_ne.mpr c13
    have c13b1 : (a0_0 != 7) = true := bne_iff_ne.mpr c13
    (first | rw [c13b0] | (simp only [i64_w, i32_w]; rw [c13b0]) | skip)
    have H' := Aside0.mk H
    clear H
    go_wp2
    go_meet
    case rel => exact ⟨_, ((a0_0 == 8)), (by first | rfl | (simp; done) | (simp [*]; done)), H', ⟨by first | omega | exact Nat.le_refl _⟩, ⟨by (with_reducible repeat (first | apply Kd.V_alloc | apply Kd.V_drewN | apply Kd.V_drew)); exact Kd.V_mono O0.out (fun _ hk => ⟨hk.1.1, ⟨hk.1.2, hk.2⟩⟩)⟩, ⟨by (with_reducible repeat (first | refine blk_drewN ?_ _ | refine blk_drew ?_ | refine blk_alloc ?_ _)); exact K0.out⟩, ⟨by (with_reducible repeat (first | refine blk_drewN ?_ _ | refine blk_drew ?_ | refine blk_alloc ?_ _)); exact K1.out⟩, ⟨by repeat (first | (with_reducible first | exact HB.out | apply below_alloc | apply pw_below_drewN | apply below_drew1 | refine below_set ?_ E0.out | refine below_set ?_ E1.out) | exact HB.out)⟩⟩
  case rest =>
   clear HC8
   try clear c1
   try clear c2
   try clear c2b0
   try clear c2b1
   try clear p2
   try clear c3
   try clear c5
   try clear c11
   try clear c13
   try clear c13b0
   try clear c13b1
   try clear hcz12_0
   try clear hcz12_1
   try clear hcz12_2
   try clear hcz12_3
   try clear hcz12_4
   try clear hcz12_5
   try clear hcz12_6
   try clear hcz12_7
   try clear hcz12_8
   try clear hcz12_9
   try clear hcz6_0
   try clear hcz6_1
   try clear hcz6_2
   try clear hcz6_3
   try clear hcz6_4
   try clear hcz6_5
   try clear hcz6_6
   try clear hcz6_7
   try clear hcz6_8
   try clear hcz6_9
   try clear hcz7_0
   try clear hcz7_1
   try clear hcz7_2
   try clear hcz7_3
   try clear hcz7_4
   try clear hcz7_5
   try clear hcz7_6
   try clear hcz7_7
   try clear hcz7_8
   try clear hcz7_9
   try clear hfz12_0
   try clear hfz12_1
   try clear hfz12_2
   try clear hfz12_3
   try clear hfz12_4
   try clear hfz12_5
   try clear hfz12_6
   try clear hfz12_7
   try clear hfz12_8
   try clear hfz12_9
   try clear hfz6_0
   try clear hfz6_1
   try clear hfz6_2
   try clear hfz6_3
   try clear hfz6_4
   try clear hfz6_5
   try clear hfz6_6
   try clear hfz6_7
   try clear hfz6_8
   try clear hfz6_9
   try clear hfz7_0
   try clear hfz7_1
   try clear hfz7_2
   try clear hfz7_3
   try clear hfz7_4
   try clear hfz7_5
   try clear hfz7_6
   try clear hfz7_7
   try clear hfz7_8
   try clear hfz7_9
   obtain ⟨kq, x8_7, rfl, HA, HJ7, HO_125009, K0, K1, HB⟩ := hcut
   cases kq with
   | zero => exact absurd HA.out (by simp [script_named.j0])
   | succ kj7 =>
    have H := HA.out
    clear HA
    simp only [script_named.j0] at H
    by_cases c14 : x8_7 = true
    ·subst c14
     have H1 : (some (a0_0, 0, 0, 0, a0_4, a0_5, a0_6, a0_7, a0_8, l0_9, true)) = some (r1, r2, r3, r4, r5, r6, r7, r8, r9, r10, r11) := by rw [if_pos rfl] at H; exact H
     clear H
     have H := H1
     clear H1
     simp only [Option.some.injEq, Prod.mk.injEq] at H
     obtain ⟨rfl, rfl, rfl, rfl, rfl, rfl, rfl, rfl, rfl, rfl, rfl⟩ := H
     have hnb15 := N1.out
     have hnc15 := N0.out
     have hcz16_0 : wc.cell? ⟨g1, 0, none⟩ = some (.int .i64 a0_0) := (blk_cell K0.out 0).trans rfl
     have hcz16_1 : wc.cell? ⟨g1, 1, none⟩ = some (.int .i64 a0_1) := (blk_cell K0.out 1).trans rfl
     have hcz16_2 : wc.cell? ⟨g1, 2, none⟩ = some (.int .i64 a0_2) := (blk_cell K0.out 2).trans rfl
     have hcz16_3 : wc.cell? ⟨g1, 3, none⟩ = some (.int .i64 a0_3) := (blk_cell K0.out 3).trans rfl
     have hcz16_4 : wc.cell? ⟨g1, 4, none⟩ = some (.int .i64 a0_4) := (blk_cell K0.out 4).trans rfl
     have hcz16_5 : wc.cell? ⟨g1, 5, none⟩ = some (.int .i64 a0_5) := (blk_cell K0.out 5).trans rfl
     have hcz16_6 : wc.cell? ⟨g1, 6, none⟩ = some (.bool a0_6) := (blk_cell K0.out 6).trans rfl
     have hcz16_7 : wc.cell? ⟨g1, 7, none⟩ = some (.string a0_7) := (blk_cell K0.out 7).trans rfl
     have hcz16_8 : wc.cell? ⟨g1, 8, none⟩ = some (.int .i64 a0_8) := (blk_cell K0.out 8).trans rfl
     have hcz16_9 : wc.cell? ⟨g1, 9, none⟩ = some (.slice A0_9 l0_9.length c0_9) := (blk_cell K0.out 9).trans rfl
     have hfz16_0 := blk_frozen K0.out 0
     have hfz16_1 := blk_frozen K0.out 1
     have hfz16_2 := blk_frozen K0.out 2
     have hfz16_3 := blk_frozen K0.out 3
     have hfz16_4 := blk_frozen K0.out 4
     have hfz16_5 := blk_frozen K0.out 5
     have hfz16_6 := blk_frozen K0.out 6
     have hfz16_7 := blk_frozen K0.out 7
     have hfz16_8 := blk_frozen K0.out 8
     have hfz16_9 := blk_frozen K0.out 9
     have hcz17_0 : wc.cell? ⟨g0, 0, none⟩ = some (.int .i64 0) := (blk_cell K1.out 0).trans rfl
     have hcz17_1 : wc.cell? ⟨g0, 1, none⟩ = some (.int .i64 0) := (blk_cell K1.out 1).trans rfl
     have hcz17_2 : wc.cell? ⟨g0, 2, none⟩ = some (.int .i64 0) := (blk_cell K1.out 2).trans rfl
     have hcz17_3 : wc.cell? ⟨g0, 3, none⟩ = some (.int .i64 0) := (blk_cell K1.out 3).trans rfl
     have hcz17_4 : wc.cell? ⟨g0, 4, none⟩ = some (.int .i64 0) := (blk_cell K1.out 4).trans rfl
     have hcz17_5 : wc.cell? ⟨g0, 5, none⟩ = some (.int .i64 0) := (blk_cell K1.out 5).trans rfl
     have hcz17_6 : wc.cell? ⟨g0, 6, none⟩ = some (.bool false) := (blk_cell K1.out 6).trans rfl
     have hcz17_7 : wc.cell? ⟨g0, 7, none⟩ = some (.string (⟨#[]⟩ : ByteArray)) := (blk_cell K1.out 7).trans rfl
     have hcz17_8 : wc.cell? ⟨g0, 8, none⟩ = some (.int .i64 0) := (blk_cell K1.out 8).trans rfl
     have hcz17_9 : wc.cell? ⟨g0, 9, none⟩ = some (.slice none 0 0) := (blk_cell K1.out 9).trans rfl
     have hfz17_0 := blk_frozen K1.out 0
     have hfz17_1 := blk_frozen K1.out 1
     have hfz17_2 := blk_frozen K1.out 2
     have hfz17_3 := blk_frozen K1.out 3
     have hfz17_4 := blk_frozen K1.out 4
     have hfz17_5 := blk_frozen K1.out 5
     have hfz17_6 := blk_frozen K1.out 6
     have hfz17_7 := blk_frozen K1.out 7
     have hfz17_8 := blk_frozen K1.out 8
     have hfz17_9 := blk_frozen K1.out 9
     go_wp2
     refine bodyPost_ret (results_ct rfl _ _ g0 40 #[.int .i64 a0_0, .int .i64 0, .int .i64 0, .int .i64 0, .int .i64 a0_4, .int .i64 a0_5, .bool a0_6, .string a0_7, .int .i64 a0_8, .slice A0_9 l0_9.length c0_9] (0, 0) _ rfl (by (with_reducible repeat (first | refine blk_drewN ?_ _ | refine blk_drew ?_ | refine blk_alloc ?_ _)); refine blk_put (cs := #[.int .i64 a0_0, .int .i64 0, .int .i64 0, .int .i64 0, .int .i64 a0_4, .int .i64 a0_5, .bool a0_6, .string a0_7, .int .i64 a0_8, .slice none 0 0]) ?_ 9 _ rfl; (with_reducible repeat (first | refine blk_drewN ?_ _ | refine blk_drew ?_ | refine blk_alloc ?_ _)); refine blk_put (cs := #[.int .i64 a0_0, .int .i64 0, .int .i64 0, .int .i64 0, .int .i64 a0_4, .int .i64 a0_5, .bool a0_6, .string a0_7, .int .i64 0, .slice none 0 0]) ?_ 8 _ rfl; (with_reducible repeat (first | refine blk_drewN ?_ _ | refine blk_drew ?_ | refine blk_alloc ?_ _)); refine blk_put (cs := #[.int .i64 a0_0, .int .i64 0, .int .i64 0, .int .i64 0, .int .i64 a0_4, .int .i64 a0_5, .bool a0_6, .string (⟨#[]⟩ : ByteArray), .int .i64 0, .slice none 0 0]) ?_ 7 _ rfl; (with_reducible repeat (first | refine blk_drewN ?_ _ | refine blk_drew ?_ | refine blk_alloc ?_ _)); refine blk_put (cs := #[.int .i64 a0_0, .int .i64 0, .int .i64 0, .int .i64 0, .int .i64 a0_4, .int .i64 a0_5, .bool false, .string (⟨#[]⟩ : ByteArray), .int .i64 0, .slice none 0 0]) ?_ 6 _ rfl; (with_reducible repeat (first | refine blk_drewN ?_ _ | refine blk_drew ?_ | refine blk_alloc ?_ _)); refine blk_put (cs := #[.int .i64 a0_0, .int .i64 0, .int .i64 0, .int .i64 0, .int .i64 a0_4, .int .i64 0, .bool false, .string (⟨#[]⟩ : ByteArray), .int .i64 0, .slice none 0 0]) ?_ 5 _ rfl; (with_reducible repeat (first | refine blk_drewN ?_ _ | refine blk_drew ?_ | refine blk_alloc ?_ _)); refine blk_put (cs := #[.int .i64 a0_0, .int .i64 0, .int .i64 0, .int .i64 0, .int .i64 0, .int .i64 0, .bool false, .string (⟨#[]⟩ : ByteArray), .int .i64 0, .slice none 0 0]) ?_ 4 _ rfl; (with_reducible repeat (first | refine blk_drewN ?_ _ | refine blk_drew ?_ | refine blk_alloc ?_ _)); refine blk_put (cs := #[.int .i64 a0_0, .int .i64 0, .int .i64 0, .int .i64 0, .int .i64 0, .int .i64 0, .bool false, .string (⟨#[]⟩ : ByteArray), .int .i64 0, .slice none 0 0]) ?_ 3 _ rfl; (with_reducible repeat (first | refine blk_drewN ?_ _ | refine blk_drew ?_ | refine blk_alloc ?_ _)); refine blk_put (cs := #[.int .i64 a0_0, .int .i64 0, .int .i64 0, .int .i64 0, .int .i64 0, .int .i64 0, .bool false, .string (⟨#[]⟩ : ByteArray), .int .i64 0, .slice none 0 0]) ?_ 2 _ rfl; (with_reducible repeat (first | refine blk_drewN ?_ _ | refine blk_drew ?_ | refine blk_alloc ?_ _)); refine blk_put (cs := #[.int .i64 a0_0, .int .i64 0, .int .i64 0, .int .i64 0, .int .i64 0, .int .i64 0, .bool false, .string (⟨#[]⟩ : ByteArray), .int .i64 0, .slice none 0 0]) ?_ 1 _ rfl; (with_reducible repeat (first | refine blk_drewN ?_ _ | refine blk_drew ?_ | refine blk_alloc ?_ _)); refine blk_put (cs := #[.int .i64 0, .int .i64 0, .int .i64 0, .int .i64 0, .int .i64 0, .int .i64 0, .bool false, .string (⟨#[]⟩ : ByteArray), .int .i64 0, .slice none 0 0]) ?_ 0 _ rfl; (with_reducible repeat (first | refine blk_drewN ?_ _ | refine blk_drew ?_ | refine blk_alloc ?_ _)); refine blk_far ?_ N0.out _; (with_reducible repeat (first | refine blk_drewN ?_ _ | refine blk_drew ?_ | refine blk_alloc ?_ _)); refine blk_far ?_ N0.out _; (with_reducible repeat (first | refine blk_drewN ?_ _ | refine blk_drew ?_ | refine blk_alloc ?_ _)); refine blk_far ?_ N0.out _; (with_reducible repeat (first | refine blk_drewN ?_ _ | refine blk_drew ?_ | refine blk_alloc ?_ _)); exact K1.out) Tryd.underlying40 rfl (by kernel_rfl)) rfl ?_
     exact ⟨_, by first | rfl | (simp [errW_none, errW_some] <;> rfl) | (simp [*, errW_none, errW_some] <;> rfl), by (with_reducible repeat (first | apply Kd.V_alloc | apply Kd.V_drewN | apply Kd.V_drew)); exact Kd.V_mono (Kd.V_far (p := ⟨g0, 9, none⟩) (Kd.V_far (p := ⟨g0, 8, none⟩) (Kd.V_far (p := ⟨g0, 7, none⟩) (Kd.V_far (p := ⟨g0, 6, none⟩) (Kd.V_far (p := ⟨g0, 5, none⟩) (Kd.V_far (p := ⟨g0, 4, none⟩) (Kd.V_far (p := ⟨g0, 3, none⟩) (Kd.V_far (p := ⟨g0, 2, none⟩) (Kd.V_far (p := ⟨g0, 1, none⟩) (Kd.V_far (p := ⟨g0, 0, none⟩) (Kd.V_far (p := ⟨g1, 3, none⟩) (Kd.V_far (p := ⟨g1, 2, none⟩) (Kd.V_far (p := ⟨g1, 1, none⟩) (Kd.V_mono (Kd.V_mono HO_125009.out (fun k_ hk => (⟨hk, hk.2.1⟩ : _ ∧ k_ ≠ g1))) (fun k_ hk => (⟨hk, hk.1.2.2⟩ : _ ∧ k_ ≠ g0))) (fun _ hk => hk.1.2) (.int .i64 0)) (fun _ hk => hk.1.2) (.int .i64 0)) (fun _ hk => hk.1.2) (.int .i64 0)) (fun _ hk => hk.2) (.int .i64 a0_0)) (fun _ hk => hk.2) (.int .i64 0)) (fun _ hk => hk.2) (.int .i64 0)) (fun _ hk => hk.2) (.int .i64 0)) (fun _ hk => hk.2) (.int .i64 a0_4)) (fun _ hk => hk.2) (.int .i64 a0_5)) (fun _ hk => hk.2) (.bool a0_6)) (fun _ hk => hk.2) (.string a0_7)) (fun _ hk => hk.2) (.int .i64 a0_8)) (fun _ hk => hk.2) (.slice A0_9 l0_9.length c0_9)) (fun _ hk => hk.1.1.1), by repeat (first | (with_reducible first | exact HB.out | apply below_alloc | apply pw_below_drewN | apply below_drew1 | refine below_set ?_ E0.out | refine below_set ?_ E1.out) | exact HB.out)⟩
    ·replace c14 := Bool.eq_false_iff.mpr c14
     subst c14
     have H1 : (if a0_0 = 1 then (script_named.j1 kj7 a0_0 (a0_0 == 1) a0_0 a0_1 a0_2 a0_3 a0_4 a0_5 a0_6 a0_7 a0_8 l0_9) else (if a0_0 = 2 then (script_named.j1 kj7 a0_0 (a0_0 == 2) a0_0 a0_1 a0_2 a0_3 a0_4 a0_5 a0_6 a0_7 a0_8 l0_9) else (script_named.j1 kj7 a0_0 (a0_0 == 3) a0_0 a0_1 a0_2 a0_3 a0_4 a0_5 a0_6 a0_7 a0_8 l0_9))) = some (r1, r2, r3, r4, r5, r6, r7, r8, r9, r10, r11) := by rw [if_neg (show ¬ (false = true) by decide)] at H; exact H
     clear H
     have H := H1
     clear H1
     have HC18 := Aside0.mk H
     clear H
     go_upto_if 11 with (fail)
     go_cut [11] (fun v11 wc => ∃ (kq : Nat) (x11_17 : Bool), v11 = .bool x11_17 ∧ Aside0 (script_named.j1 kq a0_0 x11_17 a0_0 a0_1 a0_2 a0_3 a0_4 a0_5 a0_6 a0_7 a0_8 l0_9 = some (r1, r2, r3, r4, r5, r6, r7, r8, r9, r10, r11)) ∧ Aside0 (kq ≤ kj7) ∧ Aside0 (Kd.V k63 63 wc w.heap.size (fun k_ => (P0_9_ k_ ∨ w.heap.size ≤ k_) ∧ k_ ≠ g1 ∧ k_ ≠ g0) (.slice A0_9 l0_9.length c0_9) l0_9) ∧ Aside0 (wc.heap[g1]? = some (.cells #[.int .i64 a0_0, .int .i64 a0_1, .int .i64 a0_2, .int .i64 a0_3, .int .i64 a0_4, .int .i64 a0_5, .bool a0_6, .string a0_7, .int .i64 a0_8, (.slice A0_9 l0_9.length c0_9)] 40 (0, 0))) ∧ Aside0 (wc.heap[g0]? = some (.cells #[.int .i64 0, .int .i64 0, .int .i64 0, .int .i64 0, .int .i64 0, .int .i64 0, .bool false, .string (⟨#[]⟩ : ByteArray), .int .i64 0, (.slice none 0 0)] 40 (0, 0))) ∧ Aside0 (Below w.heap.size w wc))
     case first =>
      have H := HC18.out
      clear HC18
      by_cases c19 : a0_0 = 1
      ·rw [if_pos c19] at H
       have c19b0 : (a0_0 == 1) = true := beq_iff_eq.mpr c19
       have c19b1 : (a0_0 != 1) = false := bne_eq_false_iff_eq.mpr c19
       clear c19
       (first | rw [c19b0] | (simp only [i64_w, i32_w]; rw [c19b0]) | skip)
       have H' := Aside0.mk H
       clear H
       go_wp2
       go_meet
       case rel => exact ⟨_, ((a0_0 == 1)), (by first | rfl | (simp; done) | (simp [*]; done)), H', ⟨by have := HJ7.out; first | omega | exact Nat.le_refl _⟩, ⟨by (with_reducible repeat (first | apply Kd.V_alloc | apply Kd.V_drewN | apply Kd.V_drew)); exact HO_125009.out⟩, ⟨by (with_reducible repeat (first | refine blk_drewN ?_ _ | refine blk_drew ?_ | refine blk_alloc ?_ _)); exact K0.out⟩, ⟨by (with_reducible repeat (first | refine blk_drewN ?_ _ | refine blk_drew ?_ | refine blk_alloc ?_ _)); exact K1.out⟩, ⟨by repeat (first | (with_reducible first | exact HB.out | apply below_alloc | apply pw_below_drewN | apply below_drew1 | refine below_set ?_ E0.out | refine below_set ?_ E1.out) | exact HB.out)⟩⟩
      ·rw [if_neg c19] at H
       have c19b0 : (a0_0 == 1) = false := beq_eq_false_iff_ne.mpr c19
       have c19b1 : (a0_0 != 1) = true := bne_iff_ne.mpr c19
       (first | rw [c19b0] | (simp only [i64_w, i32_w]; rw [c19b0]) | skip)
       by_cases c20 : a0_0 = 2
       ·rw [if_pos c20] at H
        have c20b0 : (a0_0 == 2) = true := beq_iff_eq.mpr c20
        have c20b1 : (a0_0 != 2) = false := bne_eq_false_iff_eq.mpr c20
        clear c20
        have H' := Aside0.mk H
        clear H
        go_wp2
        go_meet
        case rel => exact ⟨_, ((a0_0 == 2)), (by first | rfl | (simp; done) | (simp [*]; done)), H', ⟨by have := HJ7.out; first | omega | exact Nat.le_refl _⟩, ⟨by (with_reducible repeat (first | apply Kd.V_alloc | apply Kd.V_drewN | apply Kd.V_drew)); exact HO_125009.out⟩, ⟨by (with_reducible repeat (first | refine blk_drewN ?_ _ | refine blk_drew ?_ | refine blk_alloc ?_ _)); exact K0.out⟩, ⟨by (with_reducible repeat (first | refine blk_drewN ?_ _ | refine blk_drew ?_ | refine blk_alloc ?_ _)); exact K1.out⟩, ⟨by repeat (first | (with_reducible first | exact HB.out | apply below_alloc | apply pw_below_drewN | apply below_drew1 | refine below_set ?_ E0.out | refine below_set ?_ E1.out) | exact HB.out)⟩⟩
       ·rw [if_neg c20] at H
        have c20b0 : (a0_0 == 2) = false := beq_eq_false_iff_ne.mpr c20
        have c20b1 : (a0_0 != 2) = true := bne_iff_ne.mpr c20
        have H' := Aside0.mk H
        clear H
        go_wp2
        go_meet
        case rel => exact ⟨_, ((a0_0 == 3)), (by first | rfl | (simp; done) | (simp [*]; done)), H', ⟨by have := HJ7.out; first | omega | exact Nat.le_refl _⟩, ⟨by (with_reducible repeat (first | apply Kd.V_alloc | apply Kd.V_drewN | apply Kd.V_drew)); exact HO_125009.out⟩, ⟨by (with_reducible repeat (first | refine blk_drewN ?_ _ | refine blk_drew ?_ | refine blk_alloc ?_ _)); exact K0.out⟩, ⟨by (with_reducible repeat (first | refine blk_drewN ?_ _ | refine blk_drew ?_ | refine blk_alloc ?_ _)); exact K1.out⟩, ⟨by repeat (first | (with_reducible first | exact HB.out | apply below_alloc | apply pw_below_drewN | apply below_drew1 | refine below_set ?_ E0.out | refine below_set ?_ E1.out) | exact HB.out)⟩⟩
     case rest =>
      clear HC18
      try clear c1
      try clear c2
      try clear c2b0
      try clear c2b1
      try clear p2
      try clear c3
      try clear c5
      try clear c11
      try clear c13
      try clear c13b0
      try clear c13b1
      try clear c14
      try clear c15
      try clear c19
      try clear c19b0
      try clear c19b1
      try clear c20
      try clear c20b0
      try clear c20b1
      try clear hcz12_0
      try clear hcz12_1
      try clear hcz12_2
      try clear hcz12_3
      try clear hcz12_4
      try clear hcz12_5
      try clear hcz12_6
      try clear hcz12_7
      try clear hcz12_8
      try clear hcz12_9
      try clear hcz16_0
      try clear hcz16_1
      try clear hcz16_2
      try clear hcz16_3
      try clear hcz16_4
      try clear hcz16_5
      try clear hcz16_6
      try clear hcz16_7
      try clear hcz16_8
      try clear hcz16_9
      try clear hcz17_0
      try clear hcz17_1
      try clear hcz17_2
      try clear hcz17_3
      try clear hcz17_4
      try clear hcz17_5
      try clear hcz17_6
      try clear hcz17_7
      try clear hcz17_8
      try clear hcz17_9
      try clear hcz6_0
      try clear hcz6_1
      try clear hcz6_2
      try clear hcz6_3
      try clear hcz6_4
      try clear hcz6_5
      try clear hcz6_6
      try clear hcz6_7
      try clear hcz6_8
      try clear hcz6_9
      try clear hcz7_0
      try clear hcz7_1
      try clear hcz7_2
      try clear hcz7_3
      try clear hcz7_4
      try clear hcz7_5
      try clear hcz7_6
      try clear hcz7_7
      try clear hcz7_8
      try clear hcz7_9
      try clear hfz12_0
      try clear hfz12_1
      try clear hfz12_2
      try clear hfz12_3
      try clear hfz12_4
      try clear hfz12_5
      try clear hfz12_6
      try clear hfz12_7
      try clear hfz12_8
      try clear hfz12_9
      try clear hfz16_0
      try clear hfz16_1
      try clear hfz16_2
      try clear hfz16_3
      try clear hfz16_4
      try clear hfz16_5
      try clear hfz16_6
      try clear hfz16_7
      try clear hfz16_8
      try clear hfz16_9
      try clear hfz17_0
      try clear hfz17_1
      try clear hfz17_2
      try clear hfz17_3
      try clear hfz17_4
      try clear hfz17_5
      try clear hfz17_6
      try clear hfz17_7
      try clear hfz17_8
      try clear hfz17_9
      try clear hfz6_0
      try clear hfz6_1
      try clear hfz6_2
      try clear hfz6_3
      try clear hfz6_4
      try clear hfz6_5
      try clear hfz6_6
      try clear hfz6_7
      try clear hfz6_8
      try clear hfz6_9
      try clear hfz7_0
      try clear hfz7_1
      try clear hfz7_2
      try clear hfz7_3
      try clear hfz7_4
      try clear hfz7_5
      try clear hfz7_6
      try clear hfz7_7
      try clear hfz7_8
      try clear hfz7_9
      try clear p2
      obtain ⟨kq, x11_17, rfl, HA, HJ17, HO_125009, K0, K1, HB⟩ := hcut
      cases kq with
      | zero => exact absurd HA.out (by simp [script_named.j1])
      | succ kj17 =>
       have H := HA.out
       clear HA
       simp only [script_named.j1] at H
       by_cases c21 : x11_17 = true
       ·subst c21
        have H1 : (some (a0_0, a0_1, a0_2, a0_3, a0_4, 0, a0_6, a0_7, a0_8, l0_9, true)) = some (r1, r2, r3, r4, r5, r6, r7, r8, r9, r10, r11) := by rw [if_pos rfl] at H; exact H
        clear H
        have H := H1
        clear H1
        simp only [Option.some.injEq, Prod.mk.injEq] at H
        obtain ⟨rfl, rfl, rfl, rfl, rfl, rfl, rfl, rfl, rfl, rfl, rfl⟩ := H
        have hnb22 := N1.out
        have hnc22 := N0.out
        have hcz23_0 : wc.cell? ⟨g1, 0, none⟩ = some (.int .i64 a0_0) := (blk_cell K0.out 0).trans rfl
        have hcz23_1 : wc.cell? ⟨g1, 1, none⟩ = some (.int .i64 a0_1) := (blk_cell K0.out 1).trans rfl
        have hcz23_2 : wc.cell? ⟨g1, 2, none⟩ = some (.int .i64 a0_2) := (blk_cell K0.out 2).trans rfl
        have hcz23_3 : wc.cell? ⟨g1, 3, none⟩ = some (.int .i64 a0_3) := (blk_cell K0.out 3).trans rfl
        have hcz23_4 : wc.cell? ⟨g1, 4, none⟩ = some (.int .i64 a0_4) := (blk_cell K0.out 4).trans rfl
        have hcz23_5 : wc.cell? ⟨g1, 5, none⟩ = some (.int .i64 a0_5) := (blk_cell K0.out 5).trans rfl
        have hcz23_6 : wc.cell? ⟨g1, 6, none⟩ = some (.bool a0_6) := (blk_cell K0.out 6).trans rfl
        have hcz23_7 : wc.cell? ⟨g1, 7, none⟩ = some (.string a0_7) := (blk_cell K0.out 7).trans rfl
        have hcz23_8 : wc.cell? ⟨g1, 8, none⟩ = some (.int .i64 a0_8) := (blk_cell K0.out 8).trans rfl
        have hcz23_9 : wc.cell? ⟨g1, 9, none⟩ = some (.slice A0_9 l0_9.length c0_9) := (blk_cell K0.out 9).trans rfl
        have hfz23_0 := blk_frozen K0.out 0
        have hfz23_1 := blk_frozen K0.out 1
        have hfz23_2 := blk_frozen K0.out 2
        have hfz23_3 := blk_frozen K0.out 3
        have hfz23_4 := blk_frozen K0.out 4
        have hfz23_5 := blk_frozen K0.out 5
        have hfz23_6 := blk_frozen K0.out 6
        have hfz23_7 := blk_frozen K0.out 7
        have hfz23_8 := blk_frozen K0.out 8
        have hfz23_9 := blk_frozen K0.out 9
        have hcz24_0 : wc.cell? ⟨g0, 0, none⟩ = some (.int .i64 0) := (blk_cell K1.out 0).trans rfl
        have hcz24_1 : wc.cell? ⟨g0, 1, none⟩ = some (.int .i64 0) := (blk_cell K1.out 1).trans rfl
        have hcz24_2 : wc.cell? ⟨g0, 2, none⟩ = some (.int .i64 0) := (blk_cell K1.out 2).trans rfl
        have hcz24_3 : wc.cell? ⟨g0, 3, none⟩ = some (.int .i64 0) := (blk_cell K1.out 3).trans rfl
        have hcz24_4 : wc.cell? ⟨g0, 4, none⟩ = some (.int .i64 0) := (blk_cell K1.out 4).trans rfl
        have hcz24_5 : wc.cell? ⟨g0, 5, none⟩ = some (.int .i64 0) := (blk_cell K1.out 5).trans rfl
        have hcz24_6 : wc.cell? ⟨g0, 6, none⟩ = some (.bool false) := (blk_cell K1.out 6).trans rfl
        have hcz24_7 : wc.cell? ⟨g0, 7, none⟩ = some (.string (⟨#[]⟩ : ByteArray)) := (blk_cell K1.out 7).trans rfl
        have hcz24_8 : wc.cell? ⟨g0, 8, none⟩ = some (.int .i64 0) := (blk_cell K1.out 8).trans rfl
        have hcz24_9 : wc.cell? ⟨g0, 9, none⟩ = some (.slice none 0 0) := (blk_cell K1.out 9).trans rfl
        have hfz24_0 := blk_frozen K1.out 0
        have hfz24_1 := blk_frozen K1.out 1
        have hfz24_2 := blk_frozen K1.out 2
        have hfz24_3 := blk_frozen K1.out 3
        have hfz24_4 := blk_frozen K1.out 4
        have hfz24_5 := blk_frozen K1.out 5
        have hfz24_6 := blk_frozen K1.out 6
        have hfz24_7 := blk_frozen K1.out 7
        have hfz24_8 := blk_frozen K1.out 8
        have hfz24_9 := blk_frozen K1.out 9
        go_wp2
        refine bodyPost_ret (results_ct rfl _ _ g0 40 #[.int .i64 a0_0, .int .i64 a0_1, .int .i64 a0_2, .int .i64 a0_3, .int .i64 a0_4, .int .i64 0, .bool a0_6, .string a0_7, .int .i64 a0_8, .slice A0_9 l0_9.length c0_9] (0, 0) _ rfl (by (with_reducible repeat (first | refine blk_drewN ?_ _ | refine blk_drew ?_ | refine blk_alloc ?_ _)); refine blk_put (cs := #[.int .i64 a0_0, .int .i64 a0_1, .int .i64 a0_2, .int .i64 a0_3, .int .i64 a0_4, .int .i64 0, .bool a0_6, .string a0_7, .int .i64 a0_8, .slice none 0 0]) ?_ 9 _ rfl; (with_reducible repeat (first | refine blk_drewN ?_ _ | refine blk_drew ?_ | refine blk_alloc ?_ _)); refine blk_put (cs := #[.int .i64 a0_0, .int .i64 a0_1, .int .i64 a0_2, .int .i64 a0_3, .int .i64 a0_4, .int .i64 0, .bool a0_6, .string a0_7, .int .i64 0, .slice none 0 0]) ?_ 8 _ rfl; (with_reducible repeat (first | refine blk_drewN ?_ _ | refine blk_drew ?_ | refine blk_alloc ?_ _)); refine blk_put (cs := #[.int .i64 a0_0, .int .i64 a0_1, .int .i64 a0_2, .int .i64 a0_3, .int .i64 a0_4, .int .i64 0, .bool a0_6, .string (⟨#[]⟩ : ByteArray), .int .i64 0, .slice none 0 0]) ?_ 7 _ rfl; (with_reducible repeat (first | refine blk_drewN ?_ _ | refine blk_drew ?_ | refine blk_alloc ?_ _)); refine blk_put (cs := #[.int .i64 a0_0, .int .i64 a0_1, .int .i64 a0_2, .int .i64 a0_3, .int .i64 a0_4, .int .i64 0, .bool false, .string (⟨#[]⟩ : ByteArray), .int .i64 0, .slice none 0 0]) ?_ 6 _ rfl; (with_reducible repeat (first | refine blk_drewN ?_ _ | refine blk_drew ?_ | refine blk_alloc ?_ _)); refine blk_put (cs := #[.int .i64 a0_0, .int .i64 a0_1, .int .i64 a0_2, .int .i64 a0_3, .int .i64 a0_4, .int .i64 0, .bool false, .string (⟨#[]⟩ : ByteArray), .int .i64 0, .slice none 0 0]) ?_ 5 _ rfl; (with_reducible repeat (first | refine blk_drewN ?_ _ | refine blk_drew ?_ | refine blk_alloc ?_ _)); refine blk_put (cs := #[.int .i64 a0_0, .int .i64 a0_1, .int .i64 a0_2, .int .i64 a0_3, .int .i64 0, .int .i64 0, .bool false, .string (⟨#[]⟩ : ByteArray), .int .i64 0, .slice none 0 0]) ?_ 4 _ rfl; (with_reducible repeat (first | refine blk_drewN ?_ _ | refine blk_drew ?_ | refine blk_alloc ?_ _)); refine blk_put (cs := #[.int .i64 a0_0, .int .i64 a0_1, .int .i64 a0_2, .int .i64 0, .int .i64 0, .int .i64 0, .bool false, .string (⟨#[]⟩ : ByteArray), .int .i64 0, .slice none 0 0]) ?_ 3 _ rfl; (with_reducible repeat (first | refine blk_drewN ?_ _ | refine blk_drew ?_ | refine blk_alloc ?_ _)); refine blk_put (cs := #[.int .i64 a0_0, .int .i64 a0_1, .int .i64 0, .int .i64 0, .int .i64 0, .int .i64 0, .bool false, .string (⟨#[]⟩ : ByteArray), .int .i64 0, .slice none 0 0]) ?_ 2 _ rfl; (with_reducible repeat (first | refine blk_drewN ?_ _ | refine blk_drew ?_ | refine blk_alloc ?_ _)); refine blk_put (cs := #[.int .i64 a0_0, .int .i64 0, .int .i64 0, .int .i64 0, .int .i64 0, .int .i64 0, .bool false, .string (⟨#[]⟩ : ByteArray), .int .i64 0, .slice none 0 0]) ?_ 1 _ rfl; (with_reducible repeat (first | refine blk_drewN ?_ _ | refine blk_drew ?_ | refine blk_alloc ?_ _)); refine blk_put (cs := #[.int .i64 0, .int .i64 0, .int .i64 0, .int .i64 0, .int .i64 0, .int .i64 0, .bool false, .string (⟨#[]⟩ : ByteArray), .int .i64 0, .slice none 0 0]) ?_ 0 _ rfl; (with_reducible repeat (first | refine blk_drewN ?_ _ | refine blk_drew ?_ | refine blk_alloc ?_ _)); refine blk_far ?_ N0.out _; (with_reducible repeat (first | refine blk_drewN ?_ _ | refine blk_drew ?_ | refine blk_alloc ?_ _)); exact K1.out) Tryd.underlying40 rfl (by kernel_rfl)) rfl ?_
        exact ⟨_, by first | rfl | (simp [errW_none, errW_some] <;> rfl) | (simp [*, errW_none, errW_some] <;> rfl), by (with_reducible repeat (first | apply Kd.V_alloc | apply Kd.V_drewN | apply Kd.V_drew)); exact Kd.V_mono (Kd.V_far (p := ⟨g0, 9, none⟩) (Kd.V_far (p := ⟨g0, 8, none⟩) (Kd.V_far (p := ⟨g0, 7, none⟩) (Kd.V_far (p := ⟨g0, 6, none⟩) (Kd.V_far (p := ⟨g0, 5, none⟩) (Kd.V_far (p := ⟨g0, 4, none⟩) (Kd.V_far (p := ⟨g0, 3, none⟩) (Kd.V_far (p := ⟨g0, 2, none⟩) (Kd.V_far (p := ⟨g0, 1, none⟩) (Kd.V_far (p := ⟨g0, 0, none⟩) (Kd.V_far (p := ⟨g1, 5, none⟩) (Kd.V_mono (Kd.V_mono HO_125009.out (fun k_ hk => (⟨hk, hk.2.1⟩ : _ ∧ k_ ≠ g1))) (fun k_ hk => (⟨hk, hk.1.2.2⟩ : _ ∧ k_ ≠ g0))) (fun _ hk => hk.1.2) (.int .i64 0)) (fun _ hk => hk.2) (.int .i64 a0_0)) (fun _ hk => hk.2) (.int .i64 a0_1)) (fun _ hk => hk.2) (.int .i64 a0_2)) (fun _ hk => hk.2) (.int .i64 a0_3)) (fun _ hk => hk.2) (.int .i64 a0_4)) (fun _ hk => hk.2) (.int .i64 0)) (fun _ hk => hk.2) (.bool a0_6)) (fun _ hk => hk.2) (.string a0_7)) (fun _ hk => hk.2) (.int .i64 a0_8)) (fun _ hk => hk.2) (.slice A0_9 l0_9.length c0_9)) (fun _ hk => hk.1.1.1), by repeat (first | (with_reducible first | exact HB.out | apply below_alloc | apply pw_below_drewN | apply below_drew1 | refine below_set ?_ E0.out | refine below_set ?_ E1.out) | exact HB.out)⟩
       ·replace c21 := Bool.eq_false_iff.mpr c21
        subst c21
        have H1 : (if a0_0 = 5 then (some (a0_0, 0, 0, 0, 0, a0_5, false, a0_7, a0_8, l0_9, true)) else (if a0_0 = 6 then (some (a0_0, a0_1, 0, a0_3, a0_4, a0_5, a0_6, a0_7, a0_8, l0_9, true)) else (if a0_0 = 9 then (some (a0_0, a0_1, a0_2, a0_3, a0_4, a0_5, a0_6, a0_7, 0, ([] : List (S63)), true)) else (if a0_0 = 4 then (some (a0_0, a0_1, a0_2, a0_3, a0_4, a0_5, a0_6, a0_7, a0_8, l0_9, true)) else (some (a0_0, a0_1, a0_2, a0_3, a0_4, a0_5, a0_6, a0_7, a0_8, l0_9, false)))))) = some (r1, r2, r3, r4, r5, r6, r7, r8, r9, r10, r11) := by rw [if_neg (show ¬ (false = true) by decide)] at H; exact H
        clear H
        have H := H1
        clear H1
        by_cases c25 : a0_0 = 5
        ·rw [if_pos c25] at H
         have c25b0 : (a0_0 == 5) = true := beq_iff_eq.mpr c25
         have c25b1 : (a0_0 != 5) = false := bne_eq_false_iff_eq.mpr c25
         clear c25
         simp only [Option.some.injEq, Prod.mk.injEq] at H
         obtain ⟨rfl, rfl, rfl, rfl, rfl, rfl, rfl, rfl, rfl, rfl, rfl⟩ := H
         have hnb26 := N1.out
         have hnc26 := N0.out
         have hcz27_0 : wc.cell? ⟨g1, 0, none⟩ = some (.int .i64 a0_0) := (blk_cell K0.out 0).trans rfl
         have hcz27_1 : wc.cell? ⟨g1, 1, none⟩ = some (.int .i64 a0_1) := (blk_cell K0.out 1).trans rfl
         have hcz27_2 : wc.cell? ⟨g1, 2, none⟩ = some (.int .i64 a0_2) := (blk_cell K0.out 2).trans rfl
         have hcz27_3 : wc.cell? ⟨g1, 3, none⟩ = some (.int .i64 a0_3) := (blk_cell K0.out 3).trans rfl
         have hcz27_4 : wc.cell? ⟨g1, 4, none⟩ = some (.int .i64 a0_4) := (blk_cell K0.out 4).trans rfl
         have hcz27_5 : wc.cell? ⟨g1, 5, none⟩ = some (.int .i64 a0_5) := (blk_cell K0.out 5).trans rfl
         have hcz27_6 : wc.cell? ⟨g1, 6, none⟩ = some (.bool a0_6) := (blk_cell K0.out 6).trans rfl
         have hcz27_7 : wc.cell? ⟨g1, 7, none⟩ = some (.string a0_7) := (blk_cell K0.out 7).trans rfl
         have hcz27_8 : wc.cell? ⟨g1, 8, none⟩ = some (.int .i64 a0_8) := (blk_cell K0.out 8).trans rfl
         have hcz27_9 : wc.cell? ⟨g1, 9, none⟩ = some (.slice A0_9 l0_9.length c0_9) := (blk_cell K0.out 9).trans rfl
         have hfz27_0 := blk_frozen K0.out 0
         have hfz27_1 := blk_frozen K0.out 1
         have hfz27_2 := blk_frozen K0.out 2
         have hfz27_3 := blk_frozen K0.out 3
         have hfz27_4 := blk_frozen K0.out 4
         have hfz27_5 := blk_frozen K0.out 5
         have hfz27_6 := blk_frozen K0.out 6
         have hfz27_7 := blk_frozen K0.out 7
         have hfz27_8 := blk_frozen K0.out 8
         have hfz27_9 := blk_frozen K0.out 9
         have hcz28_0 : wc.cell? ⟨g0, 0, none⟩ = some (.int .i64 0) := (blk_cell K1.out 0).trans rfl
         have hcz28_1 : wc.cell? ⟨g0, 1, none⟩ = some (.int .i64 0) := (blk_cell K1.out 1).trans rfl
         have hcz28_2 : wc.cell? ⟨g0, 2, none⟩ = some (.int .i64 0) := (blk_cell K1.out 2).trans rfl
         have hcz28_3 : wc.cell? ⟨g0, 3, none⟩ = some (.int .i64 0) := (blk_cell K1.out 3).trans rfl
         have hcz28_4 : wc.cell? ⟨g0, 4, none⟩ = some (.int .i64 0) := (blk_cell K1.out 4).trans rfl
         have hcz28_5 : wc.cell? ⟨g0, 5, none⟩ = some (.int .i64 0) := (blk_cell K1.out 5).trans rfl
         have hcz28_6 : wc.cell? ⟨g0, 6, none⟩ = some (.bool false) := (blk_cell K1.out 6).trans rfl
         have hcz28_7 : wc.cell? ⟨g0, 7, none⟩ = some (.string (⟨#[]⟩ : ByteArray)) := (blk_cell K1.out 7).trans rfl
         have hcz28_8 : wc.cell? ⟨g0, 8, none⟩ = some (.int .i64 0) := (blk_cell K1.out 8).trans rfl
         have hcz28_9 : wc.cell? ⟨g0, 9, none⟩ = some (.slice none 0 0) := (blk_cell K1.out 9).trans rfl
         have hfz28_0 := blk_frozen K1.out 0
         have hfz28_1 := blk_frozen K1.out 1
         have hfz28_2 := blk_frozen K1.out 2
         have hfz28_3 := blk_frozen K1.out 3
         have hfz28_4 := blk_frozen K1.out 4
         have hfz28_5 := blk_frozen K1.out 5
         have hfz28_6 := blk_frozen K1.out 6
         have hfz28_7 := blk_frozen K1.out 7
         have hfz28_8 := blk_frozen K1.out 8
         have hfz28_9 := blk_frozen K1.out 9
         go_wp2
         refine bodyPost_ret (results_ct rfl _ _ g0 40 #[.int .i64 a0_0, .int .i64 0, .int .i64 0, .int .i64 0, .int .i64 0, .int .i64 a0_5, .bool false, .string a0_7, .int .i64 a0_8, .slice A0_9 l0_9.length c0_9] (0, 0) _ rfl (by (with_reducible repeat (first | refine blk_drewN ?_ _ | refine blk_drew ?_ | refine blk_alloc ?_ _)); refine blk_put (cs := #[.int .i64 a0_0, .int .i64 0, .int .i64 0, .int .i64 0, .int .i64 0, .int .i64 a0_5, .bool false, .string a0_7, .int .i64 a0_8, .slice none 0 0]) ?_ 9 _ rfl; (with_reducible repeat (first | refine blk_drewN ?_ _ | refine blk_drew ?_ | refine blk_alloc ?_ _)); refine blk_put (cs := #[.int .i64 a0_0, .int .i64 0, .int .i64 0, .int .i64 0, .int .i64 0, .int .i64 a0_5, .bool false, .string a0_7, .int .i64 0, .slice none 0 0]) ?_ 8 _ rfl; (with_reducible repeat (first | refine blk_drewN ?_ _ | refine blk_drew ?_ | refine blk_alloc ?_ _)); refine blk_put (cs := #[.int .i64 a0_0, .int .i64 0, .int .i64 0, .int .i64 0, .int .i64 0, .int .i64 a0_5, .bool false, .string (⟨#[]⟩ : ByteArray), .int .i64 0, .slice none 0 0]) ?_ 7 _ rfl; (with_reducible repeat (first | refine blk_drewN ?_ _ | refine blk_drew ?_ | refine blk_alloc ?_ _)); refine blk_put (cs := #[.int .i64 a0_0, .int .i64 0, .int .i64 0, .int .i64 0, .int .i64 0, .int .i64 a0_5, .bool false, .string (⟨#[]⟩ : ByteArray), .int .i64 0, .slice none 0 0]) ?_ 6 _ rfl; (with_reducible repeat (first | refine blk_drewN ?_ _ | refine blk_drew ?_ | refine blk_alloc ?_ _)); refine blk_put (cs := #[.int .i64 a0_0, .int .i64 0, .int .i64 0, .int .i64 0, .int .i64 0, .int .i64 0, .bool false, .string (⟨#[]⟩ : ByteArray), .int .i64 0, .slice none 0 0]) ?_ 5 _ rfl; (with_reducible repeat (first | refine blk_drewN ?_ _ | refine blk_drew ?_ | refine blk_alloc ?_ _)); refine blk_put (cs := #[.int .i64 a0_0, .int .i64 0, .int .i64 0, .int .i64 0, .int .i64 0, .int .i64 0, .bool false, .string (⟨#[]⟩ : ByteArray), .int .i64 0, .slice none 0 0]) ?_ 4 _ rfl; (with_reducible repeat (first | refine blk_drewN ?_ _ | refine blk_drew ?_ | refine blk_alloc ?_ _)); refine blk_put (cs := #[.int .i64 a0_0, .int .i64 0, .int .i64 0, .int .i64 0, .int .i64 0, .int .i64 0, .bool false, .string (⟨#[]⟩ : ByteArray), .int .i64 0, .slice none 0 0]) ?_ 3 _ rfl; (with_reducible repeat (first | refine blk_drewN ?_ _ | refine blk_drew ?_ | refine blk_alloc ?_ _)); refine blk_put (cs := #[.int .i64 a0_0, .int .i64 0, .int .i64 0, .int .i64 0, .int .i64 0, .int .i64 0, .bool false, .string (⟨#[]⟩ : ByteArray), .int .i64 0, .slice none 0 0]) ?_ 2 _ rfl; (with_reducible repeat (first | refine blk_drewN ?_ _ | refine blk_drew ?_ | refine blk_alloc ?_ _)); refine blk_put (cs := #[.int .i64 a0_0, .int .i64 0, .int .i64 0, .int .i64 0, .int .i64 0, .int .i64 0, .bool false, .string (⟨#[]⟩ : ByteArray), .int .i64 0, .slice none 0 0]) ?_ 1 _ rfl; (with_reducible repeat (first | refine blk_drewN ?_ _ | refine blk_drew ?_ | refine blk_alloc ?_ _)); refine blk_put (cs := #[.int .i64 0, .int .i64 0, .int .i64 0, .int .i64 0, .int .i64 0, .int .i64 0, .bool false, .string (⟨#[]⟩ : ByteArray), .int .i64 0, .slice none 0 0]) ?_ 0 _ rfl; (with_reducible repeat (first | refine blk_drewN ?_ _ | refine blk_drew ?_ | refine blk_alloc ?_ _)); refine blk_far ?_ N0.out _; (with_reducible repeat (first | refine blk_drewN ?_ _ | refine blk_drew ?_ | refine blk_alloc ?_ _)); refine blk_far ?_ N0.out _; (with_reducible repeat (first | refine blk_drewN ?_ _ | refine blk_drew ?_ | refine blk_alloc ?_ _)); refine blk_far ?_ N0.out _; (with_reducible repeat (first | refine blk_drewN ?_ _ | refine blk_drew ?_ | refine blk_alloc ?_ _)); refine blk_far ?_ N0.out _; (with_reducible repeat (first | refine blk_drewN ?_ _ | refine blk_drew ?_ | refine blk_alloc ?_ _)); refine blk_far ?_ N0.out _; (with_reducible repeat (first | refine blk_drewN ?_ _ | refine blk_drew ?_ | refine blk_alloc ?_ _)); exact K1.out) Tryd.underlying40 rfl (by kernel_rfl)) rfl ?_
         exact ⟨_, by first | rfl | (simp [errW_none, errW_some] <;> rfl) | (simp [*, errW_none, errW_some] <;> rfl), by (with_reducible repeat (first | apply Kd.V_alloc | apply Kd.V_drewN | apply Kd.V_drew)); exact Kd.V_mono (Kd.V_far (p := ⟨g0, 9, none⟩) (Kd.V_far (p := ⟨g0, 8, none⟩) (Kd.V_far (p := ⟨g0, 7, none⟩) (Kd.V_far (p := ⟨g0, 6, none⟩) (Kd.V_far (p := ⟨g0, 5, none⟩) (Kd.V_far (p := ⟨g0, 4, none⟩) (Kd.V_far (p := ⟨g0, 3, none⟩) (Kd.V_far (p := ⟨g0, 2, none⟩) (Kd.V_far (p := ⟨g0, 1, none⟩) (Kd.V_far (p := ⟨g0, 0, none⟩) (Kd.V_far (p := ⟨g1, 6, none⟩) (Kd.V_far (p := ⟨g1, 4, none⟩) (Kd.V_far (p := ⟨g1, 3, none⟩) (Kd.V_far (p := ⟨g1, 2, none⟩) (Kd.V_far (p := ⟨g1, 1, none⟩) (Kd.V_mono (Kd.V_mono HO_125009.out (fun k_ hk => (⟨hk, hk.2.1⟩ : _ ∧ k_ ≠ g1))) (fun k_ hk => (⟨hk, hk.1.2.2⟩ : _ ∧ k_ ≠ g0))) (fun _ hk => hk.1.2) (.int .i64 0)) (fun _ hk => hk.1.2) (.int .i64 0)) (fun _ hk => hk.1.2) (.int .i64 0)) (fun _ hk => hk.1.2) (.int .i64 0)) (fun _ hk => hk.1.2) (.bool false)) (fun _ hk => hk.2) (.int .i64 a0_0)) (fun _ hk => hk.2) (.int .i64 0)) (fun _ hk => hk.2) (.int .i64 0)) (fun _ hk => hk.2) (.int .i64 0)) (fun _ hk => hk.2) (.int .i64 0)) (fun _ hk => hk.2) (.int .i64 a0_5)) (fun _ hk => hk.2) (.bool false)) (fun _ hk => hk.2) (.string a0_7)) (fun _ hk => hk.2) (.int .i64 a0_8)) (fun _ hk => hk.2) (.slice A0_9 l0_9.length c0_9)) (fun _ hk => hk.1.1.1), by repeat (first | (with_reducible first | exact HB.out | apply below_alloc | apply pw_below_drewN | apply below_drew1 | refine below_set ?_ E0.out | refine below_set ?_ E1.out) | exact HB.out)⟩
        ·rw [if_neg c25] at H
         have c25b0 : (a0_0 == 5) = false := beq_eq_false_iff_ne.mpr c25
         have c25b1 : (a0_0 != 5) = true := bne_iff_ne.mpr c25
         by_cases c29 : a0_0 = 6
         ·rw [if_pos c29] at H
          have c29b0 : (a0_0 == 6) = true := beq_iff_eq.mpr c29
          have c29b1 : (a0_0 != 6) = false := bne_eq_false_iff_eq.mpr c29
          clear c29
          simp only [Option.some.injEq, Prod.mk.injEq] at H
          obtain ⟨rfl, rfl, rfl, rfl, rfl, rfl, rfl, rfl, rfl, rfl, rfl⟩ := H
          have hnb30 := N1.out
          have hnc30 := N0.out
          have hcz31_0 : wc.cell? ⟨g1, 0, none⟩ = some (.int .i64 a0_0) := (blk_cell K0.out 0).trans rfl
          have hcz31_1 : wc.cell? ⟨g1, 1, none⟩ = some (.int .i64 a0_1) := (blk_cell K0.out 1).trans rfl
          have hcz31_2 : wc.cell? ⟨g1, 2, none⟩ = some (.int .i64 a0_2) := (blk_cell K0.out 2).trans rfl
          have hcz31_3 : wc.cell? ⟨g1, 3, none⟩ = some (.int .i64 a0_3) := (blk_cell K0.out 3).trans rfl
          have hcz31_4 : wc.cell? ⟨g1, 4, none⟩ = some (.int .i64 a0_4) := (blk_cell K0.out 4).trans rfl
          have hcz31_5 : wc.cell? ⟨g1, 5, none⟩ = some (.int .i64 a0_5) := (blk_cell K0.out 5).trans rfl
          have hcz31_6 : wc.cell? ⟨g1, 6, none⟩ = some (.bool a0_6) := (blk_cell K0.out 6).trans rfl
          have hcz31_7 : wc.cell? ⟨g1, 7, none⟩ = some (.string a0_7) := (blk_cell K0.out 7).trans rfl
          have hcz31_8 : wc.cell? ⟨g1, 8, none⟩ = some (.int .i64 a0_8) := (blk_cell K0.out 8).trans rfl
          have hcz31_9 : wc.cell? ⟨g1, 9, none⟩ = some (.slice A0_9 l0_9.length c0_9) := (blk_cell K0.out 9).trans rfl
          have hfz31_0 := blk_frozen K0.out 0
          have hfz31_1 := blk_frozen K0.out 1
          have hfz31_2 := blk_frozen K0.out 2
          have hfz31_3 := blk_frozen K0.out 3
          have hfz31_4 := blk_frozen K0.out 4
          have hfz31_5 := blk_frozen K0.out 5
          have hfz31_6 := blk_frozen K0.out 6
          have hfz31_7 := blk_frozen K0.out 7
          have hfz31_8 := blk_frozen K0.out 8
          have hfz31_9 := blk_frozen K0.out 9
          have hcz32_0 : wc.cell? ⟨g0, 0, none⟩ = some (.int .i64 0) := (blk_cell K1.out 0).trans rfl
          have hcz32_1 : wc.cell? ⟨g0, 1, none⟩ = some (.int .i64 0) := (blk_cell K1.out 1).trans rfl
          have hcz32_2 : wc.cell? ⟨g0, 2, none⟩ = some (.int .i64 0) := (blk_cell K1.out 2).trans rfl
          have hcz32_3 : wc.cell? ⟨g0, 3, none⟩ = some (.int .i64 0) := (blk_cell K1.out 3).trans rfl
          have hcz32_4 : wc.cell? ⟨g0, 4, none⟩ = some (.int .i64 0) := (blk_cell K1.out 4).trans rfl
          have hcz32_5 : wc.cell? ⟨g0, 5, none⟩ = some (.int .i64 0) := (blk_cell K1.out 5).trans rfl
          have hcz32_6 : wc.cell? ⟨g0, 6, none⟩ = some (.bool false) := (blk_cell K1.out 6).trans rfl
          have hcz32_7 : wc.cell? ⟨g0, 7, none⟩ = some (.string (⟨#[]⟩ : ByteArray)) := (blk_cell K1.out 7).trans rfl
          have hcz32_8 : wc.cell? ⟨g0, 8, none⟩ = some (.int .i64 0) := (blk_cell K1.out 8).trans rfl
          have hcz32_9 : wc.cell? ⟨g0, 9, none⟩ = some (.slice none 0 0) := (blk_cell K1.out 9).trans rfl
          have hfz32_0 := blk_frozen K1.out 0
          have hfz32_1 := blk_frozen K1.out 1
          have hfz32_2 := blk_frozen K1.out 2
          have hfz32_3 := blk_frozen K1.out 3
          have hfz32_4 := blk_frozen K1.out 4
          have hfz32_5 := blk_frozen K1.out 5
          have hfz32_6 := blk_frozen K1.out 6
          have hfz32_7 := blk_frozen K1.out 7
          have hfz32_8 := blk_frozen K1.out 8
          have hfz32_9 := blk_frozen K1.out 9
          go_wp2
          refine bodyPost_ret (results_ct rfl _ _ g0 40 #[.int .i64 a0_0, .int .i64 a0_1, .int .i64 0, .int .i64 a0_3, .int .i64 a0_4, .int .i64 a0_5, .bool a0_6, .string a0_7, .int .i64 a0_8, .slice A0_9 l0_9.length c0_9] (0, 0) _ rfl (by (with_reducible repeat (first | refine blk_drewN ?_ _ | refine blk_drew ?_ | refine blk_alloc ?_ _)); refine blk_put (cs := #[.int .i64 a0_0, .int .i64 a0_1, .int .i64 0, .int .i64 a0_3, .int .i64 a0_4, .int .i64 a0_5, .bool a0_6, .string a0_7, .int .i64 a0_8, .slice none 0 0]) ?_ 9 _ rfl; (with_reducible repeat (first | refine blk_drewN ?_ _ | refine blk_drew ?_ | refine blk_alloc ?_ _)); refine blk_put (cs := #[.int .i64 a0_0, .int .i64 a0_1, .int .i64 0, .int .i64 a0_3, .int .i64 a0_4, .int .i64 a0_5, .bool a0_6, .string a0_7, .int .i64 0, .slice none 0 0]) ?_ 8 _ rfl; (with_reducible repeat (first | refine blk_drewN ?_ _ | refine blk_drew ?_ | refine blk_alloc ?_ _)); refine blk_put (cs := #[.int .i64 a0_0, .int .i64 a0_1, .int .i64 0, .int .i64 a0_3, .int .i64 a0_4, .int .i64 a0_5, .bool a0_6, .string (⟨#[]⟩ : ByteArray), .int .i64 0, .slice none 0 0]) ?_ 7 _ rfl; (with_reducible repeat (first | refine blk_drewN ?_ _ | refine blk_drew ?_ | refine blk_alloc ?_ _)); refine blk_put (cs := #[.int .i64 a0_0, .int .i64 a0_1, .int .i64 0, .int .i64 a0_3, .int .i64 a0_4, .int .i64 a0_5, .bool false, .string (⟨#[]⟩ : ByteArray), .int .i64 0, .slice none 0 0]) ?_ 6 _ rfl; (with_reducible repeat (first | refine blk_drewN ?_ _ | refine blk_drew ?_ | refine blk_alloc ?_ _)); refine blk_put (cs := #[.int .i64 a0_0, .int .i64 a0_1, .int .i64 0, .int .i64 a0_3, .int .i64 a0_4, .int .i64 0, .bool false, .string (⟨#[]⟩ : ByteArray), .int .i64 0, .slice none 0 0]) ?_ 5 _ rfl; (with_reducible repeat (first | refine blk_drewN ?_ _ | refine blk_drew ?_ | refine blk_alloc ?_ _)); refine blk_put (cs := #[.int .i64 a0_0, .int .i64 a0_1, .int .i64 0, .int .i64 a0_3, .int .i64 0, .int .i64 0, .bool false, .string (⟨#[]⟩ : ByteArray), .int .i64 0, .slice none 0 0]) ?_ 4 _ rfl; (with_reducible repeat (first | refine blk_drewN ?_ _ | refine blk_drew ?_ | refine blk_alloc ?_ _)); refine blk_put (cs := #[.int .i64 a0_0, .int .i64 a0_1, .int .i64 0, .int .i64 0, .int .i64 0, .int .i64 0, .bool false, .string (⟨#[]⟩ : ByteArray), .int .i64 0, .slice none 0 0]) ?_ 3 _ rfl; (with_reducible repeat (first | refine blk_drewN ?_ _ | refine blk_drew ?_ | refine blk_alloc ?_ _)); refine blk_put (cs := #[.int .i64 a0_0, .int .i64 a0_1, .int .i64 0, .int .i64 0, .int .i64 0, .int .i64 0, .bool false, .string (⟨#[]⟩ : ByteArray), .int .i64 0, .slice none 0 0]) ?_ 2 _ rfl; (with_reducible repeat (first | refine blk_drewN ?_ _ | refine blk_drew ?_ | refine blk_alloc ?_ _)); refine blk_put (cs := #[.int .i64 a0_0, .int .i64 0, .int .i64 0, .int .i64 0, .int .i64 0, .int .i64 0, .bool false, .string (⟨#[]⟩ : ByteArray), .int .i64 0, .slice none 0 0]) ?_ 1 _ rfl; (with_reducible repeat (first | refine blk_drewN ?_ _ | refine blk_drew ?_ | refine blk_alloc ?_ _)); refine blk_put (cs := #[.int .i64 0, .int .i64 0, .int .i64 0, .int .i64 0, .int .i64 0, .int .i64 0, .bool false, .string (⟨#[]⟩ : ByteArray), .int .i64 0, .slice none 0 0]) ?_ 0 _ rfl; (with_reducible repeat (first | refine blk_drewN ?_ _ | refine blk_drew ?_ | refine blk_alloc ?_ _)); refine blk_far ?_ N0.out _; (with_reducible repeat (first | refine blk_drewN ?_ _ | refine blk_drew ?_ | refine blk_alloc ?_ _)); exact K1.out) Tryd.underlying40 rfl (by kernel_rfl)) rfl ?_
          exact ⟨_, by first | rfl | (simp [errW_none, errW_some] <;> rfl) | (simp [*, errW_none, errW_some] <;> rfl), by (with_reducible repeat (first | apply Kd.V_alloc | apply Kd.V_drewN | apply Kd.V_drew)); exact Kd.V_mono (Kd.V_far (p := ⟨g0, 9, none⟩) (Kd.V_far (p := ⟨g0, 8, none⟩) (Kd.V_far (p := ⟨g0, 7, none⟩) (Kd.V_far (p := ⟨g0, 6, none⟩) (Kd.V_far (p := ⟨g0, 5, none⟩) (Kd.V_far (p := ⟨g0, 4, none⟩) (Kd.V_far (p := ⟨g0, 3, none⟩) (Kd.V_far (p := ⟨g0, 2, none⟩) (Kd.V_far (p := ⟨g0, 1, none⟩) (Kd.V_far (p := ⟨g0, 0, none⟩) (Kd.V_far (p := ⟨g1, 2, none⟩) (Kd.V_mono (Kd.V_mono HO_125009.out (fun k_ hk => (⟨hk, hk.2.1⟩ : _ ∧ k_ ≠ g1))) (fun k_ hk => (⟨hk, hk.1.2.2⟩ : _ ∧ k_ ≠ g0))) (fun _ hk => hk.1.2) (.int .i64 0)) (fun _ hk => hk.2) (.int .i64 a0_0)) (fun _ hk => hk.2) (.int .i64 a0_1)) (fun _ hk => hk.2) (.int .i64 0)) (fun _ hk => hk.2) (.int .i64 a0_3)) (fun _ hk => hk.2) (.int .i64 a0_4)) (fun _ hk => hk.2) (.int .i64 a0_5)) (fun _ hk => hk.2) (.bool a0_6)) (fun _ hk => hk.2) (.string a0_7)) (fun _ hk => hk.2) (.int .i64 a0_8)) (fun _ hk => hk.2) (.slice A0_9 l0_9.length c0_9)) (fun _ hk => hk.1.1.1), by repeat (first | (with_reducible first | exact HB.out | apply below_alloc | apply pw_below_drewN | apply below_drew1 | refine below_set ?_ E0.out | refine below_set ?_ E1.out) | exact HB.out)⟩
         ·rw [if_neg c29] at H
          have c29b0 : (a0_0 == 6) = false := beq_eq_false_iff_ne.mpr c29
          have c29b1 : (a0_0 != 6) = true := bne_iff_ne.mpr c29
          by_cases c33 : a0_0 = 9
          ·rw [if_pos c33] at H
           have c33b0 : (a0_0 == 9) = true := beq_iff_eq.mpr c33
           have c33b1 : (a0_0 != 9) = false := bne_eq_false_iff_eq.mpr c33
           clear c33
           simp only [Option.some.injEq, Prod.mk.injEq] at H
           obtain ⟨rfl, rfl, rfl, rfl, rfl, rfl, rfl, rfl, rfl, rfl, rfl⟩ := H
           have hnb34 := N1.out
           have hnc34 := N0.out
           have hcz35_0 : wc.cell? ⟨g1, 0, none⟩ = some (.int .i64 a0_0) := (blk_cell K0.out 0).trans rfl
           have hcz35_1 : wc.cell? ⟨g1, 1, none⟩ = some (.int .i64 a0_1) := (blk_cell K0.out 1).trans rfl
           have hcz35_2 : wc.cell? ⟨g1, 2, none⟩ = some (.int .i64 a0_2) := (blk_cell K0.out 2).trans rfl
           have hcz35_3 : wc.cell? ⟨g1, 3, none⟩ = some (.int .i64 a0_3) := (blk_cell K0.out 3).trans rfl
           have hcz35_4 : wc.cell? ⟨g1, 4, none⟩ = some (.int .i64 a0_4) := (blk_cell K0.out 4).trans rfl
           have hcz35_5 : wc.cell? ⟨g1, 5, none⟩ = some (.int .i64 a0_5) := (blk_cell K0.out 5).trans rfl
           have hcz35_6 : wc.cell? ⟨g1, 6, none⟩ = some (.bool a0_6) := (blk_cell K0.out 6).trans rfl
           have hcz35_7 : wc.cell? ⟨g1, 7, none⟩ = some (.string a0_7) := (blk_cell K0.out 7).trans rfl
           have hcz35_8 : wc.cell? ⟨g1, 8, none⟩ = some (.int .i64 a0_8) := (blk_cell K0.out 8).trans rfl
           have hcz35_9 : wc.cell? ⟨g1, 9, none⟩ = some (.slice A0_9 l0_9.length c0_9) := (blk_cell K0.out 9).trans rfl
           have hfz35_0 := blk_frozen K0.out 0
           have hfz35_1 := blk_frozen K0.out 1
           have hfz35_2 := blk_frozen K0.out 2
           have hfz35_3 := blk_frozen K0.out 3
           have hfz35_4 := blk_frozen K0.out 4
           have hfz35_5 := blk_frozen K0.out 5
           have hfz35_6 := blk_frozen K0.out 6
           have hfz35_7 := blk_frozen K0.out 7
           have hfz35_8 := blk_frozen K0.out 8
           have hfz35_9 := blk_frozen K0.out 9
           have hcz36_0 : wc.cell? ⟨g0, 0, none⟩ = some (.int .i64 0) := (blk_cell K1.out 0).trans rfl
           have hcz36_1 : wc.cell? ⟨g0, 1, none⟩ = some (.int .i64 0) := (blk_cell K1.out 1).trans rfl
           have hcz36_2 : wc.cell? ⟨g0, 2, none⟩ = some (.int .i64 0) := (blk_cell K1.out 2).trans rfl
           have hcz36_3 : wc.cell? ⟨g0, 3, none⟩ = some (.int .i64 0) := (blk_cell K1.out 3).trans rfl
           have hcz36_4 : wc.cell? ⟨g0, 4, none⟩ = some (.int .i64 0) := (blk_cell K1.out 4).trans rfl
           have hcz36_5 : wc.cell? ⟨g0, 5, none⟩ = some (.int .i64 0) := (blk_cell K1.out 5).trans rfl
           have hcz36_6 : wc.cell? ⟨g0, 6, none⟩ = some (.bool false) := (blk_cell K1.out 6).trans rfl
           have hcz36_7 : wc.cell? ⟨g0, 7, none⟩ = some (.string (⟨#[]⟩ : ByteArray)) := (blk_cell K1.out 7).trans rfl
           have hcz36_8 : wc.cell? ⟨g0, 8, none⟩ = some (.int .i64 0) := (blk_cell K1.out 8).trans rfl
           have hcz36_9 : wc.cell? ⟨g0, 9, none⟩ = some (.slice none 0 0) := (blk_cell K1.out 9).trans rfl
           have hfz36_0 := blk_frozen K1.out 0
           have hfz36_1 := blk_frozen K1.out 1
           have hfz36_2 := blk_frozen K1.out 2
           have hfz36_3 := blk_frozen K1.out 3
           have hfz36_4 := blk_frozen K1.out 4
           have hfz36_5 := blk_frozen K1.out 5
           have hfz36_6 := blk_frozen K1.out 6
           have hfz36_7 := blk_frozen K1.out 7
           have hfz36_8 := blk_frozen K1.out 8
           have hfz36_9 := blk_frozen K1.out 9
           go_wp2
           refine bodyPost_ret (results_ct rfl _ _ g0 40 #[.int .i64 a0_0, .int .i64 a0_1, .int .i64 a0_2, .int .i64 a0_3, .int .i64 a0_4, .int .i64 a0_5, .bool a0_6, .string a0_7, .int .i64 0, .slice none 0 0] (0, 0) _ rfl (by (with_reducible repeat (first | refine blk_drewN ?_ _ | refine blk_drew ?_ | refine blk_alloc ?_ _)); refine blk_put (cs := #[.int .i64 a0_0, .int .i64 a0_1, .int .i64 a0_2, .int .i64 a0_3, .int .i64 a0_4, .int .i64 a0_5, .bool a0_6, .string a0_7, .int .i64 0, .slice none 0 0]) ?_ 9 _ rfl; (with_reducible repeat (first | refine blk_drewN ?_ _ | refine blk_drew ?_ | refine blk_alloc ?_ _)); refine blk_put (cs := #[.int .i64 a0_0, .int .i64 a0_1, .int .i64 a0_2, .int .i64 a0_3, .int .i64 a0_4, .int .i64 a0_5, .bool a0_6, .string a0_7, .int .i64 0, .slice none 0 0]) ?_ 8 _ rfl; (with_reducible repeat (first | refine blk_drewN ?_ _ | refine blk_drew ?_ | refine blk_alloc ?_ _)); refine blk_put (cs := #[.int .i64 a0_0, .int .i64 a0_1, .int .i64 a0_2, .int .i64 a0_3, .int .i64 a0_4, .int .i64 a0_5, .bool a0_6, .string (⟨#[]⟩ : ByteArray), .int .i64 0, .slice none 0 0]) ?_ 7 _ rfl; (with_reducible repeat (first | refine blk_drewN ?_ _ | refine blk_drew ?_ | refine blk_alloc ?_ _)); refine blk_put (cs := #[.int .i64 a0_0, .int .i64 a0_1, .int .i64 a0_2, .int .i64 a0_3, .int .i64 a0_4, .int .i64 a0_5, .bool false, .string (⟨#[]⟩ : ByteArray), .int .i64 0, .slice none 0 0]) ?_ 6 _ rfl; (with_reducible repeat (first | refine blk_drewN ?_ _ | refine blk_drew ?_ | refine blk_alloc ?_ _)); refine blk_put (cs := #[.int .i64 a0_0, .int .i64 a0_1, .int .i64 a0_2, .int .i64 a0_3, .int .i64 a0_4, .int .i64 0, .bool false, .string (⟨#[]⟩ : ByteArray), .int .i64 0, .slice none 0 0]) ?_ 5 _ rfl; (with_reducible repeat (first | refine blk_drewN ?_ _ | refine blk_drew ?_ | refine blk_alloc ?_ _)); refine blk_put (cs := #[.int .i64 a0_0, .int .i64 a0_1, .int .i64 a0_2, .int .i64 a0_3, .int .i64 0, .int .i64 0, .bool false, .string (⟨#[]⟩ : ByteArray), .int .i64 0, .slice none 0 0]) ?_ 4 _ rfl; (with_reducible repeat (first | refine blk_drewN ?_ _ | refine blk_drew ?_ | refine blk_alloc ?_ _)); refine blk_put (cs := #[.int .i64 a0_0, .int .i64 a0_1, .int .i64 a0_2, .int .i64 0, .int .i64 0, .int .i64 0, .bool false, .string (⟨#[]⟩ : ByteArray), .int .i64 0, .slice none 0 0]) ?_ 3 _ rfl; (with_reducible repeat (first | refine blk_drewN ?_ _ | refine blk_drew ?_ | refine blk_alloc ?_ _)); refine blk_put (cs := #[.int .i64 a0_0, .int .i64 a0_1, .int .i64 0, .int .i64 0, .int .i64 0, .int .i64 0, .bool false, .string (⟨#[]⟩ : ByteArray), .int .i64 0, .slice none 0 0]) ?_ 2 _ rfl; (with_reducible repeat (first | refine blk_drewN ?_ _ | refine blk_drew ?_ | refine blk_alloc ?_ _)); refine blk_put (cs := #[.int .i64 a0_0, .int .i64 0, .int .i64 0, .int .i64 0, .int .i64 0, .int .i64 0, .bool false, .string (⟨#[]⟩ : ByteArray), .int .i64 0, .slice none 0 0]) ?_ 1 _ rfl; (with_reducible repeat (first | refine blk_drewN ?_ _ | refine blk_drew ?_ | refine blk_alloc ?_ _)); refine blk_put (cs := #[.int .i64 0, .int .i64 0, .int .i64 0, .int .i64 0, .int .i64 0, .int .i64 0, .bool false, .string (⟨#[]⟩ : ByteArray), .int .i64 0, .slice none 0 0]) ?_ 0 _ rfl; (with_reducible repeat (first | refine blk_drewN ?_ _ | refine blk_drew ?_ | refine blk_alloc ?_ _)); refine blk_far ?_ N0.out _; (with_reducible repeat (first | refine blk_drewN ?_ _ | refine blk_drew ?_ | refine blk_alloc ?_ _)); refine blk_far ?_ N0.out _; (with_reducible repeat (first | refine blk_drewN ?_ _ | refine blk_drew ?_ | refine blk_alloc ?_ _)); exact K1.out) Tryd.underlying40 rfl (by kernel_rfl)) rfl ?_
           exact ⟨_, by first | rfl | (simp [errW_none, errW_some] <;> rfl) | (simp [*, errW_none, errW_some] <;> rfl), Kd.V_mono (Kd.S_V (Kd.S_nil k63 63 _ w.heap.size (fun k_ => w.heap.size ≤ k_))) (fun k_ hk => by first | exact ⟨(.inr (hk.1)), hk.2⟩ | exact (.inr (hk))), by repeat (first | (with_reducible first | exact HB.out | apply below_alloc | apply pw_below_drewN | apply below_drew1 | refine below_set ?_ E0.out | refine below_set ?_ E1.out) | exact HB.out)⟩
          ·rw [if_neg c33] at H
           have c33b0 : (a0_0 == 9) = false := beq_eq_false_iff_ne.mpr c33
           have c33b1 : (a0_0 != 9) = true := bne_iff_ne.mpr c33
           by_cases c37 : a0_0 = 4
           ·rw [if_pos c37] at H
            have c37b0 : (a0_0 == 4) = true := beq_iff_eq.mpr c37
            have c37b1 : (a0_0 != 4) = false := bne_eq_false_iff_eq.mpr c37
            clear c37
            simp only [Option.some.injEq, Prod.mk.injEq] at H
            obtain ⟨rfl, rfl, rfl, rfl, rfl, rfl, rfl, rfl, rfl, rfl, rfl⟩ := H
            have hnb38 := N1.out
            have hnc38 := N0.out
            have hcz39_0 : wc.cell? ⟨g1, 0, none⟩ = some (.int .i64 a0_0) := (blk_cell K0.out 0).trans rfl
            have hcz39_1 : wc.cell? ⟨g1, 1, none⟩ = some (.int .i64 a0_1) := (blk_cell K0.out 1).trans rfl
            have hcz39_2 : wc.cell? ⟨g1, 2, none⟩ = some (.int .i64 a0_2) := (blk_cell K0.out 2).trans rfl
            have hcz39_3 : wc.cell? ⟨g1, 3, none⟩ = some (.int .i64 a0_3) := (blk_cell K0.out 3).trans rfl
            have hcz39_4 : wc.cell? ⟨g1, 4, none⟩ = some (.int .i64 a0_4) := (blk_cell K0.out 4).trans rfl
            have hcz39_5 : wc.cell? ⟨g1, 5, none⟩ = some (.int .i64 a0_5) := (blk_cell K0.out 5).trans rfl
            have hcz39_6 : wc.cell? ⟨g1, 6, none⟩ = some (.bool a0_6) := (blk_cell K0.out 6).trans rfl
            have hcz39_7 : wc.cell? ⟨g1, 7, none⟩ = some (.string a0_7) := (blk_cell K0.out 7).trans rfl
            have hcz39_8 : wc.cell? ⟨g1, 8, none⟩ = some (.int .i64 a0_8) := (blk_cell K0.out 8).trans rfl
            have hcz39_9 : wc.cell? ⟨g1, 9, none⟩ = some (.slice A0_9 l0_9.length c0_9) := (blk_cell K0.out 9).trans rfl
            have hfz39_0 := blk_frozen K0.out 0
            have hfz39_1 := blk_frozen K0.out 1
            have hfz39_2 := blk_frozen K0.out 2
            have hfz39_3 := blk_frozen K0.out 3
            have hfz39_4 := blk_frozen K0.out 4
            have hfz39_5 := blk_frozen K0.out 5
            have hfz39_6 := blk_frozen K0.out 6
            have hfz39_7 := blk_frozen K0.out 7
            have hfz39_8 := blk_frozen K0.out 8
            have hfz39_9 := blk_frozen K0.out 9
            have hcz40_0 : wc.cell? ⟨g0, 0, none⟩ = some (.int .i64 0) := (blk_cell K1.out 0).trans rfl
            have hcz40_1 : wc.cell? ⟨g0, 1, none⟩ = some (.int .i64 0) := (blk_cell K1.out 1).trans rfl
            have hcz40_2 : wc.cell? ⟨g0, 2, none⟩ = some (.int .i64 0) := (blk_cell K1.out 2).trans rfl
            have hcz40_3 : wc.cell? ⟨g0, 3, none⟩ = some (.int .i64 0) := (blk_cell K1.out 3).trans rfl
            have hcz40_4 : wc.cell? ⟨g0, 4, none⟩ = some (.int .i64 0) := (blk_cell K1.out 4).trans rfl
            have hcz40_5 : wc.cell? ⟨g0, 5, none⟩ = some (.int .i64 0) := (blk_cell K1.out 5).trans rfl
            have hcz40_6 : wc.cell? ⟨g0, 6, none⟩ = some (.bool false) := (blk_cell K1.out 6).trans rfl
            have hcz40_7 : wc.cell? ⟨g0, 7, none⟩ = some (.string (⟨#[]⟩ : ByteArray)) := (blk_cell K1.out 7).trans rfl
            have hcz40_8 : wc.cell? ⟨g0, 8, none⟩ = some (.int .i64 0) := (blk_cell K1.out 8).trans rfl
            have hcz40_9 : wc.cell? ⟨g0, 9, none⟩ = some (.slice none 0 0) := (blk_cell K1.out 9).trans rfl
            have hfz40_0 := blk_frozen K1.out 0
            have hfz40_1 := blk_frozen K1.out 1
            have hfz40_2 := blk_frozen K1.out 2
            have hfz40_3 := blk_frozen K1.out 3
            have hfz40_4 := blk_frozen K1.out 4
            have hfz40_5 := blk_frozen K1.out 5
            have hfz40_6 := blk_frozen K1.out 6
            have hfz40_7 := blk_frozen K1.out 7
            have hfz40_8 := blk_frozen K1.out 8
            have hfz40_9 := blk_frozen K1.out 9
            go_wp2
            refine bodyPost_ret (results_ct rfl _ _ g0 40 #[.int .i64 a0_0, .int .i64 a0_1, .int .i64 a0_2, .int .i64 a0_3, .int .i64 a0_4, .int .i64 a0_5, .bool a0_6, .string a0_7, .int .i64 a0_8, .slice A0_9 l0_9.length c0_9] (0, 0) _ rfl (by (with_reducible repeat (first | refine blk_drewN ?_ _ | refine blk_drew ?_ | refine blk_alloc ?_ _)); refine blk_put (cs := #[.int .i64 a0_0, .int .i64 a0_1, .int .i64 a0_2, .int .i64 a0_3, .int .i64 a0_4, .int .i64 a0_5, .bool a0_6, .string a0_7, .int .i64 a0_8, .slice none 0 0]) ?_ 9 _ rfl; (with_reducible repeat (first | refine blk_drewN ?_ _ | refine blk_drew ?_ | refine blk_alloc ?_ _)); refine blk_put (cs := #[.int .i64 a0_0, .int .i64 a0_1, .int .i64 a0_2, .int .i64 a0_3, .int .i64 a0_4, .int .i64 a0_5, .bool a0_6, .string a0_7, .int .i64 0, .slice none 0 0]) ?_ 8 _ rfl; (with_reducible repeat (first | refine blk_drewN ?_ _ | refine blk_drew ?_ | refine blk_alloc ?_ _)); refine blk_put (cs := #[.int .i64 a0_0, .int .i64 a0_1, .int .i64 a0_2, .int .i64 a0_3, .int .i64 a0_4, .int .i64 a0_5, .bool a0_6, .string (⟨#[]⟩ : ByteArray), .int .i64 0, .slice none 0 0]) ?_ 7 _ rfl; (with_reducible repeat (first | refine blk_drewN ?_ _ | refine blk_drew ?_ | refine blk_alloc ?_ _)); refine blk_put (cs := #[.int .i64 a0_0, .int .i64 a0_1, .int .i64 a0_2, .int .i64 a0_3, .int .i64 a0_4, .int .i64 a0_5, .bool false, .string (⟨#[]⟩ : ByteArray), .int .i64 0, .slice none 0 0]) ?_ 6 _ rfl; (with_reducible repeat (first | refine blk_drewN ?_ _ | refine blk_drew ?_ | refine blk_alloc ?_ _)); refine blk_put (cs := #[.int .i64 a0_0, .int .i64 a0_1, .int .i64 a0_2, .int .i64 a0_3, .int .i64 a0_4, .int .i64 0, .bool false, .string (⟨#[]⟩ : ByteArray), .int .i64 0, .slice none 0 0]) ?_ 5 _ rfl; (with_reducible repeat (first | refine blk_drewN ?_ _ | refine blk_drew ?_ | refine blk_alloc ?_ _)); refine blk_put (cs := #[.int .i64 a0_0, .int .i64 a0_1, .int .i64 a0_2, .int .i64 a0_3, .int .i64 0, .int .i64 0, .bool false, .string (⟨#[]⟩ : ByteArray), .int .i64 0, .slice none 0 0]) ?_ 4 _ rfl; (with_reducible repeat (first | refine blk_drewN ?_ _ | refine blk_drew ?_ | refine blk_alloc ?_ _)); refine blk_put (cs := #[.int .i64 a0_0, .int .i64 a0_1, .int .i64 a0_2, .int .i64 0, .int .i64 0, .int .i64 0, .bool false, .string (⟨#[]⟩ : ByteArray), .int .i64 0, .slice none 0 0]) ?_ 3 _ rfl; (with_reducible repeat (first | refine blk_drewN ?_ _ | refine blk_drew ?_ | refine blk_alloc ?_ _)); refine blk_put (cs := #[.int .i64 a0_0, .int .i64 a0_1, .int .i64 0, .int .i64 0, .int .i64 0, .int .i64 0, .bool false, .string (⟨#[]⟩ : ByteArray), .int .i64 0, .slice none 0 0]) ?_ 2 _ rfl; (with_reducible repeat (first | refine blk_drewN ?_ _ | refine blk_drew ?_ | refine blk_alloc ?_ _)); refine blk_put (cs := #[.int .i64 a0_0, .int .i64 0, .int .i64 0, .int .i64 0, .int .i64 0, .int .i64 0, .bool false, .string (⟨#[]⟩ : ByteArray), .int .i64 0, .slice none 0 0]) ?_ 1 _ rfl; (with_reducible repeat (first | refine blk_drewN ?_ _ | refine blk_drew ?_ | refine blk_alloc ?_ _)); refine blk_put (cs := #[.int .i64 0, .int .i64 0, .int .i64 0, .int .i64 0, .int .i64 0, .int .i64 0, .bool false, .string (⟨#[]⟩ : ByteArray), .int .i64 0, .slice none 0 0]) ?_ 0 _ rfl; (with_reducible repeat (first | refine blk_drewN ?_ _ | refine blk_drew ?_ | refine blk_alloc ?_ _)); exact K1.out) Tryd.underlying40 rfl (by kernel_rfl)) rfl ?_
            exact ⟨_, by first | rfl | (simp [errW_none, errW_some] <;> rfl) | (simp [*, errW_none, errW_some] <;> rfl), by (with_reducible repeat (first | apply Kd.V_alloc | apply Kd.V_drewN | apply Kd.V_drew)); exact Kd.V_mono (Kd.V_far (p := ⟨g0, 9, none⟩) (Kd.V_far (p := ⟨g0, 8, none⟩) (Kd.V_far (p := ⟨g0, 7, none⟩) (Kd.V_far (p := ⟨g0, 6, none⟩) (Kd.V_far (p := ⟨g0, 5, none⟩) (Kd.V_far (p := ⟨g0, 4, none⟩) (Kd.V_far (p := ⟨g0, 3, none⟩) (Kd.V_far (p := ⟨g0, 2, none⟩) (Kd.V_far (p := ⟨g0, 1, none⟩) (Kd.V_far (p := ⟨g0, 0, none⟩) (Kd.V_mono HO_125009.out (fun k_ hk => (⟨hk, hk.2.2⟩ : _ ∧ k_ ≠ g0))) (fun _ hk => hk.2) (.int .i64 a0_0)) (fun _ hk => hk.2) (.int .i64 a0_1)) (fun _ hk => hk.2) (.int .i64 a0_2)) (fun _ hk => hk.2) (.int .i64 a0_3)) (fun _ hk => hk.2) (.int .i64 a0_4)) (fun _ hk => hk.2) (.int .i64 a0_5)) (fun _ hk => hk.2) (.bool a0_6)) (fun _ hk => hk.2) (.string a0_7)) (fun _ hk => hk.2) (.int .i64 a0_8)) (fun _ hk => hk.2) (.slice A0_9 l0_9.length c0_9)) (fun _ hk => hk.1.1), by repeat (first | (with_reducible first | exact HB.out | apply below_alloc | apply pw_below_drewN | apply below_drew1 | refine below_set ?_ E0.out | refine below_set ?_ E1.out) | exact HB.out)⟩
           ·rw [if_neg c37] at H
            have c37b0 : (a0_0 == 4) = false := beq_eq_false_iff_ne.mpr c37
            have c37b1 : (a0_0 != 4) = true := bne_iff_ne.mpr c37
            simp only [Option.some.injEq, Prod.mk.injEq] at H
            obtain ⟨rfl, rfl, rfl, rfl, rfl, rfl, rfl, rfl, rfl, rfl, rfl⟩ := H
            have hnb41 := N1.out
            have hnc41 := N0.out
            have hcz42_0 : wc.cell? ⟨g1, 0, none⟩ = some (.int .i64 a0_0) := (blk_cell K0.out 0).trans rfl
            have hcz42_1 : wc.cell? ⟨g1, 1, none⟩ = some (.int .i64 a0_1) := (blk_cell K0.out 1).trans rfl
            have hcz42_2 : wc.cell? ⟨g1, 2, none⟩ = some (.int .i64 a0_2) := (blk_cell K0.out 2).trans rfl
            have hcz42_3 : wc.cell? ⟨g1, 3, none⟩ = some (.int .i64 a0_3) := (blk_cell K0.out 3).trans rfl
            have hcz42_4 : wc.cell? ⟨g1, 4, none⟩ = some (.int .i64 a0_4) := (blk_cell K0.out 4).trans rfl
            have hcz42_5 : wc.cell? ⟨g1, 5, none⟩ = some (.int .i64 a0_5) := (blk_cell K0.out 5).trans rfl
            have hcz42_6 : wc.cell? ⟨g1, 6, none⟩ = some (.bool a0_6) := (blk_cell K0.out 6).trans rfl
            have hcz42_7 : wc.cell? ⟨g1, 7, none⟩ = some (.string a0_7) := (blk_cell K0.out 7).trans rfl
            have hcz42_8 : wc.cell? ⟨g1, 8, none⟩ = some (.int .i64 a0_8) := (blk_cell K0.out 8).trans rfl
            have hcz42_9 : wc.cell? ⟨g1, 9, none⟩ = some (.slice A0_9 l0_9.length c0_9) := (blk_cell K0.out 9).trans rfl
            have hfz42_0 := blk_frozen K0.out 0
            have hfz42_1 := blk_frozen K0.out 1
            have hfz42_2 := blk_frozen K0.out 2
            have hfz42_3 := blk_frozen K0.out 3
            have hfz42_4 := blk_frozen K0.out 4
            have hfz42_5 := blk_frozen K0.out 5
            have hfz42_6 := blk_frozen K0.out 6
            have hfz42_7 := blk_frozen K0.out 7
            have hfz42_8 := blk_frozen K0.out 8
            have hfz42_9 := blk_frozen K0.out 9
            have hcz43_0 : wc.cell? ⟨g0, 0, none⟩ = some (.int .i64 0) := (blk_cell K1.out 0).trans rfl
            have hcz43_1 : wc.cell? ⟨g0, 1, none⟩ = some (.int .i64 0) := (blk_cell K1.out 1).trans rfl
            have hcz43_2 : wc.cell? ⟨g0, 2, none⟩ = some (.int .i64 0) := (blk_cell K1.out 2).trans rfl
            have hcz43_3 : wc.cell? ⟨g0, 3, none⟩ = some (.int .i64 0) := (blk_cell K1.out 3).trans rfl
            have hcz43_4 : wc.cell? ⟨g0, 4, none⟩ = some (.int .i64 0) := (blk_cell K1.out 4).trans rfl
            have hcz43_5 : wc.cell? ⟨g0, 5, none⟩ = some (.int .i64 0) := (blk_cell K1.out 5).trans rfl
            have hcz43_6 : wc.cell? ⟨g0, 6, none⟩ = some (.bool false) := (blk_cell K1.out 6).trans rfl
            have hcz43_7 : wc.cell? ⟨g0, 7, none⟩ = some (.string (⟨#[]⟩ : ByteArray)) := (blk_cell K1.out 7).trans rfl
            have hcz43_8 : wc.cell? ⟨g0, 8, none⟩ = some (.int .i64 0) := (blk_cell K1.out 8).trans rfl
            have hcz43_9 : wc.cell? ⟨g0, 9, none⟩ = some (.slice none 0 0) := (blk_cell K1.out 9).trans rfl
            have hfz43_0 := blk_frozen K1.out 0
            have hfz43_1 := blk_frozen K1.out 1
            have hfz43_2 := blk_frozen K1.out 2
            have hfz43_3 := blk_frozen K1.out 3
            have hfz43_4 := blk_frozen K1.out 4
            have hfz43_5 := blk_frozen K1.out 5
            have hfz43_6 := blk_frozen K1.out 6
            have hfz43_7 := blk_frozen K1.out 7
            have hfz43_8 := blk_frozen K1.out 8
            have hfz43_9 := blk_frozen K1.out 9
            go_wp2
            refine bodyPost_ret (results_ct rfl _ _ g0 40 #[.int .i64 a0_0, .int .i64 a0_1, .int .i64 a0_2, .int .i64 a0_3, .int .i64 a0_4, .int .i64 a0_5, .bool a0_6, .string a0_7, .int .i64 a0_8, .slice A0_9 l0_9.length c0_9] (0, 0) _ rfl (by (with_reducible repeat (first | refine blk_drewN ?_ _ | refine blk_drew ?_ | refine blk_alloc ?_ _)); refine blk_put (cs := #[.int .i64 a0_0, .int .i64 a0_1, .int .i64 a0_2, .int .i64 a0_3, .int .i64 a0_4, .int .i64 a0_5, .bool a0_6, .string a0_7, .int .i64 a0_8, .slice none 0 0]) ?_ 9 _ rfl; (with_reducible repeat (first | refine blk_drewN ?_ _ | refine blk_drew ?_ | refine blk_alloc ?_ _)); refine blk_put (cs := #[.int .i64 a0_0, .int .i64 a0_1, .int .i64 a0_2, .int .i64 a0_3, .int .i64 a0_4, .int .i64 a0_5, .bool a0_6, .string a0_7, .int .i64 0, .slice none 0 0]) ?_ 8 _ rfl; (with_reducible repeat (first | refine blk_drewN ?_ _ | refine blk_drew ?_ | refine blk_alloc ?_ _)); refine blk_put (cs := #[.int .i64 a0_0, .int .i64 a0_1, .int .i64 a0_2, .int .i64 a0_3, .int .i64 a0_4, .int .i64 a0_5, .bool a0_6, .string (⟨#[]⟩ : ByteArray), .int .i64 0, .slice none 0 0]) ?_ 7 _ rfl; (with_reducible repeat (first | refine blk_drewN ?_ _ | refine blk_drew ?_ | refine blk_alloc ?_ _)); refine blk_put (cs := #[.int .i64 a0_0, .int .i64 a0_1, .int .i64 a0_2, .int .i64 a0_3, .int .i64 a0_4, .int .i64 a0_5, .bool false, .string (⟨#[]⟩ : ByteArray), .int .i64 0, .slice none 0 0]) ?_ 6 _ rfl; (with_reducible repeat (first | refine blk_drewN ?_ _ | refine blk_drew ?_ | refine blk_alloc ?_ _)); refine blk_put (cs := #[.int .i64 a0_0, .int .i64 a0_1, .int .i64 a0_2, .int .i64 a0_3, .int .i64 a0_4, .int .i64 0, .bool false, .string (⟨#[]⟩ : ByteArray), .int .i64 0, .slice none 0 0]) ?_ 5 _ rfl; (with_reducible repeat (first | refine blk_drewN ?_ _ | refine blk_drew ?_ | refine blk_alloc ?_ _)); refine blk_put (cs := #[.int .i64 a0_0, .int .i64 a0_1, .int .i64 a0_2, .int .i64 a0_3, .int .i64 0, .int .i64 0, .bool false, .string (⟨#[]⟩ : ByteArray), .int .i64 0, .slice none 0 0]) ?_ 4 _ rfl; (with_reducible repeat (first | refine blk_drewN ?_ _ | refine blk_drew ?_ | refine blk_alloc ?_ _)); refine blk_put (cs := #[.int .i64 a0_0, .int .i64 a0_1, .int .i64 a0_2, .int .i64 0, .int .i64 0, .int .i64 0, .bool false, .string (⟨#[]⟩ : ByteArray), .int .i64 0, .slice none 0 0]) ?_ 3 _ rfl; (with_reducible repeat (first | refine blk_drewN ?_ _ | refine blk_drew ?_ | refine blk_alloc ?_ _)); refine blk_put (cs := #[.int .i64 a0_0, .int .i64 a0_1, .int .i64 0, .int .i64 0, .int .i64 0, .int .i64 0, .bool false, .string (⟨#[]⟩ : ByteArray), .int .i64 0, .slice none 0 0]) ?_ 2 _ rfl; (with_reducible repeat (first | refine blk_drewN ?_ _ | refine blk_drew ?_ | refine blk_alloc ?_ _)); refine blk_put (cs := #[.int .i64 a0_0, .int .i64 0, .int .i64 0, .int .i64 0, .int .i64 0, .int .i64 0, .bool false, .string (⟨#[]⟩ : ByteArray), .int .i64 0, .slice none 0 0]) ?_ 1 _ rfl; (with_reducible repeat (first | refine blk_drewN ?_ _ | refine blk_drew ?_ | refine blk_alloc ?_ _)); refine blk_put (cs := #[.int .i64 0, .int .i64 0, .int .i64 0, .int .i64 0, .int .i64 0, .int .i64 0, .bool false, .string (⟨#[]⟩ : ByteArray), .int .i64 0, .slice none 0 0]) ?_ 0 _ rfl; (with_reducible repeat (first | refine blk_drewN ?_ _ | refine blk_drew ?_ | refine blk_alloc ?_ _)); exact K1.out) Tryd.underlying40 rfl (by kernel_rfl)) rfl ?_
            exact ⟨_, by first | rfl | (simp [errW_none, errW_some] <;> rfl) | (simp [*, errW_none, errW_some] <;> rfl), by (with_reducible repeat (first | apply Kd.V_alloc | apply Kd.V_drewN | apply Kd.V_drew)); exact Kd.V_mono (Kd.V_far (p := ⟨g0, 9, none⟩) (Kd.V_far (p := ⟨g0, 8, none⟩) (Kd.V_far (p := ⟨g0, 7, none⟩) (Kd.V_far (p := ⟨g0, 6, none⟩) (Kd.V_far (p := ⟨g0, 5, none⟩) (Kd.V_far (p := ⟨g0, 4, none⟩) (Kd.V_far (p := ⟨g0, 3, none⟩) (Kd.V_far (p := ⟨g0, 2, none⟩) (Kd.V_far (p := ⟨g0, 1, none⟩) (Kd.V_far (p := ⟨g0, 0, none⟩) (Kd.V_mono HO_125009.out (fun k_ hk => (⟨hk, hk.2.2⟩ : _ ∧ k_ ≠ g0))) (fun _ hk => hk.2) (.int .i64 a0_0)) (fun _ hk => hk.2) (.int .i64 a0_1)) (fun _ hk => hk.2) (.int .i64 a0_2)) (fun _ hk => hk.2) (.int .i64 a0_3)) (fun _ hk => hk.2) (.int .i64 a0_4)) (fun _ hk => hk.2) (.int .i64 a0_5)) (fun _ hk => hk.2) (.bool a0_6)) (fun _ hk => hk.2) (.string a0_7)) (fun _ hk => hk.2) (.int .i64 a0_8)) (fun _ hk => hk.2) (.slice A0_9 l0_9.length c0_9)) (fun _ hk => hk.1.1), by repeat (first | (with_reducible first | exact HB.out | apply below_alloc | apply pw_below_drewN | apply below_drew1 | refine below_set ?_ E0.out | refine below_set ?_ E1.out) | exact HB.out)⟩

end Go.Proofs.YtnojgkiaolmoeaaDoor.PSc
end
section
/- Contracts: what calls of these functions of the program do, each as a plain function; written by a program of this session. -/
namespace Go.Proofs.YtnojgkiaolmoeaaDoor.PSc
open Go.RowKit Go.Proofs.YtnojgkiaolmoeaaDoorW.PrintWords Go.Proofs.YtnojgkiaolmoeaaDoorW.PrintLast Go.Proofs.YtnojgkiaolmoeaaDoorW.PrintMore
attribute [local go_sem] max2_int min2_int max_two min_two max_three min_three max_four min_four   -- for this text's walks alone
set_option linter.unusedVariables false
set_option linter.unusedSimpArgs false

/-! ### ip_In: function 31 -/
def ip_In.f (a0 : Int) (a1 : Int) : Option (Bool) := if a0 ≥ 0 then (if 0 ≤ a1 then (some ((shr .i64 a0 a1) == 0)) else (none)) else (some false)
set_option maxHeartbeats 8000000 in
set_option maxRecDepth 100000 in
theorem ip_In.calls (a0 : Int) (a1 : Int) (r : Bool) (w : World) (h : ip_In.f a0 a1 = some r) :
  Calls Tryd.prog 31 #[.int .i64 a0, .int .i64 a1] w fun e w' => e = .returned (.bool r) ∧ Drawn0 w w' := by
 have H : (if a0 ≥ 0 then (if 0 ≤ a1 then (some ((shr .i64 a0 a1) == 0)) else (none)) else (some false)) = some r := h
 clear h
 by_cases c3 : a0 ≥ 0
 ·rw [if_pos c3] at H
  have c3b0 : decide (0 ≤ a0) = true := decide_eq_true c3
  clear c3
  by_cases c4 : 0 ≤ a1
  ·rw [if_pos c4] at H
   have c4b0 := eq_true c4
   have c4b1 : decide (0 ≤ a1) = true := decide_eq_true c4
   clear c4
   obtain ⟨ji5, hji5⟩ : ∃ j_ : Int, (shr .i64 a0 a1) = j_ := ⟨_, rfl⟩
   replace H : (some ((ji5) == 0)) = some r := by first | (rw [hji5] at H; exact H) | (simp only [hji5] at H ⊢; exact H)
   have hji5_ : (a0 / 2 ^ min a1.toNat 64) = ji5 := hji5
   have hji5z : a1 ≤ 64 → (a0 / 2 ^ a1.toNat) = ji5 := shr_small hji5
   obtain rfl := Option.some.inj H
   go_enter Tryd.func31, Tryd.ntmps31
   go_wp2
   go_ret
   exact ⟨by first | rfl | (simp; done) | (simp only [← hji5] <;> (first | rfl | simp)) | (simp [*]; done), by repeat (first | exact Drawn0.refl _ | apply Drawn0.step)⟩
  ·rw [if_neg c4] at H
   exact absurd H (by simp)
 ·rw [if_neg c3] at H
  have c3b0 : decide (0 ≤ a0) = false := decide_eq_false c3
  clear c3
  obtain rfl := Option.some.inj H
  go_enter Tryd.func31, Tryd.ntmps31
  go_wp2
  go_ret
  exact ⟨by first | rfl | (simp; done) | (simp [*]; done), by repeat (first | exact Drawn0.refl _ | apply Drawn0.step)⟩

/-! ### conf_to: function 57 -/
def conf_to.f (a0 : Int) (a1 : Int) : Option (Bool) := if a0 ≥ 0 then (some (decide (a0 ≤ a1))) else (some false)
set_option maxHeartbeats 8000000 in
set_option maxRecDepth 100000 in
theorem conf_to.calls (a0 : Int) (a1 : Int) (r : Bool) (w : World) (h : conf_to.f a0 a1 = some r) :
  Calls Tryd.prog 57 #[.int .i64 a0, .int .i64 a1] w fun e w' => e = .returned (.bool r) ∧ Drawn0 w w' := by
 have H : (if a0 ≥ 0 then (some (decide (a0 ≤ a1))) else (some false)) = some r := h
 clear h
 by_cases c3 : a0 ≥ 0
 ·rw [if_pos c3] at H
  have c3b0 : decide (0 ≤ a0) = true := decide_eq_true c3
  clear c3
  obtain rfl := Option.some.inj H
  go_enter Tryd.func57, Tryd.ntmps57
  go_wp2
  go_ret
  exact ⟨by first | rfl | (simp; done) | (simp [*]; done), by repeat (first | exact Drawn0.refl _ | apply Drawn0.step)⟩
 ·rw [if_neg c3] at H
  have c3b0 : decide (0 ≤ a0) = false := decide_eq_false c3
  clear c3
  obtain rfl := Option.some.inj H
  go_enter Tryd.func57, Tryd.ntmps57
  go_wp2
  go_ret
  exact ⟨by first | rfl | (simp; done) | (simp [*]; done), by repeat (first | exact Drawn0.refl _ | apply Drawn0.step)⟩

end Go.Proofs.YtnojgkiaolmoeaaDoor.PSc
end
section
/- Contracts: what calls of these functions of the program do, each as a plain function; written by a program of this session. -/
namespace Go.Proofs.YtnojgkiaolmoeaaDoor.PSc
open Go.RowKit Go.Proofs.YtnojgkiaolmoeaaDoorW.PrintWords Go.Proofs.YtnojgkiaolmoeaaDoorW.PrintLast Go.Proofs.YtnojgkiaolmoeaaDoorW.PrintMore
attribute [local go_sem] max2_int min2_int max_two min_two max_three min_three max_four min_four   -- for this text's walks alone
set_option linter.unusedVariables false
set_option linter.unusedSimpArgs false

/-! ### conf_site: function 48, by hand -/
def backOk (b : S65) : Bool := decide (0 ≤ b.f0 ∧ b.f0 ≤ 16)
def siteOk (x : S63) : Bool := x.f3.all backOk && decide (0 ≤ x.f0 ∧ x.f0 ≤ 16) && decide (0 ≤ x.f2 ∧ x.f2 ≤ 8) && decide (x.f3.length ≤ 4)
theorem conf_to.plain (x m : Int) : conf_to.f x m = some (decide (0 ≤ x ∧ x ≤ m)) := by
 unfold conf_to.f
 by_cases h : x ≥ 0
 ·rw [if_pos h]; congr 1; simp; omega
 ·rw [if_neg h]; congr 1; simp; omega
theorem conf_to.at (x m : Int) (b : Bool) (hb : decide (0 ≤ x ∧ x ≤ m) = b) (w : World) : Calls Tryd.prog 57 #[.int .i64 x, .int .i64 m] w fun e w' => e = .returned (.bool b) ∧ Drawn0 w w' :=
 conf_to.calls x m b w (by rw [conf_to.plain, hb])
theorem all_snoc {α : Type} (p : α → Bool) (l : List α) (i : Nat) (h : i < l.length) : (l.take (i + 1)).all p = ((l.take i).all p && p l[i]) := by
 rw [List.take_succ_eq_append_getElem h, List.all_append]; simp
theorem ret_bool {a b : Bool} (h : a = b) : Ending.returned (.bool a) = .returned (.bool b) := by rw [h]
set_option maxHeartbeats 4000000 in
set_option maxRecDepth 100000 in
theorem conf_site.at (x : S63) (p : Addr) (A3 : Option Addr) (c3 : Nat) (w : World) (h0 : w.cell? p = some (.int .i64 x.f0)) (h2 : w.cell? ⟨p.block, p.off + 2, none⟩ = some (.int .i64 x.f2)) (h3 : w.cell? ⟨p.block, p.off + 3, none⟩ = some (.slice A3 x.f3.length c3))
    (g3 : Kd.C k65 w A3 x.f3.length x.f3) :
    Calls Tryd.prog 48 #[.pointer (some p)] w fun e w' => e = .returned (.bool (siteOk x)) ∧ Below w.heap.size w w' := by
  have hl := g3.2.1
  have G3 := Aside0.mk g3
  clear g3
  have hu := Tryd.underlying65
  go_enter Tryd.func48, Tryd.ntmps48
  go_wp2_with fail
  go_loopw [10] (fun v wr => ∃ i : Nat, v = .int .i64 i ∧ i ≤ x.f3.length ∧ Aside0 ((x.f3.take i).all backOk = true) ∧ Below w.heap.size w wr) (fun v _ => x.f3.length - (intOf v).toNat)
  case atStart => exact ⟨0, rfl, Nat.zero_le _, ⟨rfl⟩, Below.refl _ _⟩
  case round =>
    obtain ⟨i, rfl, hi, HA, HB⟩ := hrel
    by_cases hlt : i < x.f3.length
    · obtain ⟨ad, e, hx0, hx1⟩ := at_T65 G3.out (i : Int) (by omega) (by omega)
      subst e
      rw [Int.toNat_natCast] at hx0 hx1
      replace hx0 := pw_cell_below HB hx0
      replace hx1 := pw_cell_below HB hx1
      have er : rd_T65 x.f3 (i : Int) = x.f3[i] := by simp [rd_T65, hlt]
      have HE := Aside0.mk er
      clear er
      cases hbk : backOk (rd_T65 x.f3 i)
      · have HK := Aside0.mk hbk
        go_wp2_with (go_at_call 57; refine (conf_to.at _ _ false HK.out _).mono ?_; rintro e w' ⟨rfl, ⟨nd, rfl⟩⟩)
        go_ret
        refine ⟨ret_bool ?_, by repeat (first | exact HB | refine Below.alloc ?_ (by have := HB.size; simp; omega) _ | refine pw_below_drewN ?_ _ | refine Below.setCell ?_ (by have := HB.size; simp; omega) _ | refine below_drew ?_)⟩
        have h1 := HK.out
        rw [HE.out] at h1
        have hx : x.f3.all backOk = false := by
          rw [List.all_eq_false]
          exact ⟨x.f3[i], List.getElem_mem hlt, by rw [h1]; decide⟩
        simp [siteOk, hx]
      · have HK := Aside0.mk hbk
        go_wp2_with (go_at_call 57; refine (conf_to.at _ _ true HK.out _).mono ?_; rintro e w' ⟨rfl, ⟨nd, rfl⟩⟩)
        go_roundw
        case rel =>
          refine ⟨i + 1, by go_num, by omega, ⟨?_⟩, by repeat (first | exact HB | refine Below.alloc ?_ (by have := HB.size; simp; omega) _ | refine pw_below_drewN ?_ _ | refine Below.setCell ?_ (by have := HB.size; simp; omega) _ | refine below_drew ?_)⟩
          have h1 := HK.out
          rw [HE.out] at h1
          rw [all_snoc backOk x.f3 i hlt, HA.out, h1]; rfl
        case measure => simp [intOf]; omega
    · have hi2 : i = x.f3.length := by omega
      have HA2 : x.f3.all backOk = true := by have := HA.out; rw [hi2, List.take_length] at this; exact this
      clear HA hi2
      replace h0 := pw_cell_below HB h0
      replace h2 := pw_cell_below HB h2
      replace h3 := pw_cell_below HB h3
      have HA3 := Aside0.mk HA2
      clear HA2
      have fin : ∀ (W : World), Below w.heap.size w W → ∀ bv : Bool, (decide (0 ≤ x.f0 ∧ x.f0 ≤ 16) && decide (0 ≤ x.f2 ∧ x.f2 ≤ 8) && decide (x.f3.length ≤ 4)) = bv → Ending.returned (.bool bv) = .returned (.bool (siteOk x)) ∧ Below w.heap.size w W := by
        intro W hW bv hbv
        refine ⟨ret_bool ?_, hW⟩
        rw [← hbv]
        unfold siteOk
        rw [HA3.out, Bool.true_and]
      have FIN := Aside0.mk fin
      clear fin
      cases hw : decide (0 ≤ x.f0 ∧ x.f0 ≤ 16)
      · have HW := Aside0.mk hw
        clear hw
        go_wp2_with (go_at_call 57; refine (conf_to.at _ _ false HW.out _).mono ?_; rintro e w' ⟨rfl, ⟨nd, rfl⟩⟩)
        go_ret
        exact FIN.out _ (by repeat (first | exact HB | refine pw_below_drewN ?_ _)) _ (by rw [HW.out]; rfl)
      · have HW := Aside0.mk hw
        clear hw
        cases hc : decide (0 ≤ x.f2 ∧ x.f2 ≤ 8)
        · have HC := Aside0.mk hc
          clear hc
          go_wp2_with (first
            | (go_at_call 57; (with_reducible refine (conf_to.at x.f0 16 true HW.out _).mono ?_); rintro e w' ⟨rfl, ⟨nd, rfl⟩⟩)
            | (go_at_call 57; (with_reducible refine (conf_to.at x.f2 8 false HC.out _).mono ?_); rintro e w' ⟨rfl, ⟨nd, rfl⟩⟩))
          go_ret
          exact FIN.out _ (by repeat (first | exact HB | refine pw_below_drewN ?_ _)) _ (by rw [HW.out, HC.out]; rfl)
        · have HC := Aside0.mk hc
          clear hc
          go_wp2_with (first
            | (go_at_call 57; (with_reducible refine (conf_to.at x.f0 16 true HW.out _).mono ?_); rintro e w' ⟨rfl, ⟨nd, rfl⟩⟩)
            | (go_at_call 57; (with_reducible refine (conf_to.at x.f2 8 true HC.out _).mono ?_); rintro e w' ⟨rfl, ⟨nd, rfl⟩⟩))
          go_ret
          exact FIN.out _ (by repeat (first | exact HB | refine pw_below_drewN ?_ _)) _ (by rw [HW.out, HC.out, Bool.true_and, Bool.true_and]; first | rfl | exact decide_eq_decide.2 (by omega))


/-! ### conf_Time: function 49 -/
def conf_Time.f (a0 : Int) : Option (Bool) := (conf_to.f a0 1048576).bind fun t126 => (some t126)
set_option maxHeartbeats 8000000 in
set_option maxRecDepth 100000 in
theorem conf_Time.calls (a0 : Int) (r : Bool) (w : World) (h : conf_Time.f a0 = some r) :
  Calls Tryd.prog 49 #[.int .i64 a0] w fun e w' => e = .returned (.bool r) ∧ Drawn0 w w' := by
 have H : ((conf_to.f a0 1048576).bind fun t126 => (some t126)) = some r := h
 clear h
 replace H := Option.bind_eq_some_iff.mp H
 obtain ⟨t126, A20, H⟩ := H
 replace H : (some t126) = some r := H
 have A2 := Aside0.mk A20
 clear A20
 obtain rfl := Option.some.inj H
 go_enter Tryd.func49, Tryd.ntmps49
 go_wp2_with (first | ((with_reducible refine gate_callee (f := 57) rfl ?_); refine goesL_ (some 4) rfl rfl Tryd.func57 (by kernel_rfl) rfl #[.int .i64 a0, .int .i64 1048576] rfl (by (try simp only [List.map_toArray, List.map_cons, List.map_nil]); first | done | rfl | (simp only [List.length_drop, List.length_take]; rfl)) ?_; (with_reducible refine (conf_to.calls a0 1048576 t126 _ A2.out).mono ?_); rintro e w' ⟨rfl, ⟨nd, rfl⟩⟩; refine ⟨_, rfl, ?_⟩))
 go_ret
 exact ⟨by first | rfl | (simp; done) | (simp [*]; done), by repeat (first | exact Drawn0.refl _ | apply Drawn0.step)⟩

end Go.Proofs.YtnojgkiaolmoeaaDoor.PSc
end
section
/- Contracts: what calls of these functions of the program do, each as a plain function; written by a program of this session. -/
namespace Go.Proofs.YtnojgkiaolmoeaaDoor.PSc
open Go.RowKit Go.Proofs.YtnojgkiaolmoeaaDoorW.PrintWords Go.Proofs.YtnojgkiaolmoeaaDoorW.PrintLast Go.Proofs.YtnojgkiaolmoeaaDoorW.PrintMore
attribute [local go_sem] max2_int min2_int max_two min_two max_three min_three max_four min_four   -- for this text's walks alone
set_option linter.unusedVariables false
set_option linter.unusedSimpArgs false

/-! ### conf_May: function 32, by hand -/
def conf_May.f (a0_0 : Int) (l0_1 : List S63) : Option Bool := some (l0_1.all siteOk && decide (0 ≤ a0_0 ∧ a0_0 ≤ 1048576) && decide (l0_1.length ≤ 3))
theorem conf_Time.at (x : Int) (b : Bool) (hb : decide (0 ≤ x ∧ x ≤ 1048576) = b) (w : World) : Calls Tryd.prog 49 #[.int .i64 x] w fun e w' => e = .returned (.bool b) ∧ Drawn0 w w' :=
 conf_Time.calls x b w (by unfold conf_Time.f; rw [conf_to.plain, hb]; rfl)
set_option maxHeartbeats 4000000 in
set_option maxRecDepth 100000 in
theorem conf_May.calls (a0_0 : Int) (A0_1 : Option Addr) (c0_1 : Nat) (l0_1 : List S63) (r : Bool) (w : World) (hr0_1 : Kd.C k63 w A0_1 l0_1.length l0_1) (hc0_1 : l0_1.length ≤ c0_1) (h : conf_May.f a0_0 l0_1 = some r) :
  Calls Tryd.prog 32 #[.agg #[.int .i64 a0_0, .slice A0_1 l0_1.length c0_1]] w fun e w' => e = .returned (.bool r) ∧ Below w.heap.size w w' := by
 have H := Aside0.mk (Option.some.inj h)
 have hl := hr0_1.2.1
 have G := Aside0.mk hr0_1
 clear h hr0_1 hc0_1
 go_enter Tryd.func32, Tryd.ntmps32
 go_wp2_with fail
 go_loopw [3, 7] (fun _ v wr => ∃ i : Nat, v = .int .i64 i ∧ i ≤ l0_1.length ∧ Aside0 ((l0_1.take i).all siteOk = true) ∧ Below (w.heap.size + 1) (w.alloc (.cells #[.int .i64 a0_0, .slice A0_1 l0_1.length c0_1] 38)) wr) (fun _ v _ => l0_1.length - (intOf v).toNat)
 case atStart => exact ⟨0, rfl, Nat.zero_le _, ⟨rfl⟩, Below.refl _ _⟩
 case round =>
  obtain ⟨i, rfl, hi, HA, HB⟩ := hrel
  have hbw : Below w.heap.size w wr := ((Below.refl w.heap.size w).alloc (Nat.le_refl _) _).trans (HB.mono (by omega))
  have c0 : wr.cell? ⟨w.heap.size, 0, none⟩ = some (.int .i64 a0_0) := (HB.cell (p := ⟨w.heap.size, 0, none⟩) (by simp)).trans (by simp)
  have c1 : wr.cell? ⟨w.heap.size, 1, none⟩ = some (.slice A0_1 l0_1.length c0_1) := (HB.cell (p := ⟨w.heap.size, 1, none⟩) (by simp)).trans (by simp)
  by_cases hlt : i < l0_1.length
  ·obtain ⟨ad, A3, c3, e, hx0, hx1, hx2, hx3, l3, g3⟩ := at_T63 G.out (i : Int) (by omega) (by omega)
   subst e
   rw [Int.toNat_natCast] at hx0 hx1 hx2 hx3
   replace hx0 := pw_cell_below hbw hx0
   replace hx2 := pw_cell_below hbw hx2
   replace hx3 := pw_cell_below hbw hx3
   have g3' := Kd.C_below g3 hbw
   have er : rd_T63 l0_1 (i : Int) = l0_1[i] := by simp [rd_T63, hlt]
   have HS := Aside0.mk (conf_site.at (rd_T63 l0_1 (i : Int)) (ad.add (i * 4)) A3 c3)
   have HX := Aside0.mk (And.intro hx0 (And.intro hx2 (And.intro hx3 g3')))
   have HE := Aside0.mk er
   have HBW := Aside0.mk hbw
   clear er g3 g3' hx1 l3 hx0 hx2 hx3 hbw
   have hs2 : w.heap.size + 1 ≤ wr.heap.size := by have := HB.size; simpa using this
   cases hbk : siteOk (rd_T63 l0_1 i)
   ·have HK := Aside0.mk hbk
    clear hbk
    go_wp2_with (go_at_call 48; refine (HS.out _ HX.out.1 HX.out.2.1 HX.out.2.2.1 HX.out.2.2.2).mono ?_; rintro e w1 ⟨rfl, hb1⟩; rw [HK.out])
    go_ret
    have h1 := HK.out
    rw [HE.out] at h1
    have hx : l0_1.all siteOk = false := by
     rw [List.all_eq_false]
     exact ⟨l0_1[i], List.getElem_mem hlt, by rw [h1]; decide⟩
    refine ⟨ret_bool ?_, HBW.out.trans (hb1.mono (by omega))⟩
    rw [← H.out, hx]; rfl
   ·have HK := Aside0.mk hbk
    clear hbk
    go_wp2_with (go_at_call 48; refine (HS.out _ HX.out.1 HX.out.2.1 HX.out.2.2.1 HX.out.2.2.2).mono ?_; rintro e w1 ⟨rfl, hb1⟩; rw [HK.out])
    go_roundw
    case rel =>
     refine ⟨i + 1, by go_num, by omega, ⟨?_⟩, HB.trans (hb1.mono hs2)⟩
     have h1 := HK.out
     rw [HE.out] at h1
     rw [all_snoc siteOk l0_1 i hlt, HA.out, h1]; rfl
    case measure => simp [intOf]; omega
  ·have hi2 : i = l0_1.length := by omega
   have HA2 : l0_1.all siteOk = true := by have := HA.out; rw [hi2, List.take_length] at this; exact this
   clear HA hi2
   have HA3 := Aside0.mk HA2
   have HBW := Aside0.mk hbw
   clear HA2 hbw
   cases hw : decide (0 ≤ a0_0 ∧ a0_0 ≤ 1048576)
   ·have HW := Aside0.mk hw
    clear hw
    go_wp2_with (go_at_call 49; refine (conf_Time.at a0_0 false HW.out _).mono ?_; rintro e w' ⟨rfl, ⟨nd, rfl⟩⟩)
    go_ret
    exact ⟨ret_bool (by rw [← H.out, HA3.out, HW.out]; rfl), pw_below_drewN HBW.out _⟩
   ·have HW := Aside0.mk hw
    clear hw
    go_wp2_with (go_at_call 49; refine (conf_Time.at a0_0 true HW.out _).mono ?_; rintro e w' ⟨rfl, ⟨nd, rfl⟩⟩)
    go_ret
    refine ⟨ret_bool ?_, pw_below_drewN HBW.out _⟩
    rw [← H.out, HA3.out, HW.out, Bool.true_and, Bool.true_and]
    first | rfl | exact decide_eq_decide.2 (by omega)


end Go.Proofs.YtnojgkiaolmoeaaDoor.PSc
end
