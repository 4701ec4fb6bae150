/- Several texts of this proof in one file (put together by a program of this session). -/
import Derived.Test.YtnojgkiaolmoeaaDoorPScx0
import Derived.Test.YtnojgkiaolmoeaaDoorPScx7
import Derived.Test.YtnojgkiaolmoeaaDoorPenA
import Derived.Test.YtnojgkiaolmoeaaDoorTakeA
section
/- Contracts: what calls of these functions of the program do, each as a plain function; written by a program of this session. -/
namespace Go.Proofs.YtnojgkiaolmoeaaDoor.PSc
open Go.RowKit Go.Proofs.YtnojgkiaolmoeaaDoorW.PrintWords Go.Proofs.YtnojgkiaolmoeaaDoorW.PrintLast Go.Proofs.YtnojgkiaolmoeaaDoorW.PrintMore
attribute [local go_sem] max2_int min2_int max_two min_two max_three min_three max_four min_four   -- for this text's walks alone
set_option linter.unusedVariables false
set_option linter.unusedSimpArgs false

/-! ### script_May: function 14 -/
mutual
def script_May.j0 : Nat → Bool → Bool → Int → Int → Int → Int → Int → Int → Bool → ByteArray → Int → List (S63) → Option (Bool)
 | 0, _, _, _, _, _, _, _, _, _, _, _, _ => none
 | k + 1, x4, x5, x128000, x128001, x128002, x128003, x128004, x128005, x128006, x128007, x128008, x128009 => if x128001 ≥ 0 then (script_May.j1 k x4 x5 (decide (x128001 ≤ 2)) x128000 x128001 x128002 x128003 x128004 x128005 x128006 x128007 x128008 x128009) else (script_May.j1 k x4 x5 false x128000 x128001 x128002 x128003 x128004 x128005 x128006 x128007 x128008 x128009)
def script_May.j1 : Nat → Bool → Bool → Bool → Int → Int → Int → Int → Int → Int → Bool → ByteArray → Int → List (S63) → Option (Bool)
 | 0, _, _, _, _, _, _, _, _, _, _, _, _, _ => none
 | k + 1, x4, x5, x6, x128000, x128001, x128002, x128003, x128004, x128005, x128006, x128007, x128008, x128009 => (ip_In.f x128002 8).bind fun t142 => (if t142 = true then ((ip_In.f x128003 8).bind fun t143 => (if t143 = true then ((ip_In.f x128004 8).bind fun t144 => (if t144 = true then (if x128005 ≥ 0 then (if x4 = true then (if x5 = true then (if x6 = true then (if x128005 < 32 then (if (x128007.size : Int) ≤ 512 then ((conf_May.f x128008 x128009).bind fun t145 => (some t145)) else (some false)) else (some false)) else (some false)) else (some false)) else (some false)) else (if x4 = true then (if x5 = true then (if x6 = true then (some false) else (some false)) else (some false)) else (some false))) else (if x4 = true then (if x5 = true then (if x6 = true then (some false) else (some false)) else (some false)) else (some false)))) else (if x4 = true then (if x5 = true then (if x6 = true then (some false) else (some false)) else (some false)) else (some false)))) else (if x4 = true then (if x5 = true then (if x6 = true then (some false) else (some false)) else (some false)) else (some false)))
end
def script_May.f (k : Nat) (a0_0 : Int) (a0_1 : Int) (a0_2 : Int) (a0_3 : Int) (a0_4 : Int) (a0_5 : Int) (a0_6 : Bool) (a0_7 : ByteArray) (a0_8 : Int) (l0_9 : List (S63)) : Option (Bool) := (script_named.f k a0_0 a0_1 a0_2 a0_3 a0_4 a0_5 a0_6 a0_7 a0_8 l0_9).bind fun bt128 => (if (Go.bits .or .i64 (Go.bits .or .i64 (Go.bits .or .i64 (Go.bits .or .i64 bt128.2.1 bt128.2.2.1) bt128.2.2.2.1) bt128.2.2.2.2.1) bt128.2.2.2.2.2.1) = 0 then (if bt128.2.2.2.2.2.2.1 = true then (script_May.j0 k bt128.2.2.2.2.2.2.2.2.2.2 false a0_0 a0_1 a0_2 a0_3 a0_4 a0_5 a0_6 a0_7 a0_8 l0_9) else (if bt128.2.2.2.2.2.2.2.1.toList = ([] : List UInt8) then (if bt128.2.2.2.2.2.2.2.2.1 = 0 then (script_May.j0 k bt128.2.2.2.2.2.2.2.2.2.2 ((bt128.2.2.2.2.2.2.2.2.2.1.length : Int) == 0) a0_0 a0_1 a0_2 a0_3 a0_4 a0_5 a0_6 a0_7 a0_8 l0_9) else (script_May.j0 k bt128.2.2.2.2.2.2.2.2.2.2 false a0_0 a0_1 a0_2 a0_3 a0_4 a0_5 a0_6 a0_7 a0_8 l0_9)) else (script_May.j0 k bt128.2.2.2.2.2.2.2.2.2.2 false a0_0 a0_1 a0_2 a0_3 a0_4 a0_5 a0_6 a0_7 a0_8 l0_9))) else (script_May.j0 k bt128.2.2.2.2.2.2.2.2.2.2 false a0_0 a0_1 a0_2 a0_3 a0_4 a0_5 a0_6 a0_7 a0_8 l0_9))
theorem script_May.mono_l : ∀ k, (∀ y0 y1 y2 y3 y4 y5 y6 y7 y8 y9 y10 y11, LeO (script_May.j0 k y0 y1 y2 y3 y4 y5 y6 y7 y8 y9 y10 y11) (script_May.j0 (k + 1) y0 y1 y2 y3 y4 y5 y6 y7 y8 y9 y10 y11)) ∧ (∀ y0 y1 y2 y3 y4 y5 y6 y7 y8 y9 y10 y11 y12, LeO (script_May.j1 k y0 y1 y2 y3 y4 y5 y6 y7 y8 y9 y10 y11 y12) (script_May.j1 (k + 1) y0 y1 y2 y3 y4 y5 y6 y7 y8 y9 y10 y11 y12))
 | 0 => ⟨fun _ _ _ _ _ _ _ _ _ _ _ _ r h => by simp [script_May.j0] at h, fun _ _ _ _ _ _ _ _ _ _ _ _ _ r h => by simp [script_May.j1] at h⟩
 | k + 1 => by
  obtain ⟨ih0, ih1⟩ := script_May.mono_l k
  refine ⟨?_, ?_⟩
  ·intro y0 y1 y2 y3 y4 y5 y6 y7 y8 y9 y10 y11
   unfold script_May.j0
   repeat' first
   | (with_reducible exact ih0 _ _ _ _ _ _ _ _ _ _ _ _)
   | (with_reducible exact ih1 _ _ _ _ _ _ _ _ _ _ _ _ _)
   | (with_reducible exact script_named.mono _ _ _ _ _ _ _ _ _ _ _)
   | (with_reducible exact LeO.refl _)
   | (with_reducible exact LeO.none _)
   | (with_reducible refine LeO.ite ?_ ?_)
   | (with_reducible refine LeO.bind ?_ (fun _ => ?_))
   | exact ih0 _ _ _ _ _ _ _ _ _ _ _ _
   | exact ih1 _ _ _ _ _ _ _ _ _ _ _ _ _
   | exact script_named.mono _ _ _ _ _ _ _ _ _ _ _
   | exact LeO.none _
   | refine LeO.ite ?_ ?_
   | refine LeO.bind ?_ (fun _ => ?_)
  ·intro y0 y1 y2 y3 y4 y5 y6 y7 y8 y9 y10 y11 y12
   unfold script_May.j1
   repeat' first
   | (with_reducible exact ih0 _ _ _ _ _ _ _ _ _ _ _ _)
   | (with_reducible exact ih1 _ _ _ _ _ _ _ _ _ _ _ _ _)
   | (with_reducible exact script_named.mono _ _ _ _ _ _ _ _ _ _ _)
   | (with_reducible exact LeO.refl _)
   | (with_reducible exact LeO.none _)
   | (with_reducible refine LeO.ite ?_ ?_)
   | (with_reducible refine LeO.bind ?_ (fun _ => ?_))
   | exact ih0 _ _ _ _ _ _ _ _ _ _ _ _
   | exact ih1 _ _ _ _ _ _ _ _ _ _ _ _ _
   | exact script_named.mono _ _ _ _ _ _ _ _ _ _ _
   | exact LeO.none _
   | refine LeO.ite ?_ ?_
   | refine LeO.bind ?_ (fun _ => ?_)
theorem script_May.mono : ∀ a0 a1 a2 a3 a4 a5 a6 a7 a8 a9 k, LeO (script_May.f k a0 a1 a2 a3 a4 a5 a6 a7 a8 a9) (script_May.f (k + 1) a0 a1 a2 a3 a4 a5 a6 a7 a8 a9) := by
 intro a0 a1 a2 a3 a4 a5 a6 a7 a8 a9 k
 obtain ⟨ih0, ih1⟩ := script_May.mono_l k
 unfold script_May.f
 repeat' first
   | (with_reducible exact ih0 _ _ _ _ _ _ _ _ _ _ _ _)
   | (with_reducible exact ih1 _ _ _ _ _ _ _ _ _ _ _ _ _)
   | (with_reducible exact script_named.mono _ _ _ _ _ _ _ _ _ _ _)
   | (with_reducible exact LeO.refl _)
   | (with_reducible exact LeO.none _)
   | (with_reducible refine LeO.ite ?_ ?_)
   | (with_reducible refine LeO.bind ?_ (fun _ => ?_))
   | exact ih0 _ _ _ _ _ _ _ _ _ _ _ _
   | exact ih1 _ _ _ _ _ _ _ _ _ _ _ _ _
   | exact script_named.mono _ _ _ _ _ _ _ _ _ _ _
   | exact LeO.none _
   | refine LeO.ite ?_ ?_
   | refine LeO.bind ?_ (fun _ => ?_)
set_option maxHeartbeats 8000000 in
set_option maxRecDepth 100000 in
theorem script_May.calls (k : Nat) (a0_0 : Int) (a0_1 : Int) (a0_2 : Int) (a0_3 : Int) (a0_4 : Int) (a0_5 : Int) (a0_6 : Bool) (a0_7 : ByteArray) (a0_8 : Int) (A0_9 : Option Addr) (c0_9 : Nat) (l0_9 : List (S63)) (r : Bool) (w : World) (hr0_9 : Kd.C k63 w A0_9 l0_9.length l0_9) (hc0_9 : l0_9.length ≤ c0_9) (h : script_May.f k a0_0 a0_1 a0_2 a0_3 a0_4 a0_5 a0_6 a0_7 a0_8 l0_9 = some r) :
  Calls Tryd.prog 14 #[.agg #[.int .i64 a0_0, .int .i64 a0_1, .int .i64 a0_2, .int .i64 a0_3, .int .i64 a0_4, .int .i64 a0_5, .bool a0_6, .string a0_7, .int .i64 a0_8, .slice A0_9 l0_9.length c0_9]] w fun e w' => e = .returned (.bool r) ∧ Below w.heap.size w w' := by
 have hu40 := Tryd.underlying40
 have hu38 := Tryd.underlying38
 have HR0_9 := Aside0.mk hr0_9
 have HC0_9 := Aside0.mk hc0_9
 clear hr0_9 hc0_9
 have HB := Aside0.mk (Below.refl w.heap.size w)
 have H : ((script_named.f k a0_0 a0_1 a0_2 a0_3 a0_4 a0_5 a0_6 a0_7 a0_8 l0_9).bind fun bt128 => (if (Go.bits .or .i64 (Go.bits .or .i64 (Go.bits .or .i64 (Go.bits .or .i64 bt128.2.1 bt128.2.2.1) bt128.2.2.2.1) bt128.2.2.2.2.1) bt128.2.2.2.2.2.1) = 0 then (if bt128.2.2.2.2.2.2.1 = true then (script_May.j0 k bt128.2.2.2.2.2.2.2.2.2.2 false a0_0 a0_1 a0_2 a0_3 a0_4 a0_5 a0_6 a0_7 a0_8 l0_9) else (if bt128.2.2.2.2.2.2.2.1.toList = ([] : List UInt8) then (if bt128.2.2.2.2.2.2.2.2.1 = 0 then (script_May.j0 k bt128.2.2.2.2.2.2.2.2.2.2 ((bt128.2.2.2.2.2.2.2.2.2.1.length : Int) == 0) a0_0 a0_1 a0_2 a0_3 a0_4 a0_5 a0_6 a0_7 a0_8 l0_9) else (script_May.j0 k bt128.2.2.2.2.2.2.2.2.2.2 false a0_0 a0_1 a0_2 a0_3 a0_4 a0_5 a0_6 a0_7 a0_8 l0_9)) else (script_May.j0 k bt128.2.2.2.2.2.2.2.2.2.2 false a0_0 a0_1 a0_2 a0_3 a0_4 a0_5 a0_6 a0_7 a0_8 l0_9))) else (script_May.j0 k bt128.2.2.2.2.2.2.2.2.2.2 false a0_0 a0_1 a0_2 a0_3 a0_4 a0_5 a0_6 a0_7 a0_8 l0_9))) = some r := h
 clear h
 replace H := Option.bind_eq_some_iff.mp H
 obtain ⟨⟨t128, t129, t130, t131, t132, t133, t134, t135, t136, t137, t140⟩, A20, H⟩ := H
 replace H : (if (Go.bits .or .i64 (Go.bits .or .i64 (Go.bits .or .i64 (Go.bits .or .i64 t129 t130) t131) t132) t133) = 0 then (if t134 = true then (script_May.j0 k t140 false a0_0 a0_1 a0_2 a0_3 a0_4 a0_5 a0_6 a0_7 a0_8 l0_9) else (if t135.toList = ([] : List UInt8) then (if t136 = 0 then (script_May.j0 k t140 ((t137.length : Int) == 0) a0_0 a0_1 a0_2 a0_3 a0_4 a0_5 a0_6 a0_7 a0_8 l0_9) else (script_May.j0 k t140 false a0_0 a0_1 a0_2 a0_3 a0_4 a0_5 a0_6 a0_7 a0_8 l0_9)) else (script_May.j0 k t140 false a0_0 a0_1 a0_2 a0_3 a0_4 a0_5 a0_6 a0_7 a0_8 l0_9))) else (script_May.j0 k t140 false a0_0 a0_1 a0_2 a0_3 a0_4 a0_5 a0_6 a0_7 a0_8 l0_9)) = some r := H
 have A2 := Aside0.mk A20
 clear A20
 have HC3 := Aside0.mk H
 clear H
 go_enter Tryd.func14, Tryd.ntmps14
 go_upto_region 2 with (first | ((with_reducible refine gate_dst (N := 1) rfl ?_); (try (refine gate_guard (by rfl) ?_; dsimp only)); refine box_event ?hg (N := 1) ?hd (cs := #[.int .i64 a0_0, .int .i64 a0_1, .int .i64 a0_2, .int .i64 a0_3, .int .i64 a0_4, .int .i64 a0_5, .bool a0_6, .string a0_7, .int .i64 a0_8, .slice A0_9 l0_9.length c0_9]) (t := 40) ?hr ?_; (case hd => rfl); (case hg => rfl); (case hr => first | (go_simp; done) | (go_simp; rfl)); intro g0 hg w4 hbox hb; have n0_ := Aside0.mk (below_step (by repeat (first | (with_reducible first | exact HB.out | apply below_alloc | apply pw_below_drewN | apply below_drew1) | exact HB.out)) hb); have n1_ := Aside0.mk (hbox); have n2_ := Aside0.mk ((by rw [hg]; exact (below_size (by repeat (first | (with_reducible first | exact HB.out | apply below_alloc | apply pw_below_drewN | apply below_drew1) | exact HB.out))) : w.heap.size ≤ g0)); have n3_ := Aside0.mk ((by rw [hg]; exact (below_size (by repeat (first | (with_reducible first | exact HB.out | apply below_alloc | apply pw_below_drewN | apply below_drew1) | exact HB.out))) : w.heap.size ≤ g0)); clear HB; have HB := n0_; have K0 := n1_; have G0 := n2_; have E0 := n3_; clear n0_ n1_ n2_ n3_; clear hb hbox hg; have hcz5_0 : w4.cell? ⟨g0, 0, none⟩ = some (.int .i64 a0_0) := (blk_cell K0.out 0).trans rfl; have hcz5_1 : w4.cell? ⟨g0, 1, none⟩ = some (.int .i64 a0_1) := (blk_cell K0.out 1).trans rfl; have hcz5_2 : w4.cell? ⟨g0, 2, none⟩ = some (.int .i64 a0_2) := (blk_cell K0.out 2).trans rfl; have hcz5_3 : w4.cell? ⟨g0, 3, none⟩ = some (.int .i64 a0_3) := (blk_cell K0.out 3).trans rfl; have hcz5_4 : w4.cell? ⟨g0, 4, none⟩ = some (.int .i64 a0_4) := (blk_cell K0.out 4).trans rfl; have hcz5_5 : w4.cell? ⟨g0, 5, none⟩ = some (.int .i64 a0_5) := (blk_cell K0.out 5).trans rfl; have hcz5_6 : w4.cell? ⟨g0, 6, none⟩ = some (.bool a0_6) := (blk_cell K0.out 6).trans rfl; have hcz5_7 : w4.cell? ⟨g0, 7, none⟩ = some (.string a0_7) := (blk_cell K0.out 7).trans rfl; have hcz5_8 : w4.cell? ⟨g0, 8, none⟩ = some (.int .i64 a0_8) := (blk_cell K0.out 8).trans rfl; have hcz5_9 : w4.cell? ⟨g0, 9, none⟩ = some (.slice A0_9 l0_9.length c0_9) := (blk_cell K0.out 9).trans rfl; have hfz5_0 := blk_frozen K0.out 0; have hfz5_1 := blk_frozen K0.out 1; have hfz5_2 := blk_frozen K0.out 2; have hfz5_3 := blk_frozen K0.out 3; have hfz5_4 := blk_frozen K0.out 4; have hfz5_5 := blk_frozen K0.out 5; have hfz5_6 := blk_frozen K0.out 6; have hfz5_7 := blk_frozen K0.out 7; have hfz5_8 := blk_frozen K0.out 8; have hfz5_9 := blk_frozen K0.out 9) | ((with_reducible refine gate_callee (f := 30) rfl ?_); refine goesL_ (some 10) rfl rfl Tryd.func30 (by kernel_rfl) rfl #[.agg #[.int .i64 a0_0, .int .i64 a0_1, .int .i64 a0_2, .int .i64 a0_3, .int .i64 a0_4, .int .i64 a0_5, .bool a0_6, .string a0_7, .int .i64 a0_8, .slice A0_9 l0_9.length c0_9]] rfl (by (try simp only [List.map_toArray, List.map_cons, List.map_nil]); first | done | rfl | (simp only [List.length_drop, List.length_take]; rfl)) ?_; (with_reducible refine (script_named.calls k a0_0 a0_1 a0_2 a0_3 a0_4 a0_5 a0_6 a0_7 a0_8 (fun k_ => k_ < w.heap.size) _ _ l0_9 t128 t129 t130 t131 t132 t133 t134 t135 t136 t137 t140 _ ?side1 A2.out).mono ?_); (case side1 => exact Kd.V_mk HC0_9.out (Kd.F_below (Kd.C_F k63_heap HR0_9.out) (by repeat (first | (with_reducible first | exact HB.out | apply below_alloc | apply pw_below_drewN | apply below_drew1 | refine below_set ?_ E0.out) | exact HB.out)))); rintro e w6 ⟨v138, rfl, ho0, hb⟩; refine ⟨_, rfl, ?_⟩; have n0_ := Aside0.mk (Kd.V_lower (Kd.V_mono (ok' := fun k_ => k_ ≠ g0) ho0 (fun k_ hk_ => Or.elim hk_ (fun hs_ => fun e_ => Nat.not_le.2 hs_ (by rw [e_]; exact G0.out)) (fun hn_ => (Kd.freshB (g := g0) (o := .cells #[.int .i64 a0_0, .int .i64 a0_1, .int .i64 a0_2, .int .i64 a0_3, .int .i64 a0_4, .int .i64 a0_5, .bool a0_6, .string a0_7, .int .i64 a0_8, .slice A0_9 l0_9.length c0_9] 40 (0, 0)) (by (with_reducible repeat (first | refine blk_drewN ?_ _ | refine blk_drew ?_ | refine blk_alloc ?_ _)); exact K0.out) k_ hn_)))) (below_size (by repeat (first | (with_reducible first | exact HB.out | apply below_alloc | apply pw_below_drewN | apply below_drew1 | refine below_set ?_ E0.out) | exact HB.out)))); have n1_ := Aside0.mk (blk_below (g := g0) (o := .cells #[.int .i64 a0_0, .int .i64 a0_1, .int .i64 a0_2, .int .i64 a0_3, .int .i64 a0_4, .int .i64 a0_5, .bool a0_6, .string a0_7, .int .i64 a0_8, .slice A0_9 l0_9.length c0_9] 40 (0, 0)) (by (with_reducible repeat (first | refine blk_drewN ?_ _ | refine blk_drew ?_ | refine blk_alloc ?_ _)); exact K0.out) hb); have n2_ := Aside0.mk (below_step (by repeat (first | (with_reducible first | exact HB.out | apply below_alloc | apply pw_below_drewN | apply below_drew1 | refine below_set ?_ E0.out) | exact HB.out)) hb); clear K0; clear HB; have O0 := n0_; have K0 := n1_; have HB := n2_; clear n0_ n1_ n2_; (try clear hb); (try clear hb2); (try clear hk); (try clear hi); (try clear ho0)) | ((with_reducible refine gate_dst (N := 3) rfl ?_); (try (refine gate_guard (by rfl) ?_; dsimp only)); refine box_event ?hg (N := 3) ?hd (cs := #[.int .i64 0, .int .i64 0, .int .i64 0, .int .i64 0, .int .i64 0, .int .i64 0, .bool false, .string (⟨#[]⟩ : ByteArray), .int .i64 0, .slice none 0 0]) (t := 40) ?hr ?_; (case hd => rfl); (case hg => rfl); (case hr => first | (go_simp; done) | (go_simp; rfl)); intro g1 hg w7 hbox hb; have n0_ := Aside0.mk (Kd.V_below (Kd.V_elderB (by (with_reducible repeat (first | apply Kd.V_alloc | apply Kd.V_drewN | apply Kd.V_drew)); exact O0.out) g1 (Nat.le_of_eq hg.symm)) hb); have n1_ := Aside0.mk (blk_below (g := g0) (o := .cells #[.int .i64 a0_0, .int .i64 a0_1, .int .i64 a0_2, .int .i64 a0_3, .int .i64 a0_4, .int .i64 a0_5, .bool a0_6, .string a0_7, .int .i64 a0_8, .slice A0_9 l0_9.length c0_9] 40 (0, 0)) (by (with_reducible repeat (first | refine blk_drewN ?_ _ | refine blk_drew ?_ | refine blk_alloc ?_ _)); exact K0.out) hb); have n2_ := Aside0.mk (below_step (by repeat (first | (with_reducible first | exact HB.out | apply below_alloc | apply pw_below_drewN | apply below_drew1 | refine below_set ?_ E0.out) | exact HB.out)) hb); have n3_ := Aside0.mk (hbox); have n4_ := Aside0.mk ((by rw [hg]; exact (below_size (by repeat (first | (with_reducible first | exact HB.out | apply below_alloc | apply pw_below_drewN | apply below_drew1 | refine below_set ?_ E0.out) | exact HB.out))) : w.heap.size ≤ g1)); have n5_ := Aside0.mk ((by rw [hg]; exact (below_size (by repeat (first | (with_reducible first | exact HB.out | apply below_alloc | apply pw_below_drewN | apply below_drew1 | refine below_set ?_ E0.out) | exact HB.out))) : w.heap.size ≤ g1)); have n6_ := Aside0.mk ((by rw [hg]; exact Nat.ne_of_lt (blk_lt (g := g0) (o := .cells #[.int .i64 a0_0, .int .i64 a0_1, .int .i64 a0_2, .int .i64 a0_3, .int .i64 a0_4, .int .i64 a0_5, .bool a0_6, .string a0_7, .int .i64 a0_8, .slice A0_9 l0_9.length c0_9] 40 (0, 0)) (by (with_reducible repeat (first | refine blk_drewN ?_ _ | refine blk_drew ?_ | refine blk_alloc ?_ _)); exact K0.out)) : g0 ≠ g1)); have n7_ := Aside0.mk ((by rw [hg]; exact Nat.ne_of_gt (blk_lt (g := g0) (o := .cells #[.int .i64 a0_0, .int .i64 a0_1, .int .i64 a0_2, .int .i64 a0_3, .int .i64 a0_4, .int .i64 a0_5, .bool a0_6, .string a0_7, .int .i64 a0_8, .slice A0_9 l0_9.length c0_9] 40 (0, 0)) (by (with_reducible repeat (first | refine blk_drewN ?_ _ | refine blk_drew ?_ | refine blk_alloc ?_ _)); exact K0.out)) : g1 ≠ g0)); clear O0; clear K0; clear HB; have O0 := n0_; have K0 := n1_; have HB := n2_; have K1 := n3_; have G1 := n4_; have E1 := n5_; have N0 := n6_; have N1 := n7_; clear n0_ n1_ n2_ n3_ n4_ n5_ n6_ n7_; clear hb hbox hg; have hnb8 := N1.out; have hnc8 := N0.out; have hcz9_0 : w7.cell? ⟨g1, 0, none⟩ = some (.int .i64 0) := (blk_cell K1.out 0).trans rfl; have hcz9_1 : w7.cell? ⟨g1, 1, none⟩ = some (.int .i64 0) := (blk_cell K1.out 1).trans rfl; have hcz9_2 : w7.cell? ⟨g1, 2, none⟩ = some (.int .i64 0) := (blk_cell K1.out 2).trans rfl; have hcz9_3 : w7.cell? ⟨g1, 3, none⟩ = some (.int .i64 0) := (blk_cell K1.out 3).trans rfl; have hcz9_4 : w7.cell? ⟨g1, 4, none⟩ = some (.int .i64 0) := (blk_cell K1.out 4).trans rfl; have hcz9_5 : w7.cell? ⟨g1, 5, none⟩ = some (.int .i64 0) := (blk_cell K1.out 5).trans rfl; have hcz9_6 : w7.cell? ⟨g1, 6, none⟩ = some (.bool false) := (blk_cell K1.out 6).trans rfl; have hcz9_7 : w7.cell? ⟨g1, 7, none⟩ = some (.string (⟨#[]⟩ : ByteArray)) := (blk_cell K1.out 7).trans rfl; have hcz9_8 : w7.cell? ⟨g1, 8, none⟩ = some (.int .i64 0) := (blk_cell K1.out 8).trans rfl; have hcz9_9 : w7.cell? ⟨g1, 9, none⟩ = some (.slice none 0 0) := (blk_cell K1.out 9).trans rfl; have hfz9_0 := blk_frozen K1.out 0; have hfz9_1 := blk_frozen K1.out 1; have hfz9_2 := blk_frozen K1.out 2; have hfz9_3 := blk_frozen K1.out 3; have hfz9_4 := blk_frozen K1.out 4; have hfz9_5 := blk_frozen K1.out 5; have hfz9_6 := blk_frozen K1.out 6; have hfz9_7 := blk_frozen K1.out 7; have hfz9_8 := blk_frozen K1.out 8; have hfz9_9 := blk_frozen K1.out 9; obtain ⟨Ao10, co10, eo10⟩ := Kd.V_slice O0.out; subst eo10))
 (try simp only [Act.put, List.setIfInBounds_toArray, List.set_cons_zero, List.set_cons_succ])
 go_cut [5] (fun v5 wc => ∃ (kq : Nat) (x5_2 : Bool), v5 = .bool x5_2 ∧ Aside0 (script_May.j0 kq t140 x5_2 a0_0 a0_1 a0_2 a0_3 a0_4 a0_5 a0_6 a0_7 a0_8 l0_9 = some r) ∧ Aside0 (kq ≤ k) ∧ Aside0 (Kd.V k63 63 wc w.heap.size (fun k_ => k_ ≠ g0 ∧ k_ ≠ g1) (.slice Ao10 t137.length co10) t137) ∧ Aside0 (wc.heap[g0]? = some (.cells #[.int .i64 a0_0, .int .i64 a0_1, .int .i64 a0_2, .int .i64 a0_3, .int .i64 a0_4, .int .i64 a0_5, .bool a0_6, .string a0_7, .int .i64 a0_8, (.slice A0_9 l0_9.length c0_9)] 40 (0, 0))) ∧ Aside0 (wc.heap[g1]? = some (.cells #[.int .i64 t128, .int .i64 t129, .int .i64 t130, .int .i64 t131, .int .i64 t132, .int .i64 t133, .bool t134, .string t135, .int .i64 t136, (.slice Ao10 t137.length co10)] 40 (0, 0))) ∧ Aside0 (Below w.heap.size w wc))
 case first =>
  have H := HC3.out
  clear HC3
  by_cases c11 : (Go.bits .or .i64 (Go.bits .or .i64 (Go.bits .or .i64 (Go.bits .or .i64 t129 t130) t131) t132) t133) = 0
  ·rw [if_pos c11] at H
   have c11b0 : ((Go.bits .or .i64 (Go.bits .or .i64 (Go.bits .or .i64 (Go.bits .or .i64 t129 t130) t131) t132) t133) == 0) = true := beq_iff_eq.mpr c11
   have c11b1 : ((Go.bits .or .i64 (Go.bits .or .i64 (Go.bits .or .i64 (Go.bits .or .i64 t129 t130) t131) t132) t133) != 0) = false := bne_eq_false_iff_eq.mpr c11
   clear c11
   (first | rw [c11b0] | (simp only [i64_w, i32_w]; rw [c11b0]) | skip)
   by_cases c12 : t134 = true
   ·subst c12
    have H1 : (script_May.j0 k t140 false a0_0 a0_1 a0_2 a0_3 a0_4 a0_5 a0_6 a0_7 a0_8 l0_9) = some r := by rw [if_pos rfl] at H; exact H
    clear H
    have H := H1
    clear H1
    have H' := Aside0.mk H
    clear H
    have hnb13 := N1.out
    have hnc13 := N0.out
    have hcz14_0 : w7.cell? ⟨g1, 0, none⟩ = some (.int .i64 0) := (blk_cell K1.out 0).trans rfl
    have hcz14_1 : w7.cell? ⟨g1, 1, none⟩ = some (.int .i64 0) := (blk_cell K1.out 1).trans rfl
    have hcz14_2 : w7.cell? ⟨g1, 2, none⟩ = some (.int .i64 0) := (blk_cell K1.out 2).trans rfl
    have hcz14_3 : w7.cell? ⟨g1, 3, none⟩ = some (.int .i64 0) := (blk_cell K1.out 3).trans rfl
    have hcz14_4 : w7.cell? ⟨g1, 4, none⟩ = some (.int .i64 0) := (blk_cell K1.out 4).trans rfl
    have hcz14_5 : w7.cell? ⟨g1, 5, none⟩ = some (.int .i64 0) := (blk_cell K1.out 5).trans rfl
    have hcz14_6 : w7.cell? ⟨g1, 6, none⟩ = some (.bool false) := (blk_cell K1.out 6).trans rfl
    have hcz14_7 : w7.cell? ⟨g1, 7, none⟩ = some (.string (⟨#[]⟩ : ByteArray)) := (blk_cell K1.out 7).trans rfl
    have hcz14_8 : w7.cell? ⟨g1, 8, none⟩ = some (.int .i64 0) := (blk_cell K1.out 8).trans rfl
    have hcz14_9 : w7.cell? ⟨g1, 9, none⟩ = some (.slice none 0 0) := (blk_cell K1.out 9).trans rfl
    have hfz14_0 := blk_frozen K1.out 0
    have hfz14_1 := blk_frozen K1.out 1
    have hfz14_2 := blk_frozen K1.out 2
    have hfz14_3 := blk_frozen K1.out 3
    have hfz14_4 := blk_frozen K1.out 4
    have hfz14_5 := blk_frozen K1.out 5
    have hfz14_6 := blk_frozen K1.out 6
    have hfz14_7 := blk_frozen K1.out 7
    have hfz14_8 := blk_frozen K1.out 8
    have hfz14_9 := blk_frozen K1.out 9
    go_wp2
    go_meet
    case rel => exact ⟨_, (false), (by first | rfl | (simp; done) | (simp [*]; done)), H', ⟨by first | omega | exact Nat.le_refl _⟩, ⟨by (with_reducible repeat (first | apply Kd.V_alloc | apply Kd.V_drewN | apply Kd.V_drew)); exact Kd.V_mono (Kd.V_far (p := ⟨g1, 9, none⟩) (Kd.V_far (p := ⟨g1, 8, none⟩) (Kd.V_far (p := ⟨g1, 7, none⟩) (Kd.V_far (p := ⟨g1, 6, none⟩) (Kd.V_far (p := ⟨g1, 5, none⟩) (Kd.V_far (p := ⟨g1, 4, none⟩) (Kd.V_far (p := ⟨g1, 3, none⟩) (Kd.V_far (p := ⟨g1, 2, none⟩) (Kd.V_far (p := ⟨g1, 1, none⟩) (Kd.V_far (p := ⟨g1, 0, none⟩) (Kd.V_mono O0.out (fun k_ hk => (⟨hk, hk.2⟩ : _ ∧ k_ ≠ g1))) (fun _ hk => hk.2) (.int .i64 t128)) (fun _ hk => hk.2) (.int .i64 t129)) (fun _ hk => hk.2) (.int .i64 t130)) (fun _ hk => hk.2) (.int .i64 t131)) (fun _ hk => hk.2) (.int .i64 t132)) (fun _ hk => hk.2) (.int .i64 t133)) (fun _ hk => hk.2) (.bool true)) (fun _ hk => hk.2) (.string t135)) (fun _ hk => hk.2) (.int .i64 t136)) (fun _ hk => hk.2) (.slice Ao10 t137.length co10)) (fun _ hk => ⟨hk.1.1, hk.1.2⟩)⟩, ⟨by (with_reducible repeat (first | refine blk_drewN ?_ _ | refine blk_drew ?_ | refine blk_alloc ?_ _)); refine blk_far ?_ N0.out _; (with_reducible repeat (first | refine blk_drewN ?_ _ | refine blk_drew ?_ | refine blk_alloc ?_ _)); refine blk_far ?_ N0.out _; (with_reducible repeat (first | refine blk_drewN ?_ _ | refine blk_drew ?_ | refine blk_alloc ?_ _)); refine blk_far ?_ N0.out _; (with_reducible repeat (first | refine blk_drewN ?_ _ | refine blk_drew ?_ | refine blk_alloc ?_ _)); refine blk_far ?_ N0.out _; (with_reducible repeat (first | refine blk_drewN ?_ _ | refine blk_drew ?_ | refine blk_alloc ?_ _)); refine blk_far ?_ N0.out _; (with_reducible repeat (first | refine blk_drewN ?_ _ | refine blk_drew ?_ | refine blk_alloc ?_ _)); refine blk_far ?_ N0.out _; (with_reducible repeat (first | refine blk_drewN ?_ _ | refine blk_drew ?_ | refine blk_alloc ?_ _)); refine blk_far ?_ N0.out _; (with_reducible repeat (first | refine blk_drewN ?_ _ | refine blk_drew ?_ | refine blk_alloc ?_ _)); refine blk_far ?_ N0.out _; (with_reducible repeat (first | refine blk_drewN ?_ _ | refine blk_drew ?_ | refine blk_alloc ?_ _)); refine blk_far ?_ N0.out _; (with_reducible repeat (first | refine blk_drewN ?_ _ | refine blk_drew ?_ | refine blk_alloc ?_ _)); refine blk_far ?_ N0.out _; (with_reducible repeat (first | refine blk_drewN ?_ _ | refine blk_drew ?_ | refine blk_alloc ?_ _)); exact K0.out⟩, ⟨by (with_reducible repeat (first | refine blk_drewN ?_ _ | refine blk_drew ?_ | refine blk_alloc ?_ _)); refine blk_put (cs := #[.int .i64 t128, .int .i64 t129, .int .i64 t130, .int .i64 t131, .int .i64 t132, .int .i64 t133, .bool true, .string t135, .int .i64 t136, .slice none 0 0]) ?_ 9 _ rfl; (with_reducible repeat (first | refine blk_drewN ?_ _ | refine blk_drew ?_ | refine blk_alloc ?_ _)); refine blk_put (cs := #[.int .i64 t128, .int .i64 t129, .int .i64 t130, .int .i64 t131, .int .i64 t132, .int .i64 t133, .bool true, .string t135, .int .i64 0, .slice none 0 0]) ?_ 8 _ rfl; (with_reducible repeat (first | refine blk_drewN ?_ _ | refine blk_drew ?_ | refine blk_alloc ?_ _)); refine blk_put (cs := #[.int .i64 t128, .int .i64 t129, .int .i64 t130, .int .i64 t131, .int .i64 t132, .int .i64 t133, .bool true, .string (⟨#[]⟩ : ByteArray), .int .i64 0, .slice none 0 0]) ?_ 7 _ rfl; (with_reducible repeat (first | refine blk_drewN ?_ _ | refine blk_drew ?_ | refine blk_alloc ?_ _)); refine blk_put (cs := #[.int .i64 t128, .int .i64 t129, .int .i64 t130, .int .i64 t131, .int .i64 t132, .int .i64 t133, .bool false, .string (⟨#[]⟩ : ByteArray), .int .i64 0, .slice none 0 0]) ?_ 6 _ rfl; (with_reducible repeat (first | refine blk_drewN ?_ _ | refine blk_drew ?_ | refine blk_alloc ?_ _)); refine blk_put (cs := #[.int .i64 t128, .int .i64 t129, .int .i64 t130, .int .i64 t131, .int .i64 t132, .int .i64 0, .bool false, .string (⟨#[]⟩ : ByteArray), .int .i64 0, .slice none 0 0]) ?_ 5 _ rfl; (with_reducible repeat (first | refine blk_drewN ?_ _ | refine blk_drew ?_ | refine blk_alloc ?_ _)); refine blk_put (cs := #[.int .i64 t128, .int .i64 t129, .int .i64 t130, .int .i64 t131, .int .i64 0, .int .i64 0, .bool false, .string (⟨#[]⟩ : ByteArray), .int .i64 0, .slice none 0 0]) ?_ 4 _ rfl; (with_reducible repeat (first | refine blk_drewN ?_ _ | refine blk_drew ?_ | refine blk_alloc ?_ _)); refine blk_put (cs := #[.int .i64 t128, .int .i64 t129, .int .i64 t130, .int .i64 0, .int .i64 0, .int .i64 0, .bool false, .string (⟨#[]⟩ : ByteArray), .int .i64 0, .slice none 0 0]) ?_ 3 _ rfl; (with_reducible repeat (first | refine blk_drewN ?_ _ | refine blk_drew ?_ | refine blk_alloc ?_ _)); refine blk_put (cs := #[.int .i64 t128, .int .i64 t129, .int .i64 0, .int .i64 0, .int .i64 0, .int .i64 0, .bool false, .string (⟨#[]⟩ : ByteArray), .int .i64 0, .slice none 0 0]) ?_ 2 _ rfl; (with_reducible repeat (first | refine blk_drewN ?_ _ | refine blk_drew ?_ | refine blk_alloc ?_ _)); refine blk_put (cs := #[.int .i64 t128, .int .i64 0, .int .i64 0, .int .i64 0, .int .i64 0, .int .i64 0, .bool false, .string (⟨#[]⟩ : ByteArray), .int .i64 0, .slice none 0 0]) ?_ 1 _ rfl; (with_reducible repeat (first | refine blk_drewN ?_ _ | refine blk_drew ?_ | refine blk_alloc ?_ _)); refine blk_put (cs := #[.int .i64 0, .int .i64 0, .int .i64 0, .int .i64 0, .int .i64 0, .int .i64 0, .bool false, .string (⟨#[]⟩ : ByteArray), .int .i64 0, .slice none 0 0]) ?_ 0 _ rfl; (with_reducible repeat (first | refine blk_drewN ?_ _ | refine blk_drew ?_ | refine blk_alloc ?_ _)); exact K1.out⟩, ⟨by repeat (first | (with_reducible first | exact HB.out | apply below_alloc | apply pw_below_drewN | apply below_drew1 | refine below_set ?_ E0.out | refine below_set ?_ E1.out) | exact HB.out)⟩⟩
   ·replace c12 := Bool.eq_false_iff.mpr c12
    subst c12
    have H1 : (if t135.toList = ([] : List UInt8) then (if t136 = 0 then (script_May.j0 k t140 ((t137.length : Int) == 0) a0_0 a0_1 a0_2 a0_3 a0_4 a0_5 a0_6 a0_7 a0_8 l0_9) else (script_May.j0 k t140 false a0_0 a0_1 a0_2 a0_3 a0_4 a0_5 a0_6 a0_7 a0_8 l0_9)) else (script_May.j0 k t140 false a0_0 a0_1 a0_2 a0_3 a0_4 a0_5 a0_6 a0_7 a0_8 l0_9)) = some r := by rw [if_neg (show ¬ (false = true) by decide)] at H; exact H
    clear H
    have H := H1
    clear H1
    by_cases c15 : t135.toList = ([] : List UInt8)
    ·rw [if_pos c15] at H
     have c15b0 : (t135.toList == ([] : List UInt8)) = true := beq_iff_eq.mpr c15
     have c15b1 : (t135.toList != ([] : List UInt8)) = false := bne_eq_false_iff_eq.mpr c15
     clear c15
     by_cases c16 : t136 = 0
     ·rw [if_pos c16] at H
      have c16b0 : (t136 == 0) = true := beq_iff_eq.mpr c16
      have c16b1 : (t136 != 0) = false := bne_eq_false_iff_eq.mpr c16
      clear c16
      have H' := Aside0.mk H
      clear H
      have hnb17 := N1.out
      have hnc17 := N0.out
      have hcz18_0 : w7.cell? ⟨g1, 0, none⟩ = some (.int .i64 0) := (blk_cell K1.out 0).trans rfl
      have hcz18_1 : w7.cell? ⟨g1, 1, none⟩ = some (.int .i64 0) := (blk_cell K1.out 1).trans rfl
      have hcz18_2 : w7.cell? ⟨g1, 2, none⟩ = some (.int .i64 0) := (blk_cell K1.out 2).trans rfl
      have hcz18_3 : w7.cell? ⟨g1, 3, none⟩ = some (.int .i64 0) := (blk_cell K1.out 3).trans rfl
      have hcz18_4 : w7.cell? ⟨g1, 4, none⟩ = some (.int .i64 0) := (blk_cell K1.out 4).trans rfl
      have hcz18_5 : w7.cell? ⟨g1, 5, none⟩ = some (.int .i64 0) := (blk_cell K1.out 5).trans rfl
      have hcz18_6 : w7.cell? ⟨g1, 6, none⟩ = some (.bool false) := (blk_cell K1.out 6).trans rfl
      have hcz18_7 : w7.cell? ⟨g1, 7, none⟩ = some (.string (⟨#[]⟩ : ByteArray)) := (blk_cell K1.out 7).trans rfl
      have hcz18_8 : w7.cell? ⟨g1, 8, none⟩ = some (.int .i64 0) := (blk_cell K1.out 8).trans rfl
      have hcz18_9 : w7.cell? ⟨g1, 9, none⟩ = some (.slice none 0 0) := (blk_cell K1.out 9).trans rfl
      have hfz18_0 := blk_frozen K1.out 0
      have hfz18_1 := blk_frozen K1.out 1
      have hfz18_2 := blk_frozen K1.out 2
      have hfz18_3 := blk_frozen K1.out 3
      have hfz18_4 := blk_frozen K1.out 4
      have hfz18_5 := blk_frozen K1.out 5
      have hfz18_6 := blk_frozen K1.out 6
      have hfz18_7 := blk_frozen K1.out 7
      have hfz18_8 := blk_frozen K1.out 8
      have hfz18_9 := blk_frozen K1.out 9
      go_wp2
      go_meet
      case rel => exact ⟨_, (((t137.length : Int) == 0)), (by first | rfl | (simp; done) | (simp [*]; done)), H', ⟨by first | omega | exact Nat.le_refl _⟩, ⟨by (with_reducible repeat (first | apply Kd.V_alloc | apply Kd.V_drewN | apply Kd.V_drew)); exact Kd.V_mono (Kd.V_far (p := ⟨g1, 9, none⟩) (Kd.V_far (p := ⟨g1, 8, none⟩) (Kd.V_far (p := ⟨g1, 7, none⟩) (Kd.V_far (p := ⟨g1, 6, none⟩) (Kd.V_far (p := ⟨g1, 5, none⟩) (Kd.V_far (p := ⟨g1, 4, none⟩) (Kd.V_far (p := ⟨g1, 3, none⟩) (Kd.V_far (p := ⟨g1, 2, none⟩) (Kd.V_far (p := ⟨g1, 1, none⟩) (Kd.V_far (p := ⟨g1, 0, none⟩) (Kd.V_mono O0.out (fun k_ hk => (⟨hk, hk.2⟩ : _ ∧ k_ ≠ g1))) (fun _ hk => hk.2) (.int .i64 t128)) (fun _ hk => hk.2) (.int .i64 t129)) (fun _ hk => hk.2) (.int .i64 t130)) (fun _ hk => hk.2) (.int .i64 t131)) (fun _ hk => hk.2) (.int .i64 t132)) (fun _ hk => hk.2) (.int .i64 t133)) (fun _ hk => hk.2) (.bool false)) (fun _ hk => hk.2) (.string t135)) (fun _ hk => hk.2) (.int .i64 t136)) (fun _ hk => hk.2) (.slice Ao10 t137.length co10)) (fun _ hk => ⟨hk.1.1, hk.1.2⟩)⟩, ⟨by (with_reducible repeat (first | refine blk_drewN ?_ _ | refine blk_drew ?_ | refine blk_alloc ?_ _)); refine blk_far ?_ N0.out _; (with_reducible repeat (first | refine blk_drewN ?_ _ | refine blk_drew ?_ | refine blk_alloc ?_ _)); refine blk_far ?_ N0.out _; (with_reducible repeat (first | refine blk_drewN ?_ _ | refine blk_drew ?_ | refine blk_alloc ?_ _)); refine blk_far ?_ N0.out _; (with_reducible repeat (first | refine blk_drewN ?_ _ | refine blk_drew ?_ | refine blk_alloc ?_ _)); refine blk_far ?_ N0.out _; (with_reducible repeat (first | refine blk_drewN ?_ _ | refine blk_drew ?_ | refine blk_alloc ?_ _)); refine blk_far ?_ N0.out _; (with_reducible repeat (first | refine blk_drewN ?_ _ | refine blk_drew ?_ | refine blk_alloc ?_ _)); refine blk_far ?_ N0.out _; (with_reducible repeat (first | refine blk_drewN ?_ _ | refine blk_drew ?_ | refine blk_alloc ?_ _)); refine blk_far ?_ N0.out _; (with_reducible repeat (first | refine blk_drewN ?_ _ | refine blk_drew ?_ | refine blk_alloc ?_ _)); refine blk_far ?_ N0.out _; (with_reducible repeat (first | refine blk_drewN ?_ _ | refine blk_drew ?_ | refine blk_alloc ?_ _)); refine blk_far ?_ N0.out _; (with_reducible repeat (first | refine blk_drewN ?_ _ | refine blk_drew ?_ | refine blk_alloc ?_ _)); refine blk_far ?_ N0.out _; (with_reducible repeat (first | refine blk_drewN ?_ _ | refine blk_drew ?_ | refine blk_alloc ?_ _)); exact K0.out⟩, ⟨by (with_reducible repeat (first | refine blk_drewN ?_ _ | refine blk_drew ?_ | refine blk_alloc ?_ _)); refine blk_put (cs := #[.int .i64 t128, .int .i64 t129, .int .i64 t130, .int .i64 t131, .int .i64 t132, .int .i64 t133, .bool false, .string t135, .int .i64 t136, .slice none 0 0]) ?_ 9 _ rfl; (with_reducible repeat (first | refine blk_drewN ?_ _ | refine blk_drew ?_ | refine blk_alloc ?_ _)); refine blk_put (cs := #[.int .i64 t128, .int .i64 t129, .int .i64 t130, .int .i64 t131, .int .i64 t132, .int .i64 t133, .bool false, .string t135, .int .i64 0, .slice none 0 0]) ?_ 8 _ rfl; (with_reducible repeat (first | refine blk_drewN ?_ _ | refine blk_drew ?_ | refine blk_alloc ?_ _)); refine blk_put (cs := #[.int .i64 t128, .int .i64 t129, .int .i64 t130, .int .i64 t131, .int .i64 t132, .int .i64 t133, .bool false, .string (⟨#[]⟩ : ByteArray), .int .i64 0, .slice none 0 0]) ?_ 7 _ rfl; (with_reducible repeat (first | refine blk_drewN ?_ _ | refine blk_drew ?_ | refine blk_alloc ?_ _)); refine blk_put (cs := #[.int .i64 t128, .int .i64 t129, .int .i64 t130, .int .i64 t131, .int .i64 t132, .int .i64 t133, .bool false, .string (⟨#[]⟩ : ByteArray), .int .i64 0, .slice none 0 0]) ?_ 6 _ rfl; (with_reducible repeat (first | refine blk_drewN ?_ _ | refine blk_drew ?_ | refine blk_alloc ?_ _)); refine blk_put (cs := #[.int .i64 t128, .int .i64 t129, .int .i64 t130, .int .i64 t131, .int .i64 t132, .int .i64 0, .bool false, .string (⟨#[]⟩ : ByteArray), .int .i64 0, .slice none 0 0]) ?_ 5 _ rfl; (with_reducible repeat (first | refine blk_drewN ?_ _ | refine blk_drew ?_ | refine blk_alloc ?_ _)); refine blk_put (cs := #[.int .i64 t128, .int .i64 t129, .int .i64 t130, .int .i64 t131, .int .i64 0, .int .i64 0, .bool false, .string (⟨#[]⟩ : ByteArray), .int .i64 0, .slice none 0 0]) ?_ 4 _ rfl; (with_reducible repeat (first | refine blk_drewN ?_ _ | refine blk_drew ?_ | refine blk_alloc ?_ _)); refine blk_put (cs := #[.int .i64 t128, .int .i64 t129, .int .i64 t130, .int .i64 0, .int .i64 0, .int .i64 0, .bool false, .string (⟨#[]⟩ : ByteArray), .int .i64 0, .slice none 0 0]) ?_ 3 _ rfl; (with_reducible repeat (first | refine blk_drewN ?_ _ | refine blk_drew ?_ | refine blk_alloc ?_ _)); refine blk_put (cs := #[.int .i64 t128, .int .i64 t129, .int .i64 0, .int .i64 0, .int .i64 0, .int .i64 0, .bool false, .string (⟨#[]⟩ : ByteArray), .int .i64 0, .slice none 0 0]) ?_ 2 _ rfl; (with_reducible repeat (first | refine blk_drewN ?_ _ | refine blk_drew ?_ | refine blk_alloc ?_ _)); refine blk_put (cs := #[.int .i64 t128, .int .i64 0, .int .i64 0, .int .i64 0, .int .i64 0, .int .i64 0, .bool false, .string (⟨#[]⟩ : ByteArray), .int .i64 0, .slice none 0 0]) ?_ 1 _ rfl; (with_reducible repeat (first | refine blk_drewN ?_ _ | refine blk_drew ?_ | refine blk_alloc ?_ _)); refine blk_put (cs := #[.int .i64 0, .int .i64 0, .int .i64 0, .int .i64 0, .int .i64 0, .int .i64 0, .bool false, .string (⟨#[]⟩ : ByteArray), .int .i64 0, .slice none 0 0]) ?_ 0 _ rfl; (with_reducible repeat (first | refine blk_drewN ?_ _ | refine blk_drew ?_ | refine blk_alloc ?_ _)); exact K1.out⟩, ⟨by repeat (first | (with_reducible first | exact HB.out | apply below_alloc | apply pw_below_drewN | apply below_drew1 | refine below_set ?_ E0.out | refine below_set ?_ E1.out) | exact HB.out)⟩⟩
     ·rw [if_neg c16] at H
      have c16b0 : (t136 == 0) = false := beq_eq_false_iff_ne.mpr c16
      have c16b1 : (t136 != 0) = true := bne_iff_ne.mpr c16
      have H' := Aside0.mk H
      clear H
      have hnb19 := N1.out
      have hnc19 := N0.out
      have hcz20_0 : w7.cell? ⟨g1, 0, none⟩ = some (.int .i64 0) := (blk_cell K1.out 0).trans rfl
      have hcz20_1 : w7.cell? ⟨g1, 1, none⟩ = some (.int .i64 0) := (blk_cell K1.out 1).trans rfl
      have hcz20_2 : w7.cell? ⟨g1, 2, none⟩ = some (.int .i64 0) := (blk_cell K1.out 2).trans rfl
      have hcz20_3 : w7.cell? ⟨g1, 3, none⟩ = some (.int .i64 0) := (blk_cell K1.out 3).trans rfl
      have hcz20_4 : w7.cell? ⟨g1, 4, none⟩ = some (.int .i64 0) := (blk_cell K1.out 4).trans rfl
      have hcz20_5 : w7.cell? ⟨g1, 5, none⟩ = some (.int .i64 0) := (blk_cell K1.out 5).trans rfl
      have hcz20_6 : w7.cell? ⟨g1, 6, none⟩ = some (.bool false) := (blk_cell K1.out 6).trans rfl
      have hcz20_7 : w7.cell? ⟨g1, 7, none⟩ = some (.string (⟨#[]⟩ : ByteArray)) := (blk_cell K1.out 7).trans rfl
      have hcz20_8 : w7.cell? ⟨g1, 8, none⟩ = some (.int .i64 0) := (blk_cell K1.out 8).trans rfl
      have hcz20_9 : w7.cell? ⟨g1, 9, none⟩ = some (.slice none 0 0) := (blk_cell K1.out 9).trans rfl
      have hfz20_0 := blk_frozen K1.out 0
      have hfz20_1 := blk_frozen K1.out 1
      have hfz20_2 := blk_frozen K1.out 2
      have hfz20_3 := blk_frozen K1.out 3
      have hfz20_4 := blk_frozen K1.out 4
      have hfz20_5 := blk_frozen K1.out 5
      have hfz20_6 := blk_frozen K1.out 6
      have hfz20_7 := blk_frozen K1.out 7
      have hfz20_8 := blk_frozen K1.out 8
      have hfz20_9 := blk_frozen K1.out 9
      go_wp2
      go_meet
      case rel => exact ⟨_, (false), (by first | rfl | (simp; done) | (simp [*]; done)), H', ⟨by first | omega | exact Nat.le_refl _⟩, ⟨by (with_reducible repeat (first | apply Kd.V_alloc | apply Kd.V_drewN | apply Kd.V_drew)); exact Kd.V_mono (Kd.V_far (p := ⟨g1, 9, none⟩) (Kd.V_far (p := ⟨g1, 8, none⟩) (Kd.V_far (p := ⟨g1, 7, none⟩) (Kd.V_far (p := ⟨g1, 6, none⟩) (Kd.V_far (p := ⟨g1, 5, none⟩) (Kd.V_far (p := ⟨g1, 4, none⟩) (Kd.V_far (p := ⟨g1, 3, none⟩) (Kd.V_far (p := ⟨g1, 2, none⟩) (Kd.V_far (p := ⟨g1, 1, none⟩) (Kd.V_far (p := ⟨g1, 0, none⟩) (Kd.V_mono O0.out (fun k_ hk => (⟨hk, hk.2⟩ : _ ∧ k_ ≠ g1))) (fun _ hk => hk.2) (.int .i64 t128)) (fun _ hk => hk.2) (.int .i64 t129)) (fun _ hk => hk.2) (.int .i64 t130)) (fun _ hk => hk.2) (.int .i64 t131)) (fun _ hk => hk.2) (.int .i64 t132)) (fun _ hk => hk.2) (.int .i64 t133)) (fun _ hk => hk.2) (.bool false)) (fun _ hk => hk.2) (.string t135)) (fun _ hk => hk.2) (.int .i64 t136)) (fun _ hk => hk.2) (.slice Ao10 t137.length co10)) (fun _ hk => ⟨hk.1.1, hk.1.2⟩)⟩, ⟨by (with_reducible repeat (first | refine blk_drewN ?_ _ | refine blk_drew ?_ | refine blk_alloc ?_ _)); refine blk_far ?_ N0.out _; (with_reducible repeat (first | refine blk_drewN ?_ _ | refine blk_drew ?_ | refine blk_alloc ?_ _)); refine blk_far ?_ N0.out _; (with_reducible repeat (first | refine blk_drewN ?_ _ | refine blk_drew ?_ | refine blk_alloc ?_ _)); refine blk_far ?_ N0.out _; (with_reducible repeat (first | refine blk_drewN ?_ _ | refine blk_drew ?_ | refine blk_alloc ?_ _)); refine blk_far ?_ N0.out _; (with_reducible repeat (first | refine blk_drewN ?_ _ | refine blk_drew ?_ | refine blk_alloc ?_ _)); refine blk_far ?_ N0.out _; (with_reducible repeat (first | refine blk_drewN ?_ _ | refine blk_drew ?_ | refine blk_alloc ?_ _)); refine blk_far ?_ N0.out _; (with_reducible repeat (first | refine blk_drewN ?_ _ | refine blk_drew ?_ | refine blk_alloc ?_ _)); refine blk_far ?_ N0.out _; (with_reducible repeat (first | refine blk_drewN ?_ _ | refine blk_drew ?_ | refine blk_alloc ?_ _)); refine blk_far ?_ N0.out _; (with_reducible repeat (first | refine blk_drewN ?_ _ | refine blk_drew ?_ | refine blk_alloc ?_ _)); refine blk_far ?_ N0.out _; (with_reducible repeat (first | refine blk_drewN ?_ _ | refine blk_drew ?_ | refine blk_alloc ?_ _)); refine blk_far ?_ N0.out _; (with_reducible repeat (first | refine blk_drewN ?_ _ | refine blk_drew ?_ | refine blk_alloc ?_ _)); exact K0.out⟩, ⟨by (with_reducible repeat (first | refine blk_drewN ?_ _ | refine blk_drew ?_ | refine blk_alloc ?_ _)); refine blk_put (cs := #[.int .i64 t128, .int .i64 t129, .int .i64 t130, .int .i64 t131, .int .i64 t132, .int .i64 t133, .bool false, .string t135, .int .i64 t136, .slice none 0 0]) ?_ 9 _ rfl; (with_reducible repeat (first | refine blk_drewN ?_ _ | refine blk_drew ?_ | refine blk_alloc ?_ _)); refine blk_put (cs := #[.int .i64 t128, .int .i64 t129, .int .i64 t130, .int .i64 t131, .int .i64 t132, .int .i64 t133, .bool false, .string t135, .int .i64 0, .slice none 0 0]) ?_ 8 _ rfl; (with_reducible repeat (first | refine blk_drewN ?_ _ | refine blk_drew ?_ | refine blk_alloc ?_ _)); refine blk_put (cs := #[.int .i64 t128, .int .i64 t129, .int .i64 t130, .int .i64 t131, .int .i64 t132, .int .i64 t133, .bool false, .string (⟨#[]⟩ : ByteArray), .int .i64 0, .slice none 0 0]) ?_ 7 _ rfl; (with_reducible repeat (first | refine blk_drewN ?_ _ | refine blk_drew ?_ | refine blk_alloc ?_ _)); refine blk_put (cs := #[.int .i64 t128, .int .i64 t129, .int .i64 t130, .int .i64 t131, .int .i64 t132, .int .i64 t133, .bool false, .string (⟨#[]⟩ : ByteArray), .int .i64 0, .slice none 0 0]) ?_ 6 _ rfl; (with_reducible repeat (first | refine blk_drewN ?_ _ | refine blk_drew ?_ | refine blk_alloc ?_ _)); refine blk_put (cs := #[.int .i64 t128, .int .i64 t129, .int .i64 t130, .int .i64 t131, .int .i64 t132, .int .i64 0, .bool false, .string (⟨#[]⟩ : ByteArray), .int .i64 0, .slice none 0 0]) ?_ 5 _ rfl; (with_reducible repeat (first | refine blk_drewN ?_ _ | refine blk_drew ?_ | refine blk_alloc ?_ _)); refine blk_put (cs := #[.int .i64 t128, .int .i64 t129, .int .i64 t130, .int .i64 t131, .int .i64 0, .int .i64 0, .bool false, .string (⟨#[]⟩ : ByteArray), .int .i64 0, .slice none 0 0]) ?_ 4 _ rfl; (with_reducible repeat (first | refine blk_drewN ?_ _ | refine blk_drew ?_ | refine blk_alloc ?_ _)); refine blk_put (cs := #[.int .i64 t128, .int .i64 t129, .int .i64 t130, .int .i64 0, .int .i64 0, .int .i64 0, .bool false, .string (⟨#[]⟩ : ByteArray), .int .i64 0, .slice none 0 0]) ?_ 3 _ rfl; (with_reducible repeat (first | refine blk_drewN ?_ _ | refine blk_drew ?_ | refine blk_alloc ?_ _)); refine blk_put (cs := #[.int .i64 t128, .int .i64 t129, .int .i64 0, .int .i64 0, .int .i64 0, .int .i64 0, .bool false, .string (⟨#[]⟩ : ByteArray), .int .i64 0, .slice none 0 0]) ?_ 2 _ rfl; (with_reducible repeat (first | refine blk_drewN ?_ _ | refine blk_drew ?_ | refine blk_alloc ?_ _)); refine blk_put (cs := #[.int .i64 t128, .int .i64 0, .int .i64 0, .int .i64 0, .int .i64 0, .int .i64 0, .bool false, .string (⟨#[]⟩ : ByteArray), .int .i64 0, .slice none 0 0]) ?_ 1 _ rfl; (with_reducible repeat (first | refine blk_drewN ?_ _ | refine blk_drew ?_ | refine blk_alloc ?_ _)); refine blk_put (cs := #[.int .i64 0, .int .i64 0, .int .i64 0, .int .i64 0, .int .i64 0, .int .i64 0, .bool false, .string (⟨#[]⟩ : ByteArray), .int .i64 0, .slice none 0 0]) ?_ 0 _ rfl; (with_reducible repeat (first | refine blk_drewN ?_ _ | refine blk_drew ?_ | refine blk_alloc ?_ _)); exact K1.out⟩, ⟨by repeat (first | (with_reducible first | exact HB.out | apply below_alloc | apply pw_below_drewN | apply below_drew1 | refine below_set ?_ E0.out | refine below_set ?_ E1.out) | exact HB.out)⟩⟩
    ·rw [if_neg c15] at H
     have c15b0 : (t135.toList == ([] : List UInt8)) = false := beq_eq_false_iff_ne.mpr c15
     have c15b1 : (t135.toList != ([] : List UInt8)) = true := bne_iff_ne.mpr c15
     have H' := Aside0.mk H
     clear H
     have hnb21 := N1.out
     have hnc21 := N0.out
     have hcz22_0 : w7.cell? ⟨g1, 0, none⟩ = some (.int .i64 0) := (blk_cell K1.out 0).trans rfl
     have hcz22_1 : w7.cell? ⟨g1, 1, none⟩ = some (.int .i64 0) := (blk_cell K1.out 1).trans rfl
     have hcz22_2 : w7.cell? ⟨g1, 2, none⟩ = some (.int .i64 0) := (blk_cell K1.out 2).trans rfl
     have hcz22_3 : w7.cell? ⟨g1, 3, none⟩ = some (.int .i64 0) := (blk_cell K1.out 3).trans rfl
     have hcz22_4 : w7.cell? ⟨g1, 4, none⟩ = some (.int .i64 0) := (blk_cell K1.out 4).trans rfl
     have hcz22_5 : w7.cell? ⟨g1, 5, none⟩ = some (.int .i64 0) := (blk_cell K1.out 5).trans rfl
     have hcz22_6 : w7.cell? ⟨g1, 6, none⟩ = some (.bool false) := (blk_cell K1.out 6).trans rfl
     have hcz22_7 : w7.cell? ⟨g1, 7, none⟩ = some (.string (⟨#[]⟩ : ByteArray)) := (blk_cell K1.out 7).trans rfl
     have hcz22_8 : w7.cell? ⟨g1, 8, none⟩ = some (.int .i64 0) := (blk_cell K1.out 8).trans rfl
     have hcz22_9 : w7.cell? ⟨g1, 9, none⟩ = some (.slice none 0 0) := (blk_cell K1.out 9).trans rfl
     have hfz22_0 := blk_frozen K1.out 0
     have hfz22_1 := blk_frozen K1.out 1
     have hfz22_2 := blk_frozen K1.out 2
     have hfz22_3 := blk_frozen K1.out 3
     have hfz22_4 := blk_frozen K1.out 4
     have hfz22_5 := blk_frozen K1.out 5
     have hfz22_6 := blk_frozen K1.out 6
     have hfz22_7 := blk_frozen K1.out 7
     have hfz22_8 := blk_frozen K1.out 8
     have hfz22_9 := blk_frozen K1.out 9
     go_wp2
     go_meet
     case rel => exact ⟨_, (false), (by first | rfl | (simp; done) | (simp [*]; done)), H', ⟨by first | omega | exact Nat.le_refl _⟩, ⟨by (with_reducible repeat (first | apply Kd.V_alloc | apply Kd.V_drewN | apply Kd.V_drew)); exact Kd.V_mono (Kd.V_far (p := ⟨g1, 9, none⟩) (Kd.V_far (p := ⟨g1, 8, none⟩) (Kd.V_far (p := ⟨g1, 7, none⟩) (Kd.V_far (p := ⟨g1, 6, none⟩) (Kd.V_far (p := ⟨g1, 5, none⟩) (Kd.V_far (p := ⟨g1, 4, none⟩) (Kd.V_far (p := ⟨g1, 3, none⟩) (Kd.V_far (p := ⟨g1, 2, none⟩) (Kd.V_far (p := ⟨g1, 1, none⟩) (Kd.V_far (p := ⟨g1, 0, none⟩) (Kd.V_mono O0.out (fun k_ hk => (⟨hk, hk.2⟩ : _ ∧ k_ ≠ g1))) (fun _ hk => hk.2) (.int .i64 t128)) (fun _ hk => hk.2) (.int .i64 t129)) (fun _ hk => hk.2) (.int .i64 t130)) (fun _ hk => hk.2) (.int .i64 t131)) (fun _ hk => hk.2) (.int .i64 t132)) (fun _ hk => hk.2) (.int .i64 t133)) (fun _ hk => hk.2) (.bool false)) (fun _ hk => hk.2) (.string t135)) (fun _ hk => hk.2) (.int .i64 t136)) (fun _ hk => hk.2) (.slice Ao10 t137.length co10)) (fun _ hk => ⟨hk.1.1, hk.1.2⟩)⟩, ⟨by (with_reducible repeat (first | refine blk_drewN ?_ _ | refine blk_drew ?_ | refine blk_alloc ?_ _)); refine blk_far ?_ N0.out _; (with_reducible repeat (first | refine blk_drewN ?_ _ | refine blk_drew ?_ | refine blk_alloc ?_ _)); refine blk_far ?_ N0.out _; (with_reducible repeat (first | refine blk_drewN ?_ _ | refine blk_drew ?_ | refine blk_alloc ?_ _)); refine blk_far ?_ N0.out _; (with_reducible repeat (first | refine blk_drewN ?_ _ | refine blk_drew ?_ | refine blk_alloc ?_ _)); refine blk_far ?_ N0.out _; (with_reducible repeat (first | refine blk_drewN ?_ _ | refine blk_drew ?_ | refine blk_alloc ?_ _)); refine blk_far ?_ N0.out _; (with_reducible repeat (first | refine blk_drewN ?_ _ | refine blk_drew ?_ | refine blk_alloc ?_ _)); refine blk_far ?_ N0.out _; (with_reducible repeat (first | refine blk_drewN ?_ _ | refine blk_drew ?_ | refine blk_alloc ?_ _)); refine blk_far ?_ N0.out _; (with_reducible repeat (first | refine blk_drewN ?_ _ | refine blk_drew ?_ | refine blk_alloc ?_ _)); refine blk_far ?_ N0.out _; (with_reducible repeat (first | refine blk_drewN ?_ _ | refine blk_drew ?_ | refine blk_alloc ?_ _)); refine blk_far ?_ N0.out _; (with_reducible repeat (first | refine blk_drewN ?_ _ | refine blk_drew ?_ | refine blk_alloc ?_ _)); refine blk_far ?_ N0.out _; (with_reducible repeat (first | refine blk_drewN ?_ _ | refine blk_drew ?_ | refine blk_alloc ?_ _)); exact K0.out⟩, ⟨by (with_reducible repeat (first | refine blk_drewN ?_ _ | refine blk_drew ?_ | refine blk_alloc ?_ _)); refine blk_put (cs := #[.int .i64 t128, .int .i64 t129, .int .i64 t130, .int .i64 t131, .int .i64 t132, .int .i64 t133, .bool false, .string t135, .int .i64 t136, .slice none 0 0]) ?_ 9 _ rfl; (with_reducible repeat (first | refine blk_drewN ?_ _ | refine blk_drew ?_ | refine blk_alloc ?_ _)); refine blk_put (cs := #[.int .i64 t128, .int .i64 t129, .int .i64 t130, .int .i64 t131, .int .i64 t132, .int .i64 t133, .bool false, .string t135, .int .i64 0, .slice none 0 0]) ?_ 8 _ rfl; (with_reducible repeat (first | refine blk_drewN ?_ _ | refine blk_drew ?_ | refine blk_alloc ?_ _)); refine blk_put (cs := #[.int .i64 t128, .int .i64 t129, .int .i64 t130, .int .i64 t131, .int .i64 t132, .int .i64 t133, .bool false, .string (⟨#[]⟩ : ByteArray), .int .i64 0, .slice none 0 0]) ?_ 7 _ rfl; (with_reducible repeat (first | refine blk_drewN ?_ _ | refine blk_drew ?_ | refine blk_alloc ?_ _)); refine blk_put (cs := #[.int .i64 t128, .int .i64 t129, .int .i64 t130, .int .i64 t131, .int .i64 t132, .int .i64 t133, .bool false, .string (⟨#[]⟩ : ByteArray), .int .i64 0, .slice none 0 0]) ?_ 6 _ rfl; (with_reducible repeat (first | refine blk_drewN ?_ _ | refine blk_drew ?_ | refine blk_alloc ?_ _)); refine blk_put (cs := #[.int .i64 t128, .int .i64 t129, .int .i64 t130, .int .i64 t131, .int .i64 t132, .int .i64 0, .bool false, .string (⟨#[]⟩ : ByteArray), .int .i64 0, .slice none 0 0]) ?_ 5 _ rfl; (with_reducible repeat (first | refine blk_drewN ?_ _ | refine blk_drew ?_ | refine blk_alloc ?_ _)); refine blk_put (cs := #[.int .i64 t128, .int .i64 t129, .int .i64 t130, .int .i64 t131, .int .i64 0, .int .i64 0, .bool false, .string (⟨#[]⟩ : ByteArray), .int .i64 0, .slice none 0 0]) ?_ 4 _ rfl; (with_reducible repeat (first | refine blk_drewN ?_ _ | refine blk_drew ?_ | refine blk_alloc ?_ _)); refine blk_put (cs := #[.int .i64 t128, .int .i64 t129, .int .i64 t130, .int .i64 0, .int .i64 0, .int .i64 0, .bool false, .string (⟨#[]⟩ : ByteArray), .int .i64 0, .slice none 0 0]) ?_ 3 _ rfl; (with_reducible repeat (first | refine blk_drewN ?_ _ | refine blk_drew ?_ | refine blk_alloc ?_ _)); refine blk_put (cs := #[.int .i64 t128, .int .i64 t129, .int .i64 0, .int .i64 0, .int .i64 0, .int .i64 0, .bool false, .string (⟨#[]⟩ : ByteArray), .int .i64 0, .slice none 0 0]) ?_ 2 _ rfl; (with_reducible repeat (first | refine blk_drewN ?_ _ | refine blk_drew ?_ | refine blk_alloc ?_ _)); refine blk_put (cs := #[.int .i64 t128, .int .i64 0, .int .i64 0, .int .i64 0, .int .i64 0, .int .i64 0, .bool false, .string (⟨#[]⟩ : ByteArray), .int .i64 0, .slice none 0 0]) ?_ 1 _ rfl; (with_reducible repeat (first | refine blk_drewN ?_ _ | refine blk_drew ?_ | refine blk_alloc ?_ _)); refine blk_put (cs := #[.int .i64 0, .int .i64 0, .int .i64 0, .int .i64 0, .int .i64 0, .int .i64 0, .bool false, .string (⟨#[]⟩ : ByteArray), .int .i64 0, .slice none 0 0]) ?_ 0 _ rfl; (with_reducible repeat (first | refine blk_drewN ?_ _ | refine blk_drew ?_ | refine blk_alloc ?_ _)); exact K1.out⟩, ⟨by repeat (first | (with_reducible first | exact HB.out | apply below_alloc | apply pw_below_drewN | apply below_drew1 | refine below_set ?_ E0.out | refine below_set ?_ E1.out) | exact HB.out)⟩⟩
  ·rw [if_neg c11] at H
   have c11b0 : ((Go.bits .or .i64 (Go.bits .or .i64 (Go.bits .or .i64 (Go.bits .or .i64 t129 t130) t131) t132) t133) == 0) = false := beq_eq_false_iff_ne.mpr c11
   have c11b1 : ((Go.bits .or .i64 (Go.bits .or .i64 (Go.bits .or .i64 (Go.bits .or .i64 t129 t130) t131) t132) t133) != 0) = true := bne_iff_ne.mpr c11
   (first | rw [c11b0] | (simp only [i64_w, i32_w]; rw [c11b0]) | skip)
   have H' := Aside0.mk H
   clear H
   have hnb23 := N1.out
   have hnc23 := N0.out
   have hcz24_0 : w7.cell? ⟨g1, 0, none⟩ = some (.int .i64 0) := (blk_cell K1.out 0).trans rfl
   have hcz24_1 : w7.cell? ⟨g1, 1, none⟩ = some (.int .i64 0) := (blk_cell K1.out 1).trans rfl
   have hcz24_2 : w7.cell? ⟨g1, 2, none⟩ = some (.int .i64 0) := (blk_cell K1.out 2).trans rfl
   have hcz24_3 : w7.cell? ⟨g1, 3, none⟩ = some (.int .i64 0) := (blk_cell K1.out 3).trans rfl
   have hcz24_4 : w7.cell? ⟨g1, 4, none⟩ = some (.int .i64 0) := (blk_cell K1.out 4).trans rfl
   have hcz24_5 : w7.cell? ⟨g1, 5, none⟩ = some (.int .i64 0) := (blk_cell K1.out 5).trans rfl
   have hcz24_6 : w7.cell? ⟨g1, 6, none⟩ = some (.bool false) := (blk_cell K1.out 6).trans rfl
   have hcz24_7 : w7.cell? ⟨g1, 7, none⟩ = some (.string (⟨#[]⟩ : ByteArray)) := (blk_cell K1.out 7).trans rfl
   have hcz24_8 : w7.cell? ⟨g1, 8, none⟩ = some (.int .i64 0) := (blk_cell K1.out 8).trans rfl
   have hcz24_9 : w7.cell? ⟨g1, 9, none⟩ = some (.slice none 0 0) := (blk_cell K1.out 9).trans rfl
   have hfz24_0 := blk_frozen K1.out 0
   have hfz24_1 := blk_frozen K1.out 1
   have hfz24_2 := blk_frozen K1.out 2
   have hfz24_3 := blk_frozen K1.out 3
   have hfz24_4 := blk_frozen K1.out 4
   have hfz24_5 := blk_frozen K1.out 5
   have hfz24_6 := blk_frozen K1.out 6
   have hfz24_7 := blk_frozen K1.out 7
   have hfz24_8 := blk_frozen K1.out 8
   have hfz24_9 := blk_frozen K1.out 9
   go_wp2
   go_meet
   case rel => exact ⟨_, (false), (by first | rfl | (simp; done) | (simp [*]; done)), H', ⟨by first | omega | exact Nat.le_refl _⟩, ⟨by (with_reducible repeat (first | apply Kd.V_alloc | apply Kd.V_drewN | apply Kd.V_drew)); exact Kd.V_mono (Kd.V_far (p := ⟨g1, 9, none⟩) (Kd.V_far (p := ⟨g1, 8, none⟩) (Kd.V_far (p := ⟨g1, 7, none⟩) (Kd.V_far (p := ⟨g1, 6, none⟩) (Kd.V_far (p := ⟨g1, 5, none⟩) (Kd.V_far (p := ⟨g1, 4, none⟩) (Kd.V_far (p := ⟨g1, 3, none⟩) (Kd.V_far (p := ⟨g1, 2, none⟩) (Kd.V_far (p := ⟨g1, 1, none⟩) (Kd.V_far (p := ⟨g1, 0, none⟩) (Kd.V_mono O0.out (fun k_ hk => (⟨hk, hk.2⟩ : _ ∧ k_ ≠ g1))) (fun _ hk => hk.2) (.int .i64 t128)) (fun _ hk => hk.2) (.int .i64 t129)) (fun _ hk => hk.2) (.int .i64 t130)) (fun _ hk => hk.2) (.int .i64 t131)) (fun _ hk => hk.2) (.int .i64 t132)) (fun _ hk => hk.2) (.int .i64 t133)) (fun _ hk => hk.2) (.bool t134)) (fun _ hk => hk.2) (.string t135)) (fun _ hk => hk.2) (.int .i64 t136)) (fun _ hk => hk.2) (.slice Ao10 t137.length co10)) (fun _ hk => ⟨hk.1.1, hk.1.2⟩)⟩, ⟨by (with_reducible repeat (first | refine blk_drewN ?_ _ | refine blk_drew ?_ | refine blk_alloc ?_ _)); refine blk_far ?_ N0.out _; (with_reducible repeat (first | refine blk_drewN ?_ _ | refine blk_drew ?_ | refine blk_alloc ?_ _)); refine blk_far ?_ N0.out _; (with_reducible repeat (first | refine blk_drewN ?_ _ | refine blk_drew ?_ | refine blk_alloc ?_ _)); refine blk_far ?_ N0.out _; (with_reducible repeat (first | refine blk_drewN ?_ _ | refine blk_drew ?_ | refine blk_alloc ?_ _)); refine blk_far ?_ N0.out _; (with_reducible repeat (first | refine blk_drewN ?_ _ | refine blk_drew ?_ | refine blk_alloc ?_ _)); refine blk_far ?_ N0.out _; (with_reducible repeat (first | refine blk_drewN ?_ _ | refine blk_drew ?_ | refine blk_alloc ?_ _)); refine blk_far ?_ N0.out _; (with_reducible repeat (first | refine blk_drewN ?_ _ | refine blk_drew ?_ | refine blk_alloc ?_ _)); refine blk_far ?_ N0.out _; (with_reducible repeat (first | refine blk_drewN ?_ _ | refine blk_drew ?_ | refine blk_alloc ?_ _)); refine blk_far ?_ N0.out _; (with_reducible repeat (first | refine blk_drewN ?_ _ | refine blk_drew ?_ | refine blk_alloc ?_ _)); refine blk_far ?_ N0.out _; (with_reducible repeat (first | refine blk_drewN ?_ _ | refine blk_drew ?_ | refine blk_alloc ?_ _)); refine blk_far ?_ N0.out _; (with_reducible repeat (first | refine blk_drewN ?_ _ | refine blk_drew ?_ | refine blk_alloc ?_ _)); exact K0.out⟩, ⟨by (with_reducible repeat (first | refine blk_drewN ?_ _ | refine blk_drew ?_ | refine blk_alloc ?_ _)); refine blk_put (cs := #[.int .i64 t128, .int .i64 t129, .int .i64 t130, .int .i64 t131, .int .i64 t132, .int .i64 t133, .bool t134, .string t135, .int .i64 t136, .slice none 0 0]) ?_ 9 _ rfl; (with_reducible repeat (first | refine blk_drewN ?_ _ | refine blk_drew ?_ | refine blk_alloc ?_ _)); refine blk_put (cs := #[.int .i64 t128, .int .i64 t129, .int .i64 t130, .int .i64 t131, .int .i64 t132, .int .i64 t133, .bool t134, .string t135, .int .i64 0, .slice none 0 0]) ?_ 8 _ rfl; (with_reducible repeat (first | refine blk_drewN ?_ _ | refine blk_drew ?_ | refine blk_alloc ?_ _)); refine blk_put (cs := #[.int .i64 t128, .int .i64 t129, .int .i64 t130, .int .i64 t131, .int .i64 t132, .int .i64 t133, .bool t134, .string (⟨#[]⟩ : ByteArray), .int .i64 0, .slice none 0 0]) ?_ 7 _ rfl; (with_reducible repeat (first | refine blk_drewN ?_ _ | refine blk_drew ?_ | refine blk_alloc ?_ _)); refine blk_put (cs := #[.int .i64 t128, .int .i64 t129, .int .i64 t130, .int .i64 t131, .int .i64 t132, .int .i64 t133, .bool false, .string (⟨#[]⟩ : ByteArray), .int .i64 0, .slice none 0 0]) ?_ 6 _ rfl; (with_reducible repeat (first | refine blk_drewN ?_ _ | refine blk_drew ?_ | refine blk_alloc ?_ _)); refine blk_put (cs := #[.int .i64 t128, .int .i64 t129, .int .i64 t130, .int .i64 t131, .int .i64 t132, .int .i64 0, .bool false, .string (⟨#[]⟩ : ByteArray), .int .i64 0, .slice none 0 0]) ?_ 5 _ rfl; (with_reducible repeat (first | refine blk_drewN ?_ _ | refine blk_drew ?_ | refine blk_alloc ?_ _)); refine blk_put (cs := #[.int .i64 t128, .int .i64 t129, .int .i64 t130, .int .i64 t131, .int .i64 0, .int .i64 0, .bool false, .string (⟨#[]⟩ : ByteArray), .int .i64 0, .slice none 0 0]) ?_ 4 _ rfl; (with_reducible repeat (first | refine blk_drewN ?_ _ | refine blk_drew ?_ | refine blk_alloc ?_ _)); refine blk_put (cs := #[.int .i64 t128, .int .i64 t129, .int .i64 t130, .int .i64 0, .int .i64 0, .int .i64 0, .bool false, .string (⟨#[]⟩ : ByteArray), .int .i64 0, .slice none 0 0]) ?_ 3 _ rfl; (with_reducible repeat (first | refine blk_drewN ?_ _ | refine blk_drew ?_ | refine blk_alloc ?_ _)); refine blk_put (cs := #[.int .i64 t128, .int .i64 t129, .int .i64 0, .int .i64 0, .int .i64 0, .int .i64 0, .bool false, .string (⟨#[]⟩ : ByteArray), .int .i64 0, .slice none 0 0]) ?_ 2 _ rfl; (with_reducible repeat (first | refine blk_drewN ?_ _ | refine blk_drew ?_ | refine blk_alloc ?_ _)); refine blk_put (cs := #[.int .i64 t128, .int .i64 0, .int .i64 0, .int .i64 0, .int .i64 0, .int .i64 0, .bool false, .string (⟨#[]⟩ : ByteArray), .int .i64 0, .slice none 0 0]) ?_ 1 _ rfl; (with_reducible repeat (first | refine blk_drewN ?_ _ | refine blk_drew ?_ | refine blk_alloc ?_ _)); refine blk_put (cs := #[.int .i64 0, .int .i64 0, .int .i64 0, .int .i64 0, .int .i64 0, .int .i64 0, .bool false, .string (⟨#[]⟩ : ByteArray), .int .i64 0, .slice none 0 0]) ?_ 0 _ rfl; (with_reducible repeat (first | refine blk_drewN ?_ _ | refine blk_drew ?_ | refine blk_alloc ?_ _)); exact K1.out⟩, ⟨by repeat (first | (with_reducible first | exact HB.out | apply below_alloc | apply pw_below_drewN | apply below_drew1 | refine below_set ?_ E0.out | refine below_set ?_ E1.out) | exact HB.out)⟩⟩
 case rest =>
  clear HC3
  try clear c1
  try clear c2
  try clear p2
  try clear c3
  try clear c8
  try clear c11
  try clear c11b0
  try clear c11b1
  try clear c12
  try clear c13
  try clear c14
  try clear c15
  try clear c15b0
  try clear c15b1
  try clear c16
  try clear c16b0
  try clear c16b1
  try clear c17
  try clear c19
  try clear c21
  try clear c23
  try clear hcz14_0
  try clear hcz14_1
  try clear hcz14_2
  try clear hcz14_3
  try clear hcz14_4
  try clear hcz14_5
  try clear hcz14_6
  try clear hcz14_7
  try clear hcz14_8
  try clear hcz14_9
  try clear hcz18_0
  try clear hcz18_1
  try clear hcz18_2
  try clear hcz18_3
  try clear hcz18_4
  try clear hcz18_5
  try clear hcz18_6
  try clear hcz18_7
  try clear hcz18_8
  try clear hcz18_9
  try clear hcz20_0
  try clear hcz20_1
  try clear hcz20_2
  try clear hcz20_3
  try clear hcz20_4
  try clear hcz20_5
  try clear hcz20_6
  try clear hcz20_7
  try clear hcz20_8
  try clear hcz20_9
  try clear hcz22_0
  try clear hcz22_1
  try clear hcz22_2
  try clear hcz22_3
  try clear hcz22_4
  try clear hcz22_5
  try clear hcz22_6
  try clear hcz22_7
  try clear hcz22_8
  try clear hcz22_9
  try clear hcz24_0
  try clear hcz24_1
  try clear hcz24_2
  try clear hcz24_3
  try clear hcz24_4
  try clear hcz24_5
  try clear hcz24_6
  try clear hcz24_7
  try clear hcz24_8
  try clear hcz24_9
  try clear hcz5_0
  try clear hcz5_1
  try clear hcz5_2
  try clear hcz5_3
  try clear hcz5_4
  try clear hcz5_5
  try clear hcz5_6
  try clear hcz5_7
  try clear hcz5_8
  try clear hcz5_9
  try clear hcz9_0
  try clear hcz9_1
  try clear hcz9_2
  try clear hcz9_3
  try clear hcz9_4
  try clear hcz9_5
  try clear hcz9_6
  try clear hcz9_7
  try clear hcz9_8
  try clear hcz9_9
  try clear hfz14_0
  try clear hfz14_1
  try clear hfz14_2
  try clear hfz14_3
  try clear hfz14_4
  try clear hfz14_5
  try clear hfz14_6
  try clear hfz14_7
  try clear hfz14_8
  try clear hfz14_9
  try clear hfz18_0
  try clear hfz18_1
  try clear hfz18_2
  try clear hfz18_3
  try clear hfz18_4
  try clear hfz18_5
  try clear hfz18_6
  try clear hfz18_7
  try clear hfz18_8
  try clear hfz18_9
  try clear hfz20_0
  try clear hfz20_1
  try clear hfz20_2
  try clear hfz20_3
  try clear hfz20_4
  try clear hfz20_5
  try clear hfz20_6
  try clear hfz20_7
  try clear hfz20_8
  try clear hfz20_9
  try clear hfz22_0
  try clear hfz22_1
  try clear hfz22_2
  try clear hfz22_3
  try clear hfz22_4
  try clear hfz22_5
  try clear hfz22_6
  try clear hfz22_7
  try clear hfz22_8
  try clear hfz22_9
  try clear hfz24_0
  try clear hfz24_1
  try clear hfz24_2
  try clear hfz24_3
  try clear hfz24_4
  try clear hfz24_5
  try clear hfz24_6
  try clear hfz24_7
  try clear hfz24_8
  try clear hfz24_9
  try clear hfz5_0
  try clear hfz5_1
  try clear hfz5_2
  try clear hfz5_3
  try clear hfz5_4
  try clear hfz5_5
  try clear hfz5_6
  try clear hfz5_7
  try clear hfz5_8
  try clear hfz5_9
  try clear hfz9_0
  try clear hfz9_1
  try clear hfz9_2
  try clear hfz9_3
  try clear hfz9_4
  try clear hfz9_5
  try clear hfz9_6
  try clear hfz9_7
  try clear hfz9_8
  try clear hfz9_9
  obtain ⟨kq, x5_2, rfl, HA, HJ2, HO_142009, K0, K1, HB⟩ := hcut
  cases kq with
  | zero => exact absurd HA.out (by simp [script_May.j0])
  | succ kj2 =>
   have H := HA.out
   clear HA
   simp only [script_May.j0] at H
   have HC25 := Aside0.mk H
   clear H
   go_upto_region 3 with (fail)
   go_cut [6] (fun v6 wc => ∃ (kq : Nat) (x6_24 : Bool), v6 = .bool x6_24 ∧ Aside0 (script_May.j1 kq t140 x5_2 x6_24 a0_0 a0_1 a0_2 a0_3 a0_4 a0_5 a0_6 a0_7 a0_8 l0_9 = some r) ∧ Aside0 (kq ≤ kj2) ∧ Aside0 (Kd.V k63 63 wc w.heap.size (fun k_ => k_ ≠ g0 ∧ k_ ≠ g1) (.slice Ao10 t137.length co10) t137) ∧ Aside0 (wc.heap[g0]? = some (.cells #[.int .i64 a0_0, .int .i64 a0_1, .int .i64 a0_2, .int .i64 a0_3, .int .i64 a0_4, .int .i64 a0_5, .bool a0_6, .string a0_7, .int .i64 a0_8, (.slice A0_9 l0_9.length c0_9)] 40 (0, 0))) ∧ Aside0 (wc.heap[g1]? = some (.cells #[.int .i64 t128, .int .i64 t129, .int .i64 t130, .int .i64 t131, .int .i64 t132, .int .i64 t133, .bool t134, .string t135, .int .i64 t136, (.slice Ao10 t137.length co10)] 40 (0, 0))) ∧ Aside0 (Below w.heap.size w wc))
   case first =>
    have H := HC25.out
    clear HC25
    by_cases c26 : a0_1 ≥ 0
    ·rw [if_pos c26] at H
     have c26b0 : decide (0 ≤ a0_1) = true := decide_eq_true c26
     clear c26
     (first | rw [c26b0] | (simp only [i64_w, i32_w]; rw [c26b0]) | skip)
     have H' := Aside0.mk H
     clear H
     have hnb27 := N0.out
     have hnc27 := N1.out
     have hcz28_0 : wc.cell? ⟨g0, 0, none⟩ = some (.int .i64 a0_0) := (blk_cell K0.out 0).trans rfl
     have hcz28_1 : wc.cell? ⟨g0, 1, none⟩ = some (.int .i64 a0_1) := (blk_cell K0.out 1).trans rfl
     have hcz28_2 : wc.cell? ⟨g0, 2, none⟩ = some (.int .i64 a0_2) := (blk_cell K0.out 2).trans rfl
     have hcz28_3 : wc.cell? ⟨g0, 3, none⟩ = some (.int .i64 a0_3) := (blk_cell K0.out 3).trans rfl
     have hcz28_4 : wc.cell? ⟨g0, 4, none⟩ = some (.int .i64 a0_4) := (blk_cell K0.out 4).trans rfl
     have hcz28_5 : wc.cell? ⟨g0, 5, none⟩ = some (.int .i64 a0_5) := (blk_cell K0.out 5).trans rfl
     have hcz28_6 : wc.cell? ⟨g0, 6, none⟩ = some (.bool a0_6) := (blk_cell K0.out 6).trans rfl
     have hcz28_7 : wc.cell? ⟨g0, 7, none⟩ = some (.string a0_7) := (blk_cell K0.out 7).trans rfl
     have hcz28_8 : wc.cell? ⟨g0, 8, none⟩ = some (.int .i64 a0_8) := (blk_cell K0.out 8).trans rfl
     have hcz28_9 : wc.cell? ⟨g0, 9, none⟩ = some (.slice A0_9 l0_9.length c0_9) := (blk_cell K0.out 9).trans rfl
     have hfz28_0 := blk_frozen K0.out 0
     have hfz28_1 := blk_frozen K0.out 1
     have hfz28_2 := blk_frozen K0.out 2
     have hfz28_3 := blk_frozen K0.out 3
     have hfz28_4 := blk_frozen K0.out 4
     have hfz28_5 := blk_frozen K0.out 5
     have hfz28_6 := blk_frozen K0.out 6
     have hfz28_7 := blk_frozen K0.out 7
     have hfz28_8 := blk_frozen K0.out 8
     have hfz28_9 := blk_frozen K0.out 9
     go_wp2
     go_meet
     case rel => exact ⟨_, (decide (a0_1 ≤ 2)), (by first | rfl | (simp; done) | (simp [*]; done)), H', ⟨by have := HJ2.out; first | omega | exact Nat.le_refl _⟩, ⟨by (with_reducible repeat (first | apply Kd.V_alloc | apply Kd.V_drewN | apply Kd.V_drew)); exact HO_142009.out⟩, ⟨by (with_reducible repeat (first | refine blk_drewN ?_ _ | refine blk_drew ?_ | refine blk_alloc ?_ _)); exact K0.out⟩, ⟨by (with_reducible repeat (first | refine blk_drewN ?_ _ | refine blk_drew ?_ | refine blk_alloc ?_ _)); exact K1.out⟩, ⟨by repeat (first | (with_reducible first | exact HB.out | apply below_alloc | apply pw_below_drewN | apply below_drew1 | refine below_set ?_ E0.out | refine below_set ?_ E1.out) | exact HB.out)⟩⟩
    ·rw [if_neg c26] at H
     have c26b0 : decide (0 ≤ a0_1) = false := decide_eq_false c26
     clear c26
     (first | rw [c26b0] | (simp only [i64_w, i32_w]; rw [c26b0]) | skip)
     have H' := Aside0.mk H
     clear H
     have hnb29 := N0.out
     have hnc29 := N1.out
     have hcz30_0 : wc.cell? ⟨g0, 0, none⟩ = some (.int .i64 a0_0) := (blk_cell K0.out 0).trans rfl
     have hcz30_1 : wc.cell? ⟨g0, 1, none⟩ = some (.int .i64 a0_1) := (blk_cell K0.out 1).trans rfl
     have hcz30_2 : wc.cell? ⟨g0, 2, none⟩ = some (.int .i64 a0_2) := (blk_cell K0.out 2).trans rfl
     have hcz30_3 : wc.cell? ⟨g0, 3, none⟩ = some (.int .i64 a0_3) := (blk_cell K0.out 3).trans rfl
     have hcz30_4 : wc.cell? ⟨g0, 4, none⟩ = some (.int .i64 a0_4) := (blk_cell K0.out 4).trans rfl
     have hcz30_5 : wc.cell? ⟨g0, 5, none⟩ = some (.int .i64 a0_5) := (blk_cell K0.out 5).trans rfl
     have hcz30_6 : wc.cell? ⟨g0, 6, none⟩ = some (.bool a0_6) := (blk_cell K0.out 6).trans rfl
     have hcz30_7 : wc.cell? ⟨g0, 7, none⟩ = some (.string a0_7) := (blk_cell K0.out 7).trans rfl
     have hcz30_8 : wc.cell? ⟨g0, 8, none⟩ = some (.int .i64 a0_8) := (blk_cell K0.out 8).trans rfl
     have hcz30_9 : wc.cell? ⟨g0, 9, none⟩ = some (.slice A0_9 l0_9.length c0_9) := (blk_cell K0.out 9).trans rfl
     have hfz30_0 := blk_frozen K0.out 0
     have hfz30_1 := blk_frozen K0.out 1
     have hfz30_2 := blk_frozen K0.out 2
     have hfz30_3 := blk_frozen K0.out 3
     have hfz30_4 := blk_frozen K0.out 4
     have hfz30_5 := blk_frozen K0.out 5
     have hfz30_6 := blk_frozen K0.out 6
     have hfz30_7 := blk_frozen K0.out 7
     have hfz30_8 := blk_frozen K0.out 8
     have hfz30_9 := blk_frozen K0.out 9
     go_wp2
     go_meet
     case rel => exact ⟨_, (false), (by first | rfl | (simp; done) | (simp [*]; done)), H', ⟨by have := HJ2.out; first | omega | exact Nat.le_refl _⟩, ⟨by (with_reducible repeat (first | apply Kd.V_alloc | apply Kd.V_drewN | apply Kd.V_drew)); exact HO_142009.out⟩, ⟨by (with_reducible repeat (first | refine blk_drewN ?_ _ | refine blk_drew ?_ | refine blk_alloc ?_ _)); exact K0.out⟩, ⟨by (with_reducible repeat (first | refine blk_drewN ?_ _ | refine blk_drew ?_ | refine blk_alloc ?_ _)); exact K1.out⟩, ⟨by repeat (first | (with_reducible first | exact HB.out | apply below_alloc | apply pw_below_drewN | apply below_drew1 | refine below_set ?_ E0.out | refine below_set ?_ E1.out) | exact HB.out)⟩⟩
   case rest =>
    clear HC25
    try clear c1
    try clear c2
    try clear p2
    try clear c3
    try clear c8
    try clear c11
    try clear c11b0
    try clear c11b1
    try clear c12
    try clear c13
    try clear c14
    try clear c15
    try clear c15b0
    try clear c15b1
    try clear c16
    try clear c16b0
    try clear c16b1
    try clear c17
    try clear c19
    try clear c21
    try clear c23
    try clear c26
    try clear c26b0
    try clear c27
    try clear c29
    try clear c30
    try clear hcz14_0
    try clear hcz14_1
    try clear hcz14_2
    try clear hcz14_3
    try clear hcz14_4
    try clear hcz14_5
    try clear hcz14_6
    try clear hcz14_7
    try clear hcz14_8
    try clear hcz14_9
    try clear hcz18_0
    try clear hcz18_1
    try clear hcz18_2
    try clear hcz18_3
    try clear hcz18_4
    try clear hcz18_5
    try clear hcz18_6
    try clear hcz18_7
    try clear hcz18_8
    try clear hcz18_9
    try clear hcz20_0
    try clear hcz20_1
    try clear hcz20_2
    try clear hcz20_3
    try clear hcz20_4
    try clear hcz20_5
    try clear hcz20_6
    try clear hcz20_7
    try clear hcz20_8
    try clear hcz20_9
    try clear hcz22_0
    try clear hcz22_1
    try clear hcz22_2
    try clear hcz22_3
    try clear hcz22_4
    try clear hcz22_5
    try clear hcz22_6
    try clear hcz22_7
    try clear hcz22_8
    try clear hcz22_9
    try clear hcz24_0
    try clear hcz24_1
    try clear hcz24_2
    try clear hcz24_3
    try clear hcz24_4
    try clear hcz24_5
    try clear hcz24_6
    try clear hcz24_7
    try clear hcz24_8
    try clear hcz24_9
    try clear hcz28_0
    try clear hcz28_1
    try clear hcz28_2
    try clear hcz28_3
    try clear hcz28_4
    try clear hcz28_5
    try clear hcz28_6
    try clear hcz28_7
    try clear hcz28_8
    try clear hcz28_9
    try clear hcz30_0
    try clear hcz30_1
    try clear hcz30_2
    try clear hcz30_3
    try clear hcz30_4
    try clear hcz30_5
    try clear hcz30_6
    try clear hcz30_7
    try clear hcz30_8
    try clear hcz30_9
    try clear hcz5_0
    try clear hcz5_1
    try clear hcz5_2
    try clear hcz5_3
    try clear hcz5_4
    try clear hcz5_5
    try clear hcz5_6
    try clear hcz5_7
    try clear hcz5_8
    try clear hcz5_9
    try clear hcz9_0
    try clear hcz9_1
    try clear hcz9_2
    try clear hcz9_3
    try clear hcz9_4
    try clear hcz9_5
    try clear hcz9_6
    try clear hcz9_7
    try clear hcz9_8
    try clear hcz9_9
    try clear hfz14_0
    try clear hfz14_1
    try clear hfz14_2
    try clear hfz14_3
    try clear hfz14_4
    try clear hfz14_5
    try clear hfz14_6
    try clear hfz14_7
    try clear hfz14_8
    try clear hfz14_9
    try clear hfz18_0
    try clear hfz18_1
    try clear hfz18_2
    try clear hfz18_3
    try clear hfz18_4
    try clear hfz18_5
    try clear hfz18_6
    try clear hfz18_7
    try clear hfz18_8
    try clear hfz18_9
    try clear hfz20_0
    try clear hfz20_1
    try clear hfz20_2
    try clear hfz20_3
    try clear hfz20_4
    try clear hfz20_5
    try clear hfz20_6
    try clear hfz20_7
    try clear hfz20_8
    try clear hfz20_9
    try clear hfz22_0
    try clear hfz22_1
    try clear hfz22_2
    try clear hfz22_3
    try clear hfz22_4
    try clear hfz22_5
    try clear hfz22_6
    try clear hfz22_7
    try clear hfz22_8
    try clear hfz22_9
    try clear hfz24_0
    try clear hfz24_1
    try clear hfz24_2
    try clear hfz24_3
    try clear hfz24_4
    try clear hfz24_5
    try clear hfz24_6
    try clear hfz24_7
    try clear hfz24_8
    try clear hfz24_9
    try clear hfz28_0
    try clear hfz28_1
    try clear hfz28_2
    try clear hfz28_3
    try clear hfz28_4
    try clear hfz28_5
    try clear hfz28_6
    try clear hfz28_7
    try clear hfz28_8
    try clear hfz28_9
    try clear hfz30_0
    try clear hfz30_1
    try clear hfz30_2
    try clear hfz30_3
    try clear hfz30_4
    try clear hfz30_5
    try clear hfz30_6
    try clear hfz30_7
    try clear hfz30_8
    try clear hfz30_9
    try clear hfz5_0
    try clear hfz5_1
    try clear hfz5_2
    try clear hfz5_3
    try clear hfz5_4
    try clear hfz5_5
    try clear hfz5_6
    try clear hfz5_7
    try clear hfz5_8
    try clear hfz5_9
    try clear hfz9_0
    try clear hfz9_1
    try clear hfz9_2
    try clear hfz9_3
    try clear hfz9_4
    try clear hfz9_5
    try clear hfz9_6
    try clear hfz9_7
    try clear hfz9_8
    try clear hfz9_9
    try clear p2
    obtain ⟨kq, x6_24, rfl, HA, HJ24, HO_142009, K0, K1, HB⟩ := hcut
    cases kq with
    | zero => exact absurd HA.out (by simp [script_May.j1])
    | succ kj24 =>
     have H := HA.out
     clear HA
     simp only [script_May.j1] at H
     replace H := Option.bind_eq_some_iff.mp H
     obtain ⟨t142, A310, H⟩ := H
     replace H : (if t142 = true then ((ip_In.f a0_3 8).bind fun t143 => (if t143 = true then ((ip_In.f a0_4 8).bind fun t144 => (if t144 = true then (if a0_5 ≥ 0 then (if t140 = true then (if x5_2 = true then (if x6_24 = true then (if a0_5 < 32 then (if (a0_7.size : Int) ≤ 512 then ((conf_May.f a0_8 l0_9).bind fun t145 => (some t145)) else (some false)) else (some false)) else (some false)) else (some false)) else (some false)) else (if t140 = true then (if x5_2 = true then (if x6_24 = true then (some false) else (some false)) else (some false)) else (some false))) else (if t140 = true then (if x5_2 = true then (if x6_24 = true then (some false) else (some false)) else (some false)) else (some false)))) else (if t140 = true then (if x5_2 = true then (if x6_24 = true then (some false) else (some false)) else (some false)) else (some false)))) else (if t140 = true then (if x5_2 = true then (if x6_24 = true then (some false) else (some false)) else (some false)) else (some false))) = some r := H
     have A31 := Aside0.mk A310
     clear A310
     by_cases c32 : t142 = true
     ·subst c32
      have H1 : ((ip_In.f a0_3 8).bind fun t143 => (if t143 = true then ((ip_In.f a0_4 8).bind fun t144 => (if t144 = true then (if a0_5 ≥ 0 then (if t140 = true then (if x5_2 = true then (if x6_24 = true then (if a0_5 < 32 then (if (a0_7.size : Int) ≤ 512 then ((conf_May.f a0_8 l0_9).bind fun t145 => (some t145)) else (some false)) else (some false)) else (some false)) else (some false)) else (some false)) else (if t140 = true then (if x5_2 = true then (if x6_24 = true then (some false) else (some false)) else (some false)) else (some false))) else (if t140 = true then (if x5_2 = true then (if x6_24 = true then (some false) else (some false)) else (some false)) else (some false)))) else (if t140 = true then (if x5_2 = true then (if x6_24 = true then (some false) else (some false)) else (some false)) else (some false)))) = some r := by rw [if_pos rfl] at H; exact H
      clear H
      have H := H1
      clear H1
      replace H := Option.bind_eq_some_iff.mp H
      obtain ⟨t143, A330, H⟩ := H
      replace H : (if t143 = true then ((ip_In.f a0_4 8).bind fun t144 => (if t144 = true then (if a0_5 ≥ 0 then (if t140 = true then (if x5_2 = true then (if x6_24 = true then (if a0_5 < 32 then (if (a0_7.size : Int) ≤ 512 then ((conf_May.f a0_8 l0_9).bind fun t145 => (some t145)) else (some false)) else (some false)) else (some false)) else (some false)) else (some false)) else (if t140 = true then (if x5_2 = true then (if x6_24 = true then (some false) else (some false)) else (some false)) else (some false))) else (if t140 = true then (if x5_2 = true then (if x6_24 = true then (some false) else (some false)) else (some false)) else (some false)))) else (if t140 = true then (if x5_2 = true then (if x6_24 = true then (some false) else (some false)) else (some false)) else (some false))) = some r := H
      have A33 := Aside0.mk A330
      clear A330
      by_cases c34 : t143 = true
      ·subst c34
       have H1 : ((ip_In.f a0_4 8).bind fun t144 => (if t144 = true then (if a0_5 ≥ 0 then (if t140 = true then (if x5_2 = true then (if x6_24 = true then (if a0_5 < 32 then (if (a0_7.size : Int) ≤ 512 then ((conf_May.f a0_8 l0_9).bind fun t145 => (some t145)) else (some false)) else (some false)) else (some false)) else (some false)) else (some false)) else (if t140 = true then (if x5_2 = true then (if x6_24 = true then (some false) else (some false)) else (some false)) else (some false))) else (if t140 = true then (if x5_2 = true then (if x6_24 = true then (some false) else (some false)) else (some false)) else (some false)))) = some r := by rw [if_pos rfl] at H; exact H
       clear H
       have H := H1
       clear H1
       replace H := Option.bind_eq_some_iff.mp H
       obtain ⟨t144, A350, H⟩ := H
       replace H : (if t144 = true then (if a0_5 ≥ 0 then (if t140 = true then (if x5_2 = true then (if x6_24 = true then (if a0_5 < 32 then (if (a0_7.size : Int) ≤ 512 then ((conf_May.f a0_8 l0_9).bind fun t145 => (some t145)) else (some false)) else (some false)) else (some false)) else (some false)) else (some false)) else (if t140 = true then (if x5_2 = true then (if x6_24 = true then (some false) else (some false)) else (some false)) else (some false))) else (if t140 = true then (if x5_2 = true then (if x6_24 = true then (some false) else (some false)) else (some false)) else (some false))) = some r := H
       have A35 := Aside0.mk A350
       clear A350
       by_cases c36 : t144 = true
       ·subst c36
        have H1 : (if a0_5 ≥ 0 then (if t140 = true then (if x5_2 = true then (if x6_24 = true then (if a0_5 < 32 then (if (a0_7.size : Int) ≤ 512 then ((conf_May.f a0_8 l0_9).bind fun t145 => (some t145)) else (some false)) else (some false)) else (some false)) else (some false)) else (some false)) else (if t140 = true then (if x5_2 = true then (if x6_24 = true then (some false) else (some false)) else (some false)) else (some false))) = some r := by rw [if_pos rfl] at H; exact H
        clear H
        have H := H1
        clear H1
        by_cases c37 : a0_5 ≥ 0
        ·rw [if_pos c37] at H
         have c37b0 : decide (0 ≤ a0_5) = true := decide_eq_true c37
         clear c37
         by_cases c38 : t140 = true
         ·subst c38
          have H1 : (if x5_2 = true then (if x6_24 = true then (if a0_5 < 32 then (if (a0_7.size : Int) ≤ 512 then ((conf_May.f a0_8 l0_9).bind fun t145 => (some t145)) else (some false)) else (some false)) else (some false)) else (some false)) = some r := by rw [if_pos rfl] at H; exact H
          clear H
          have H := H1
          clear H1
          by_cases c39 : x5_2 = true
          ·subst c39
           have H1 : (if x6_24 = true then (if a0_5 < 32 then (if (a0_7.size : Int) ≤ 512 then ((conf_May.f a0_8 l0_9).bind fun t145 => (some t145)) else (some false)) else (some false)) else (some false)) = some r := by rw [if_pos rfl] at H; exact H
           clear H
           have H := H1
           clear H1
           by_cases c40 : x6_24 = true
           ·subst c40
            have H1 : (if a0_5 < 32 then (if (a0_7.size : Int) ≤ 512 then ((conf_May.f a0_8 l0_9).bind fun t145 => (some t145)) else (some false)) else (some false)) = some r := by rw [if_pos rfl] at H; exact H
            clear H
            have H := H1
            clear H1
            by_cases c41 : a0_5 < 32
            ·rw [if_pos c41] at H
             have c41b0 : decide (a0_5 < 32) = true := decide_eq_true c41
             clear c41
             by_cases c42 : (a0_7.size : Int) ≤ 512
             ·rw [if_pos c42] at H
              have c42b0 : decide ((a0_7.size : Int) ≤ 512) = true := decide_eq_true c42
              have c42b1 : decide (a0_7.size ≤ 512) = true := decide_eq_true (by omega)
              clear c42
              replace H := Option.bind_eq_some_iff.mp H
              obtain ⟨t145, A430, H⟩ := H
              replace H : (some t145) = some r := H
              have A43 := Aside0.mk A430
              clear A430
              obtain rfl := Option.some.inj H
              have hnb44 := N0.out
              have hnc44 := N1.out
              have hcz45_0 : wc.cell? ⟨g0, 0, none⟩ = some (.int .i64 a0_0) := (blk_cell K0.out 0).trans rfl
              have hcz45_1 : wc.cell? ⟨g0, 1, none⟩ = some (.int .i64 a0_1) := (blk_cell K0.out 1).trans rfl
              have hcz45_2 : wc.cell? ⟨g0, 2, none⟩ = some (.int .i64 a0_2) := (blk_cell K0.out 2).trans rfl
              have hcz45_3 : wc.cell? ⟨g0, 3, none⟩ = some (.int .i64 a0_3) := (blk_cell K0.out 3).trans rfl
              have hcz45_4 : wc.cell? ⟨g0, 4, none⟩ = some (.int .i64 a0_4) := (blk_cell K0.out 4).trans rfl
              have hcz45_5 : wc.cell? ⟨g0, 5, none⟩ = some (.int .i64 a0_5) := (blk_cell K0.out 5).trans rfl
              have hcz45_6 : wc.cell? ⟨g0, 6, none⟩ = some (.bool a0_6) := (blk_cell K0.out 6).trans rfl
              have hcz45_7 : wc.cell? ⟨g0, 7, none⟩ = some (.string a0_7) := (blk_cell K0.out 7).trans rfl
              have hcz45_8 : wc.cell? ⟨g0, 8, none⟩ = some (.int .i64 a0_8) := (blk_cell K0.out 8).trans rfl
              have hcz45_9 : wc.cell? ⟨g0, 9, none⟩ = some (.slice A0_9 l0_9.length c0_9) := (blk_cell K0.out 9).trans rfl
              have hfz45_0 := blk_frozen K0.out 0
              have hfz45_1 := blk_frozen K0.out 1
              have hfz45_2 := blk_frozen K0.out 2
              have hfz45_3 := blk_frozen K0.out 3
              have hfz45_4 := blk_frozen K0.out 4
              have hfz45_5 := blk_frozen K0.out 5
              have hfz45_6 := blk_frozen K0.out 6
              have hfz45_7 := blk_frozen K0.out 7
              have hfz45_8 := blk_frozen K0.out 8
              have hfz45_9 := blk_frozen K0.out 9
              go_wp2_with (first | ((with_reducible refine gate_callee (f := 31) rfl ?_); refine goesL_ (some 61) rfl rfl Tryd.func31 (by kernel_rfl) rfl #[.int .i64 a0_2, .int .i64 8] rfl (by (try simp only [List.map_toArray, List.map_cons, List.map_nil]); first | done | rfl | (simp only [List.length_drop, List.length_take]; rfl)) ?_; (with_reducible refine (ip_In.calls a0_2 8 true _ A31.out).mono ?_); rintro e w' ⟨rfl, ⟨nd, rfl⟩⟩; refine ⟨_, rfl, ?_⟩) | (go_at_call 31; (with_reducible refine (ip_In.calls a0_3 8 true _ A33.out).mono ?_); rintro e w' ⟨rfl, ⟨nd, rfl⟩⟩) | (go_at_call 31; (with_reducible refine (ip_In.calls a0_4 8 true _ A35.out).mono ?_); rintro e w' ⟨rfl, ⟨nd, rfl⟩⟩) | (go_at_call 32; (with_reducible refine (conf_May.calls a0_8 _ _ l0_9 t145 _ ?side1 ?side2 A43.out).mono ?_); (case side1 => repeat (first | exact (Kd.C_below HR0_9.out (by repeat (first | (with_reducible first | exact HB.out | apply below_alloc | apply pw_below_drewN | apply below_drew1 | refine below_set ?_ E0.out | refine below_set ?_ E1.out) | exact HB.out))) | (with_reducible refine Kd.C_alloc ?_ _) | (with_reducible refine Kd.C_drewN ?_ _) | (with_reducible refine Kd.C_drew ?_))); (case side2 => exact HC0_9.out); rintro e w46 ⟨rfl, hb⟩; have n0_ := Aside0.mk (Kd.V_below (by (with_reducible repeat (first | apply Kd.V_alloc | apply Kd.V_drewN | apply Kd.V_drew)); exact HO_142009.out) hb); have n1_ := Aside0.mk (blk_below (g := g0) (o := .cells #[.int .i64 a0_0, .int .i64 a0_1, .int .i64 a0_2, .int .i64 a0_3, .int .i64 a0_4, .int .i64 a0_5, .bool a0_6, .string a0_7, .int .i64 a0_8, .slice A0_9 l0_9.length c0_9] 40 (0, 0)) (by (with_reducible repeat (first | refine blk_drewN ?_ _ | refine blk_drew ?_ | refine blk_alloc ?_ _)); exact K0.out) hb); have n2_ := Aside0.mk (blk_below (g := g1) (o := .cells #[.int .i64 t128, .int .i64 t129, .int .i64 t130, .int .i64 t131, .int .i64 t132, .int .i64 t133, .bool t134, .string t135, .int .i64 t136, .slice Ao10 t137.length co10] 40 (0, 0)) (by (with_reducible repeat (first | refine blk_drewN ?_ _ | refine blk_drew ?_ | refine blk_alloc ?_ _)); exact K1.out) hb); have n3_ := Aside0.mk (below_step (by repeat (first | (with_reducible first | exact HB.out | apply below_alloc | apply pw_below_drewN | apply below_drew1 | refine below_set ?_ E0.out | refine below_set ?_ E1.out) | exact HB.out)) hb); clear HO_142009; clear K0; clear K1; clear HB; have HO_142009 := n0_; have K0 := n1_; have K1 := n2_; have HB := n3_; clear n0_ n1_ n2_ n3_; (try clear hb); (try clear hb2); (try clear hk); (try clear hi)))
              go_ret
              exact ⟨by first | rfl | (simp [errW_none, errW_some] <;> rfl) | (simp [*, errW_none, errW_some] <;> rfl), by repeat (first | (with_reducible first | exact HB.out | apply below_alloc | apply pw_below_drewN | apply below_drew1 | refine below_set ?_ E0.out | refine below_set ?_ E1.out) | exact HB.out)⟩
             ·rw [if_neg c42] at H
              have c42b0 : decide ((a0_7.size : Int) ≤ 512) = false := decide_eq_false c42
              have c42b1 : decide (a0_7.size ≤ 512) = false := decide_eq_false (by omega)
              clear c42
              obtain rfl := Option.some.inj H
              have hnb47 := N0.out
              have hnc47 := N1.out
              have hcz48_0 : wc.cell? ⟨g0, 0, none⟩ = some (.int .i64 a0_0) := (blk_cell K0.out 0).trans rfl
              have hcz48_1 : wc.cell? ⟨g0, 1, none⟩ = some (.int .i64 a0_1) := (blk_cell K0.out 1).trans rfl
              have hcz48_2 : wc.cell? ⟨g0, 2, none⟩ = some (.int .i64 a0_2) := (blk_cell K0.out 2).trans rfl
              have hcz48_3 : wc.cell? ⟨g0, 3, none⟩ = some (.int .i64 a0_3) := (blk_cell K0.out 3).trans rfl
              have hcz48_4 : wc.cell? ⟨g0, 4, none⟩ = some (.int .i64 a0_4) := (blk_cell K0.out 4).trans rfl
              have hcz48_5 : wc.cell? ⟨g0, 5, none⟩ = some (.int .i64 a0_5) := (blk_cell K0.out 5).trans rfl
              have hcz48_6 : wc.cell? ⟨g0, 6, none⟩ = some (.bool a0_6) := (blk_cell K0.out 6).trans rfl
              have hcz48_7 : wc.cell? ⟨g0, 7, none⟩ = some (.string a0_7) := (blk_cell K0.out 7).trans rfl
              have hcz48_8 : wc.cell? ⟨g0, 8, none⟩ = some (.int .i64 a0_8) := (blk_cell K0.out 8).trans rfl
              have hcz48_9 : wc.cell? ⟨g0, 9, none⟩ = some (.slice A0_9 l0_9.length c0_9) := (blk_cell K0.out 9).trans rfl
              have hfz48_0 := blk_frozen K0.out 0
              have hfz48_1 := blk_frozen K0.out 1
              have hfz48_2 := blk_frozen K0.out 2
              have hfz48_3 := blk_frozen K0.out 3
              have hfz48_4 := blk_frozen K0.out 4
              have hfz48_5 := blk_frozen K0.out 5
              have hfz48_6 := blk_frozen K0.out 6
              have hfz48_7 := blk_frozen K0.out 7
              have hfz48_8 := blk_frozen K0.out 8
              have hfz48_9 := blk_frozen K0.out 9
              go_wp2_with (first | ((with_reducible refine gate_callee (f := 31) rfl ?_); refine goesL_ (some 61) rfl rfl Tryd.func31 (by kernel_rfl) rfl #[.int .i64 a0_2, .int .i64 8] rfl (by (try simp only [List.map_toArray, List.map_cons, List.map_nil]); first | done | rfl | (simp only [List.length_drop, List.length_take]; rfl)) ?_; (with_reducible refine (ip_In.calls a0_2 8 true _ A31.out).mono ?_); rintro e w' ⟨rfl, ⟨nd, rfl⟩⟩; refine ⟨_, rfl, ?_⟩) | (go_at_call 31; (with_reducible refine (ip_In.calls a0_3 8 true _ A33.out).mono ?_); rintro e w' ⟨rfl, ⟨nd, rfl⟩⟩) | (go_at_call 31; (with_reducible refine (ip_In.calls a0_4 8 true _ A35.out).mono ?_); rintro e w' ⟨rfl, ⟨nd, rfl⟩⟩))
              go_ret
              exact ⟨by first | rfl | (simp [errW_none, errW_some] <;> rfl) | (simp [*, errW_none, errW_some] <;> rfl), by repeat (first | (with_reducible first | exact HB.out | apply below_alloc | apply pw_below_drewN | apply below_drew1 | refine below_set ?_ E0.out | refine below_set ?_ E1.out) | exact HB.out)⟩
            ·rw [if_neg c41] at H
             have c41b0 : decide (a0_5 < 32) = false := decide_eq_false c41
             clear c41
             obtain rfl := Option.some.inj H
             have hnb49 := N0.out
             have hnc49 := N1.out
             have hcz50_0 : wc.cell? ⟨g0, 0, none⟩ = some (.int .i64 a0_0) := (blk_cell K0.out 0).trans rfl
             have hcz50_1 : wc.cell? ⟨g0, 1, none⟩ = some (.int .i64 a0_1) := (blk_cell K0.out 1).trans rfl
             have hcz50_2 : wc.cell? ⟨g0, 2, none⟩ = some (.int .i64 a0_2) := (blk_cell K0.out 2).trans rfl
             have hcz50_3 : wc.cell? ⟨g0, 3, none⟩ = some (.int .i64 a0_3) := (blk_cell K0.out 3).trans rfl
             have hcz50_4 : wc.cell? ⟨g0, 4, none⟩ = some (.int .i64 a0_4) := (blk_cell K0.out 4).trans rfl
             have hcz50_5 : wc.cell? ⟨g0, 5, none⟩ = some (.int .i64 a0_5) := (blk_cell K0.out 5).trans rfl
             have hcz50_6 : wc.cell? ⟨g0, 6, none⟩ = some (.bool a0_6) := (blk_cell K0.out 6).trans rfl
             have hcz50_7 : wc.cell? ⟨g0, 7, none⟩ = some (.string a0_7) := (blk_cell K0.out 7).trans rfl
             have hcz50_8 : wc.cell? ⟨g0, 8, none⟩ = some (.int .i64 a0_8) := (blk_cell K0.out 8).trans rfl
             have hcz50_9 : wc.cell? ⟨g0, 9, none⟩ = some (.slice A0_9 l0_9.length c0_9) := (blk_cell K0.out 9).trans rfl
             have hfz50_0 := blk_frozen K0.out 0
             have hfz50_1 := blk_frozen K0.out 1
             have hfz50_2 := blk_frozen K0.out 2
             have hfz50_3 := blk_frozen K0.out 3
             have hfz50_4 := blk_frozen K0.out 4
             have hfz50_5 := blk_frozen K0.out 5
             have hfz50_6 := blk_frozen K0.out 6
             have hfz50_7 := blk_frozen K0.out 7
             have hfz50_8 := blk_frozen K0.out 8
             have hfz50_9 := blk_frozen K0.out 9
             go_wp2_with (first | ((with_reducible refine gate_callee (f := 31) rfl ?_); refine goesL_ (some 61) rfl rfl Tryd.func31 (by kernel_rfl) rfl #[.int .i64 a0_2, .int .i64 8] rfl (by (try simp only [List.map_toArray, List.map_cons, List.map_nil]); first | done | rfl | (simp only [List.length_drop, List.length_take]; rfl)) ?_; (with_reducible refine (ip_In.calls a0_2 8 true _ A31.out).mono ?_); rintro e w' ⟨rfl, ⟨nd, rfl⟩⟩; refine ⟨_, rfl, ?_⟩) | (go_at_call 31; (with_reducible refine (ip_In.calls a0_3 8 true _ A33.out).mono ?_); rintro e w' ⟨rfl, ⟨nd, rfl⟩⟩) | (go_at_call 31; (with_reducible refine (ip_In.calls a0_4 8 true _ A35.out).mono ?_); rintro e w' ⟨rfl, ⟨nd, rfl⟩⟩))
             go_ret
             exact ⟨by first | rfl | (simp [errW_none, errW_some] <;> rfl) | (simp [*, errW_none, errW_some] <;> rfl), by repeat (first | (with_reducible first | exact HB.out | apply below_alloc | apply pw_below_drewN | apply below_drew1 | refine below_set ?_ E0.out | refine below_set ?_ E1.out) | exact HB.out)⟩
           ·replace c40 := Bool.eq_false_iff.mpr c40
            subst c40
            have H1 : (some false) = some r := by rw [if_neg (show ¬ (false = true) by decide)] at H; exact H
            clear H
            have H := H1
            clear H1
            obtain rfl := Option.some.inj H
            have hnb51 := N0.out
            have hnc51 := N1.out
            have hcz52_0 : wc.cell? ⟨g0, 0, none⟩ = some (.int .i64 a0_0) := (blk_cell K0.out 0).trans rfl
            have hcz52_1 : wc.cell? ⟨g0, 1, none⟩ = some (.int .i64 a0_1) := (blk_cell K0.out 1).trans rfl
            have hcz52_2 : wc.cell? ⟨g0, 2, none⟩ = some (.int .i64 a0_2) := (blk_cell K0.out 2).trans rfl
            have hcz52_3 : wc.cell? ⟨g0, 3, none⟩ = some (.int .i64 a0_3) := (blk_cell K0.out 3).trans rfl
            have hcz52_4 : wc.cell? ⟨g0, 4, none⟩ = some (.int .i64 a0_4) := (blk_cell K0.out 4).trans rfl
            have hcz52_5 : wc.cell? ⟨g0, 5, none⟩ = some (.int .i64 a0_5) := (blk_cell K0.out 5).trans rfl
            have hcz52_6 : wc.cell? ⟨g0, 6, none⟩ = some (.bool a0_6) := (blk_cell K0.out 6).trans rfl
            have hcz52_7 : wc.cell? ⟨g0, 7, none⟩ = some (.string a0_7) := (blk_cell K0.out 7).trans rfl
            have hcz52_8 : wc.cell? ⟨g0, 8, none⟩ = some (.int .i64 a0_8) := (blk_cell K0.out 8).trans rfl
            have hcz52_9 : wc.cell? ⟨g0, 9, none⟩ = some (.slice A0_9 l0_9.length c0_9) := (blk_cell K0.out 9).trans rfl
            have hfz52_0 := blk_frozen K0.out 0
            have hfz52_1 := blk_frozen K0.out 1
            have hfz52_2 := blk_frozen K0.out 2
            have hfz52_3 := blk_frozen K0.out 3
            have hfz52_4 := blk_frozen K0.out 4
            have hfz52_5 := blk_frozen K0.out 5
            have hfz52_6 := blk_frozen K0.out 6
            have hfz52_7 := blk_frozen K0.out 7
            have hfz52_8 := blk_frozen K0.out 8
            have hfz52_9 := blk_frozen K0.out 9
            go_wp2_with (first | ((with_reducible refine gate_callee (f := 31) rfl ?_); refine goesL_ (some 61) rfl rfl Tryd.func31 (by kernel_rfl) rfl #[.int .i64 a0_2, .int .i64 8] rfl (by (try simp only [List.map_toArray, List.map_cons, List.map_nil]); first | done | rfl | (simp only [List.length_drop, List.length_take]; rfl)) ?_; (with_reducible refine (ip_In.calls a0_2 8 true _ A31.out).mono ?_); rintro e w' ⟨rfl, ⟨nd, rfl⟩⟩; refine ⟨_, rfl, ?_⟩) | (go_at_call 31; (with_reducible refine (ip_In.calls a0_3 8 true _ A33.out).mono ?_); rintro e w' ⟨rfl, ⟨nd, rfl⟩⟩) | (go_at_call 31; (with_reducible refine (ip_In.calls a0_4 8 true _ A35.out).mono ?_); rintro e w' ⟨rfl, ⟨nd, rfl⟩⟩))
            go_ret
            exact ⟨by first | rfl | (simp [errW_none, errW_some] <;> rfl) | (simp [*, errW_none, errW_some] <;> rfl), by repeat (first | (with_reducible first | exact HB.out | apply below_alloc | apply pw_below_drewN | apply below_drew1 | refine below_set ?_ E0.out | refine below_set ?_ E1.out) | exact HB.out)⟩
          ·replace c39 := Bool.eq_false_iff.mpr c39
           subst c39
           have H1 : (some false) = some r := by rw [if_neg (show ¬ (false = true) by decide)] at H; exact H
           clear H
           have H := H1
           clear H1
           obtain rfl := Option.some.inj H
           have hnb53 := N0.out
           have hnc53 := N1.out
           have hcz54_0 : wc.cell? ⟨g0, 0, none⟩ = some (.int .i64 a0_0) := (blk_cell K0.out 0).trans rfl
           have hcz54_1 : wc.cell? ⟨g0, 1, none⟩ = some (.int .i64 a0_1) := (blk_cell K0.out 1).trans rfl
           have hcz54_2 : wc.cell? ⟨g0, 2, none⟩ = some (.int .i64 a0_2) := (blk_cell K0.out 2).trans rfl
           have hcz54_3 : wc.cell? ⟨g0, 3, none⟩ = some (.int .i64 a0_3) := (blk_cell K0.out 3).trans rfl
           have hcz54_4 : wc.cell? ⟨g0, 4, none⟩ = some (.int .i64 a0_4) := (blk_cell K0.out 4).trans rfl
           have hcz54_5 : wc.cell? ⟨g0, 5, none⟩ = some (.int .i64 a0_5) := (blk_cell K0.out 5).trans rfl
           have hcz54_6 : wc.cell? ⟨g0, 6, none⟩ = some (.bool a0_6) := (blk_cell K0.out 6).trans rfl
           have hcz54_7 : wc.cell? ⟨g0, 7, none⟩ = some (.string a0_7) := (blk_cell K0.out 7).trans rfl
           have hcz54_8 : wc.cell? ⟨g0, 8, none⟩ = some (.int .i64 a0_8) := (blk_cell K0.out 8).trans rfl
           have hcz54_9 : wc.cell? ⟨g0, 9, none⟩ = some (.slice A0_9 l0_9.length c0_9) := (blk_cell K0.out 9).trans rfl
           have hfz54_0 := blk_frozen K0.out 0
           have hfz54_1 := blk_frozen K0.out 1
           have hfz54_2 := blk_frozen K0.out 2
           have hfz54_3 := blk_frozen K0.out 3
           have hfz54_4 := blk_frozen K0.out 4
           have hfz54_5 := blk_frozen K0.out 5
           have hfz54_6 := blk_frozen K0.out 6
           have hfz54_7 := blk_frozen K0.out 7
           have hfz54_8 := blk_frozen K0.out 8
           have hfz54_9 := blk_frozen K0.out 9
           go_wp2_with (first | ((with_reducible refine gate_callee (f := 31) rfl ?_); refine goesL_ (some 61) rfl rfl Tryd.func31 (by kernel_rfl) rfl #[.int .i64 a0_2, .int .i64 8] rfl (by (try simp only [List.map_toArray, List.map_cons, List.map_nil]); first | done | rfl | (simp only [List.length_drop, List.length_take]; rfl)) ?_; (with_reducible refine (ip_In.calls a0_2 8 true _ A31.out).mono ?_); rintro e w' ⟨rfl, ⟨nd, rfl⟩⟩; refine ⟨_, rfl, ?_⟩) | (go_at_call 31; (with_reducible refine (ip_In.calls a0_3 8 true _ A33.out).mono ?_); rintro e w' ⟨rfl, ⟨nd, rfl⟩⟩) | (go_at_call 31; (with_reducible refine (ip_In.calls a0_4 8 true _ A35.out).mono ?_); rintro e w' ⟨rfl, ⟨nd, rfl⟩⟩))
           go_ret
           exact ⟨by first | rfl | (simp [errW_none, errW_some] <;> rfl) | (simp [*, errW_none, errW_some] <;> rfl), by repeat (first | (with_reducible first | exact HB.out | apply below_alloc | apply pw_below_drewN | apply below_drew1 | refine below_set ?_ E0.out | refine below_set ?_ E1.out) | exact HB.out)⟩
         ·replace c38 := Bool.eq_false_iff.mpr c38
          subst c38
          have H1 : (some false) = some r := by rw [if_neg (show ¬ (false = true) by decide)] at H; exact H
          clear H
          have H := H1
          clear H1
          obtain rfl := Option.some.inj H
          have hnb55 := N0.out
          have hnc55 := N1.out
          have hcz56_0 : wc.cell? ⟨g0, 0, none⟩ = some (.int .i64 a0_0) := (blk_cell K0.out 0).trans rfl
          have hcz56_1 : wc.cell? ⟨g0, 1, none⟩ = some (.int .i64 a0_1) := (blk_cell K0.out 1).trans rfl
          have hcz56_2 : wc.cell? ⟨g0, 2, none⟩ = some (.int .i64 a0_2) := (blk_cell K0.out 2).trans rfl
          have hcz56_3 : wc.cell? ⟨g0, 3, none⟩ = some (.int .i64 a0_3) := (blk_cell K0.out 3).trans rfl
          have hcz56_4 : wc.cell? ⟨g0, 4, none⟩ = some (.int .i64 a0_4) := (blk_cell K0.out 4).trans rfl
          have hcz56_5 : wc.cell? ⟨g0, 5, none⟩ = some (.int .i64 a0_5) := (blk_cell K0.out 5).trans rfl
          have hcz56_6 : wc.cell? ⟨g0, 6, none⟩ = some (.bool a0_6) := (blk_cell K0.out 6).trans rfl
          have hcz56_7 : wc.cell? ⟨g0, 7, none⟩ = some (.string a0_7) := (blk_cell K0.out 7).trans rfl
          have hcz56_8 : wc.cell? ⟨g0, 8, none⟩ = some (.int .i64 a0_8) := (blk_cell K0.out 8).trans rfl
          have hcz56_9 : wc.cell? ⟨g0, 9, none⟩ = some (.slice A0_9 l0_9.length c0_9) := (blk_cell K0.out 9).trans rfl
          have hfz56_0 := blk_frozen K0.out 0
          have hfz56_1 := blk_frozen K0.out 1
          have hfz56_2 := blk_frozen K0.out 2
          have hfz56_3 := blk_frozen K0.out 3
          have hfz56_4 := blk_frozen K0.out 4
          have hfz56_5 := blk_frozen K0.out 5
          have hfz56_6 := blk_frozen K0.out 6
          have hfz56_7 := blk_frozen K0.out 7
          have hfz56_8 := blk_frozen K0.out 8
          have hfz56_9 := blk_frozen K0.out 9
          go_wp2_with (first | ((with_reducible refine gate_callee (f := 31) rfl ?_); refine goesL_ (some 61) rfl rfl Tryd.func31 (by kernel_rfl) rfl #[.int .i64 a0_2, .int .i64 8] rfl (by (try simp only [List.map_toArray, List.map_cons, List.map_nil]); first | done | rfl | (simp only [List.length_drop, List.length_take]; rfl)) ?_; (with_reducible refine (ip_In.calls a0_2 8 true _ A31.out).mono ?_); rintro e w' ⟨rfl, ⟨nd, rfl⟩⟩; refine ⟨_, rfl, ?_⟩) | (go_at_call 31; (with_reducible refine (ip_In.calls a0_3 8 true _ A33.out).mono ?_); rintro e w' ⟨rfl, ⟨nd, rfl⟩⟩) | (go_at_call 31; (with_reducible refine (ip_In.calls a0_4 8 true _ A35.out).mono ?_); rintro e w' ⟨rfl, ⟨nd, rfl⟩⟩))
          go_ret
          exact ⟨by first | rfl | (simp [errW_none, errW_some] <;> rfl) | (simp [*, errW_none, errW_some] <;> rfl), by repeat (first | (with_reducible first | exact HB.out | apply below_alloc | apply pw_below_drewN | apply below_drew1 | refine below_set ?_ E0.out | refine below_set ?_ E1.out) | exact HB.out)⟩
        ·rw [if_neg c37] at H
         have c37b0 : decide (0 ≤ a0_5) = false := decide_eq_false c37
         clear c37
         by_cases c57 : t140 = true
         ·subst c57
          have H1 : (if x5_2 = true then (if x6_24 = true then (some false) else (some false)) else (some false)) = some r := by rw [if_pos rfl] at H; exact H
          clear H
          have H := H1
          clear H1
          by_cases c58 : x5_2 = true
          ·subst c58
           have H1 : (if x6_24 = true then (some false) else (some false)) = some r := by rw [if_pos rfl] at H; exact H
           clear H
           have H := H1
           clear H1
           by_cases c59 : x6_24 = true
           ·subst c59
            have H1 : (some false) = some r := by rw [if_pos rfl] at H; exact H
            clear H
            have H := H1
            clear H1
            obtain rfl := Option.some.inj H
            have hnb60 := N0.out
            have hnc60 := N1.out
            have hcz61_0 : wc.cell? ⟨g0, 0, none⟩ = some (.int .i64 a0_0) := (blk_cell K0.out 0).trans rfl
            have hcz61_1 : wc.cell? ⟨g0, 1, none⟩ = some (.int .i64 a0_1) := (blk_cell K0.out 1).trans rfl
            have hcz61_2 : wc.cell? ⟨g0, 2, none⟩ = some (.int .i64 a0_2) := (blk_cell K0.out 2).trans rfl
            have hcz61_3 : wc.cell? ⟨g0, 3, none⟩ = some (.int .i64 a0_3) := (blk_cell K0.out 3).trans rfl
            have hcz61_4 : wc.cell? ⟨g0, 4, none⟩ = some (.int .i64 a0_4) := (blk_cell K0.out 4).trans rfl
            have hcz61_5 : wc.cell? ⟨g0, 5, none⟩ = some (.int .i64 a0_5) := (blk_cell K0.out 5).trans rfl
            have hcz61_6 : wc.cell? ⟨g0, 6, none⟩ = some (.bool a0_6) := (blk_cell K0.out 6).trans rfl
            have hcz61_7 : wc.cell? ⟨g0, 7, none⟩ = some (.string a0_7) := (blk_cell K0.out 7).trans rfl
            have hcz61_8 : wc.cell? ⟨g0, 8, none⟩ = some (.int .i64 a0_8) := (blk_cell K0.out 8).trans rfl
            have hcz61_9 : wc.cell? ⟨g0, 9, none⟩ = some (.slice A0_9 l0_9.length c0_9) := (blk_cell K0.out 9).trans rfl
            have hfz61_0 := blk_frozen K0.out 0
            have hfz61_1 := blk_frozen K0.out 1
            have hfz61_2 := blk_frozen K0.out 2
            have hfz61_3 := blk_frozen K0.out 3
            have hfz61_4 := blk_frozen K0.out 4
            have hfz61_5 := blk_frozen K0.out 5
            have hfz61_6 := blk_frozen K0.out 6
            have hfz61_7 := blk_frozen K0.out 7
            have hfz61_8 := blk_frozen K0.out 8
            have hfz61_9 := blk_frozen K0.out 9
            go_wp2_with (first | ((with_reducible refine gate_callee (f := 31) rfl ?_); refine goesL_ (some 61) rfl rfl Tryd.func31 (by kernel_rfl) rfl #[.int .i64 a0_2, .int .i64 8] rfl (by (try simp only [List.map_toArray, List.map_cons, List.map_nil]); first | done | rfl | (simp only [List.length_drop, List.length_take]; rfl)) ?_; (with_reducible refine (ip_In.calls a0_2 8 true _ A31.out).mono ?_); rintro e w' ⟨rfl, ⟨nd, rfl⟩⟩; refine ⟨_, rfl, ?_⟩) | (go_at_call 31; (with_reducible refine (ip_In.calls a0_3 8 true _ A33.out).mono ?_); rintro e w' ⟨rfl, ⟨nd, rfl⟩⟩) | (go_at_call 31; (with_reducible refine (ip_In.calls a0_4 8 true _ A35.out).mono ?_); rintro e w' ⟨rfl, ⟨nd, rfl⟩⟩))
            go_ret
            exact ⟨by first | rfl | (simp [errW_none, errW_some] <;> rfl) | (simp [*, errW_none, errW_some] <;> rfl), by repeat (first | (with_reducible first | exact HB.out | apply below_alloc | apply pw_below_drewN | apply below_drew1 | refine below_set ?_ E0.out | refine below_set ?_ E1.out) | exact HB.out)⟩
           ·replace c59 := Bool.eq_false_iff.mpr c59
            subst c59
            have H1 : (some false) = some r := by rw [if_neg (show ¬ (false = true) by decide)] at H; exact H
            clear H
            have H := H1
            clear H1
            obtain rfl := Option.some.inj H
            have hnb62 := N0.out
            have hnc62 := N1.out
            have hcz63_0 : wc.cell? ⟨g0, 0, none⟩ = some (.int .i64 a0_0) := (blk_cell K0.out 0).trans rfl
            have hcz63_1 : wc.cell? ⟨g0, 1, none⟩ = some (.int .i64 a0_1) := (blk_cell K0.out 1).trans rfl
            have hcz63_2 : wc.cell? ⟨g0, 2, none⟩ = some (.int .i64 a0_2) := (blk_cell K0.out 2).trans rfl
            have hcz63_3 : wc.cell? ⟨g0, 3, none⟩ = some (.int .i64 a0_3) := (blk_cell K0.out 3).trans rfl
            have hcz63_4 : wc.cell? ⟨g0, 4, none⟩ = some (.int .i64 a0_4) := (blk_cell K0.out 4).trans rfl
            have hcz63_5 : wc.cell? ⟨g0, 5, none⟩ = some (.int .i64 a0_5) := (blk_cell K0.out 5).trans rfl
            have hcz63_6 : wc.cell? ⟨g0, 6, none⟩ = some (.bool a0_6) := (blk_cell K0.out 6).trans rfl
            have hcz63_7 : wc.cell? ⟨g0, 7, none⟩ = some (.string a0_7) := (blk_cell K0.out 7).trans rfl
            have hcz63_8 : wc.cell? ⟨g0, 8, none⟩ = some (.int .i64 a0_8) := (blk_cell K0.out 8).trans rfl
            have hcz63_9 : wc.cell? ⟨g0, 9, none⟩ = some (.slice A0_9 l0_9.length c0_9) := (blk_cell K0.out 9).trans rfl
            have hfz63_0 := blk_frozen K0.out 0
            have hfz63_1 := blk_frozen K0.out 1
            have hfz63_2 := blk_frozen K0.out 2
            have hfz63_3 := blk_frozen K0.out 3
            have hfz63_4 := blk_frozen K0.out 4
            have hfz63_5 := blk_frozen K0.out 5
            have hfz63_6 := blk_frozen K0.out 6
            have hfz63_7 := blk_frozen K0.out 7
            have hfz63_8 := blk_frozen K0.out 8
            have hfz63_9 := blk_frozen K0.out 9
            go_wp2_with (first | ((with_reducible refine gate_callee (f := 31) rfl ?_); refine goesL_ (some 61) rfl rfl Tryd.func31 (by kernel_rfl) rfl #[.int .i64 a0_2, .int .i64 8] rfl (by (try simp only [List.map_toArray, List.map_cons, List.map_nil]); first | done | rfl | (simp only [List.length_drop, List.length_take]; rfl)) ?_; (with_reducible refine (ip_In.calls a0_2 8 true _ A31.out).mono ?_); rintro e w' ⟨rfl, ⟨nd, rfl⟩⟩; refine ⟨_, rfl, ?_⟩) | (go_at_call 31; (with_reducible refine (ip_In.calls a0_3 8 true _ A33.out).mono ?_); rintro e w' ⟨rfl, ⟨nd, rfl⟩⟩) | (go_at_call 31; (with_reducible refine (ip_In.calls a0_4 8 true _ A35.out).mono ?_); rintro e w' ⟨rfl, ⟨nd, rfl⟩⟩))
            go_ret
            exact ⟨by first | rfl | (simp [errW_none, errW_some] <;> rfl) | (simp [*, errW_none, errW_some] <;> rfl), by repeat (first | (with_reducible first | exact HB.out | apply below_alloc | apply pw_below_drewN | apply below_drew1 | refine below_set ?_ E0.out | refine below_set ?_ E1.out) | exact HB.out)⟩
          ·replace c58 := Bool.eq_false_iff.mpr c58
           subst c58
           have H1 : (some false) = some r := by rw [if_neg (show ¬ (false = true) by decide)] at H; exact H
           clear H
           have H := H1
           clear H1
           obtain rfl := Option.some.inj H
           have hnb64 := N0.out
           have hnc64 := N1.out
           have hcz65_0 : wc.cell? ⟨g0, 0, none⟩ = some (.int .i64 a0_0) := (blk_cell K0.out 0).trans rfl
           have hcz65_1 : wc.cell? ⟨g0, 1, none⟩ = some (.int .i64 a0_1) := (blk_cell K0.out 1).trans rfl
           have hcz65_2 : wc.cell? ⟨g0, 2, none⟩ = some (.int .i64 a0_2) := (blk_cell K0.out 2).trans rfl
           have hcz65_3 : wc.cell? ⟨g0, 3, none⟩ = some (.int .i64 a0_3) := (blk_cell K0.out 3).trans rfl
           have hcz65_4 : wc.cell? ⟨g0, 4, none⟩ = some (.int .i64 a0_4) := (blk_cell K0.out 4).trans rfl
           have hcz65_5 : wc.cell? ⟨g0, 5, none⟩ = some (.int .i64 a0_5) := (blk_cell K0.out 5).trans rfl
           have hcz65_6 : wc.cell? ⟨g0, 6, none⟩ = some (.bool a0_6) := (blk_cell K0.out 6).trans rfl
           have hcz65_7 : wc.cell? ⟨g0, 7, none⟩ = some (.string a0_7) := (blk_cell K0.out 7).trans rfl
           have hcz65_8 : wc.cell? ⟨g0, 8, none⟩ = some (.int .i64 a0_8) := (blk_cell K0.out 8).trans rfl
           have hcz65_9 : wc.cell? ⟨g0, 9, none⟩ = some (.slice A0_9 l0_9.length c0_9) := (blk_cell K0.out 9).trans rfl
           have hfz65_0 := blk_frozen K0.out 0
           have hfz65_1 := blk_frozen K0.out 1
           have hfz65_2 := blk_frozen K0.out 2
           have hfz65_3 := blk_frozen K0.out 3
           have hfz65_4 := blk_frozen K0.out 4
           have hfz65_5 := blk_frozen K0.out 5
           have hfz65_6 := blk_frozen K0.out 6
           have hfz65_7 := blk_frozen K0.out 7
           have hfz65_8 := blk_frozen K0.out 8
           have hfz65_9 := blk_frozen K0.out 9
           go_wp2_with (first | ((with_reducible refine gate_callee (f := 31) rfl ?_); refine goesL_ (some 61) rfl rfl Tryd.func31 (by kernel_rfl) rfl #[.int .i64 a0_2, .int .i64 8] rfl (by (try simp only [List.map_toArray, List.map_cons, List.map_nil]); first | done | rfl | (simp only [List.length_drop, List.length_take]; rfl)) ?_; (with_reducible refine (ip_In.calls a0_2 8 true _ A31.out).mono ?_); rintro e w' ⟨rfl, ⟨nd, rfl⟩⟩; refine ⟨_, rfl, ?_⟩) | (go_at_call 31; (with_reducible refine (ip_In.calls a0_3 8 true _ A33.out).mono ?_); rintro e w' ⟨rfl, ⟨nd, rfl⟩⟩) | (go_at_call 31; (with_reducible refine (ip_In.calls a0_4 8 true _ A35.out).mono ?_); rintro e w' ⟨rfl, ⟨nd, rfl⟩⟩))
           go_ret
           exact ⟨by first | rfl | (simp [errW_none, errW_some] <;> rfl) | (simp [*, errW_none, errW_some] <;> rfl), by repeat (first | (with_reducible first | exact HB.out | apply below_alloc | apply pw_below_drewN | apply below_drew1 | refine below_set ?_ E0.out | refine below_set ?_ E1.out) | exact HB.out)⟩
         ·replace c57 := Bool.eq_false_iff.mpr c57
          subst c57
          have H1 : (some false) = some r := by rw [if_neg (show ¬ (false = true) by decide)] at H; exact H
          clear H
          have H := H1
          clear H1
          obtain rfl := Option.some.inj H
          have hnb66 := N0.out
          have hnc66 := N1.out
          have hcz67_0 : wc.cell? ⟨g0, 0, none⟩ = some (.int .i64 a0_0) := (blk_cell K0.out 0).trans rfl
          have hcz67_1 : wc.cell? ⟨g0, 1, none⟩ = some (.int .i64 a0_1) := (blk_cell K0.out 1).trans rfl
          have hcz67_2 : wc.cell? ⟨g0, 2, none⟩ = some (.int .i64 a0_2) := (blk_cell K0.out 2).trans rfl
          have hcz67_3 : wc.cell? ⟨g0, 3, none⟩ = some (.int .i64 a0_3) := (blk_cell K0.out 3).trans rfl
          have hcz67_4 : wc.cell? ⟨g0, 4, none⟩ = some (.int .i64 a0_4) := (blk_cell K0.out 4).trans rfl
          have hcz67_5 : wc.cell? ⟨g0, 5, none⟩ = some (.int .i64 a0_5) := (blk_cell K0.out 5).trans rfl
          have hcz67_6 : wc.cell? ⟨g0, 6, none⟩ = some (.bool a0_6) := (blk_cell K0.out 6).trans rfl
          have hcz67_7 : wc.cell? ⟨g0, 7, none⟩ = some (.string a0_7) := (blk_cell K0.out 7).trans rfl
          have hcz67_8 : wc.cell? ⟨g0, 8, none⟩ = some (.int .i64 a0_8) := (blk_cell K0.out 8).trans rfl
          have hcz67_9 : wc.cell? ⟨g0, 9, none⟩ = some (.slice A0_9 l0_9.length c0_9) := (blk_cell K0.out 9).trans rfl
          have hfz67_0 := blk_frozen K0.out 0
          have hfz67_1 := blk_frozen K0.out 1
          have hfz67_2 := blk_frozen K0.out 2
          have hfz67_3 := blk_frozen K0.out 3
          have hfz67_4 := blk_frozen K0.out 4
          have hfz67_5 := blk_frozen K0.out 5
          have hfz67_6 := blk_frozen K0.out 6
          have hfz67_7 := blk_frozen K0.out 7
          have hfz67_8 := blk_frozen K0.out 8
          have hfz67_9 := blk_frozen K0.out 9
          go_wp2_with (first | ((with_reducible refine gate_callee (f := 31) rfl ?_); refine goesL_ (some 61) rfl rfl Tryd.func31 (by kernel_rfl) rfl #[.int .i64 a0_2, .int .i64 8] rfl (by (try simp only [List.map_toArray, List.map_cons, List.map_nil]); first | done | rfl | (simp only [List.length_drop, List.length_take]; rfl)) ?_; (with_reducible refine (ip_In.calls a0_2 8 true _ A31.out).mono ?_); rintro e w' ⟨rfl, ⟨nd, rfl⟩⟩; refine ⟨_, rfl, ?_⟩) | (go_at_call 31; (with_reducible refine (ip_In.calls a0_3 8 true _ A33.out).mono ?_); rintro e w' ⟨rfl, ⟨nd, rfl⟩⟩) | (go_at_call 31; (with_reducible refine (ip_In.calls a0_4 8 true _ A35.out).mono ?_); rintro e w' ⟨rfl, ⟨nd, rfl⟩⟩))
          go_ret
          exact ⟨by first | rfl | (simp [errW_none, errW_some] <;> rfl) | (simp [*, errW_none, errW_some] <;> rfl), by repeat (first | (with_reducible first | exact HB.out | apply below_alloc | apply pw_below_drewN | apply below_drew1 | refine below_set ?_ E0.out | refine below_set ?_ E1.out) | exact HB.out)⟩
       ·replace c36 := Bool.eq_false_iff.mpr c36
        subst c36
        have H1 : (if t140 = true then (if x5_2 = true then (if x6_24 = true then (some false) else (some false)) else (some false)) else (some false)) = some r := by rw [if_neg (show ¬ (false = true) by decide)] at H; exact H
        clear H
        have H := H1
        clear H1
        by_cases c68 : t140 = true
        ·subst c68
         have H1 : (if x5_2 = true then (if x6_24 = true then (some false) else (some false)) else (some false)) = some r := by rw [if_pos rfl] at H; exact H
         clear H
         have H := H1
         clear H1
         by_cases c69 : x5_2 = true
         ·subst c69
          have H1 : (if x6_24 = true then (some false) else (some false)) = some r := by rw [if_pos rfl] at H; exact H
          clear H
          have H := H1
          clear H1
          by_cases c70 : x6_24 = true
          ·subst c70
           have H1 : (some false) = some r := by rw [if_pos rfl] at H; exact H
           clear H
           have H := H1
           clear H1
           obtain rfl := Option.some.inj H
           have hnb71 := N0.out
           have hnc71 := N1.out
           have hcz72_0 : wc.cell? ⟨g0, 0, none⟩ = some (.int .i64 a0_0) := (blk_cell K0.out 0).trans rfl
           have hcz72_1 : wc.cell? ⟨g0, 1, none⟩ = some (.int .i64 a0_1) := (blk_cell K0.out 1).trans rfl
           have hcz72_2 : wc.cell? ⟨g0, 2, none⟩ = some (.int .i64 a0_2) := (blk_cell K0.out 2).trans rfl
           have hcz72_3 : wc.cell? ⟨g0, 3, none⟩ = some (.int .i64 a0_3) := (blk_cell K0.out 3).trans rfl
           have hcz72_4 : wc.cell? ⟨g0, 4, none⟩ = some (.int .i64 a0_4) := (blk_cell K0.out 4).trans rfl
           have hcz72_5 : wc.cell? ⟨g0, 5, none⟩ = some (.int .i64 a0_5) := (blk_cell K0.out 5).trans rfl
           have hcz72_6 : wc.cell? ⟨g0, 6, none⟩ = some (.bool a0_6) := (blk_cell K0.out 6).trans rfl
           have hcz72_7 : wc.cell? ⟨g0, 7, none⟩ = some (.string a0_7) := (blk_cell K0.out 7).trans rfl
           have hcz72_8 : wc.cell? ⟨g0, 8, none⟩ = some (.int .i64 a0_8) := (blk_cell K0.out 8).trans rfl
           have hcz72_9 : wc.cell? ⟨g0, 9, none⟩ = some (.slice A0_9 l0_9.length c0_9) := (blk_cell K0.out 9).trans rfl
           have hfz72_0 := blk_frozen K0.out 0
           have hfz72_1 := blk_frozen K0.out 1
           have hfz72_2 := blk_frozen K0.out 2
           have hfz72_3 := blk_frozen K0.out 3
           have hfz72_4 := blk_frozen K0.out 4
           have hfz72_5 := blk_frozen K0.out 5
           have hfz72_6 := blk_frozen K0.out 6
           have hfz72_7 := blk_frozen K0.out 7
           have hfz72_8 := blk_frozen K0.out 8
           have hfz72_9 := blk_frozen K0.out 9
           go_wp2_with (first | ((with_reducible refine gate_callee (f := 31) rfl ?_); refine goesL_ (some 61) rfl rfl Tryd.func31 (by kernel_rfl) rfl #[.int .i64 a0_2, .int .i64 8] rfl (by (try simp only [List.map_toArray, List.map_cons, List.map_nil]); first | done | rfl | (simp only [List.length_drop, List.length_take]; rfl)) ?_; (with_reducible refine (ip_In.calls a0_2 8 true _ A31.out).mono ?_); rintro e w' ⟨rfl, ⟨nd, rfl⟩⟩; refine ⟨_, rfl, ?_⟩) | (go_at_call 31; (with_reducible refine (ip_In.calls a0_3 8 true _ A33.out).mono ?_); rintro e w' ⟨rfl, ⟨nd, rfl⟩⟩) | (go_at_call 31; (with_reducible refine (ip_In.calls a0_4 8 false _ A35.out).mono ?_); rintro e w' ⟨rfl, ⟨nd, rfl⟩⟩))
           go_ret
           exact ⟨by first | rfl | (simp [errW_none, errW_some] <;> rfl) | (simp [*, errW_none, errW_some] <;> rfl), by repeat (first | (with_reducible first | exact HB.out | apply below_alloc | apply pw_below_drewN | apply below_drew1 | refine below_set ?_ E0.out | refine below_set ?_ E1.out) | exact HB.out)⟩
          ·replace c70 := Bool.eq_false_iff.mpr c70
           subst c70
           have H1 : (some false) = some r := by rw [if_neg (show ¬ (false = true) by decide)] at H; exact H
           clear H
           have H := H1
           clear H1
           obtain rfl := Option.some.inj H
           have hnb73 := N0.out
           have hnc73 := N1.out
           have hcz74_0 : wc.cell? ⟨g0, 0, none⟩ = some (.int .i64 a0_0) := (blk_cell K0.out 0).trans rfl
           have hcz74_1 : wc.cell? ⟨g0, 1, none⟩ = some (.int .i64 a0_1) := (blk_cell K0.out 1).trans rfl
           have hcz74_2 : wc.cell? ⟨g0, 2, none⟩ = some (.int .i64 a0_2) := (blk_cell K0.out 2).trans rfl
           have hcz74_3 : wc.cell? ⟨g0, 3, none⟩ = some (.int .i64 a0_3) := (blk_cell K0.out 3).trans rfl
           have hcz74_4 : wc.cell? ⟨g0, 4, none⟩ = some (.int .i64 a0_4) := (blk_cell K0.out 4).trans rfl
           have hcz74_5 : wc.cell? ⟨g0, 5, none⟩ = some (.int .i64 a0_5) := (blk_cell K0.out 5).trans rfl
           have hcz74_6 : wc.cell? ⟨g0, 6, none⟩ = some (.bool a0_6) := (blk_cell K0.out 6).trans rfl
           have hcz74_7 : wc.cell? ⟨g0, 7, none⟩ = some (.string a0_7) := (blk_cell K0.out 7).trans rfl
           have hcz74_8 : wc.cell? ⟨g0, 8, none⟩ = some (.int .i64 a0_8) := (blk_cell K0.out 8).trans rfl
           have hcz74_9 : wc.cell? ⟨g0, 9, none⟩ = some (.slice A0_9 l0_9.length c0_9) := (blk_cell K0.out 9).trans rfl
           have hfz74_0 := blk_frozen K0.out 0
           have hfz74_1 := blk_frozen K0.out 1
           have hfz74_2 := blk_frozen K0.out 2
           have hfz74_3 := blk_frozen K0.out 3
           have hfz74_4 := blk_frozen K0.out 4
           have hfz74_5 := blk_frozen K0.out 5
           have hfz74_6 := blk_frozen K0.out 6
           have hfz74_7 := blk_frozen K0.out 7
           have hfz74_8 := blk_frozen K0.out 8
           have hfz74_9 := blk_frozen K0.out 9
           go_wp2_with (first | ((with_reducible refine gate_callee (f := 31) rfl ?_); refine goesL_ (some 61) rfl rfl Tryd.func31 (by kernel_rfl) rfl #[.int .i64 a0_2, .int .i64 8] rfl (by (try simp only [List.map_toArray, List.map_cons, List.map_nil]); first | done | rfl | (simp only [List.length_drop, List.length_take]; rfl)) ?_; (with_reducible refine (ip_In.calls a0_2 8 true _ A31.out).mono ?_); rintro e w' ⟨rfl, ⟨nd, rfl⟩⟩; refine ⟨_, rfl, ?_⟩) | (go_at_call 31; (with_reducible refine (ip_In.calls a0_3 8 true _ A33.out).mono ?_); rintro e w' ⟨rfl, ⟨nd, rfl⟩⟩) | (go_at_call 31; (with_reducible refine (ip_In.calls a0_4 8 false _ A35.out).mono ?_); rintro e w' ⟨rfl, ⟨nd, rfl⟩⟩))
           go_ret
           exact ⟨by first | rfl | (simp [errW_none, errW_some] <;> rfl) | (simp [*, errW_none, errW_some] <;> rfl), by repeat (first | (with_reducible first | exact HB.out | apply below_alloc | apply pw_below_drewN | apply below_drew1 | refine below_set ?_ E0.out | refine below_set ?_ E1.out) | exact HB.out)⟩
         ·replace c69 := Bool.eq_false_iff.mpr c69
          subst c69
          have H1 : (some false) = some r := by rw [if_neg (show ¬ (false = true) by decide)] at H; exact H
          clear H
          have H := H1
          clear H1
          obtain rfl := Option.some.inj H
          have hnb75 := N0.out
          have hnc75 := N1.out
          have hcz76_0 : wc.cell? ⟨g0, 0, none⟩ = some (.int .i64 a0_0) := (blk_cell K0.out 0).trans rfl
          have hcz76_1 : wc.cell? ⟨g0, 1, none⟩ = some (.int .i64 a0_1) := (blk_cell K0.out 1).trans rfl
          have hcz76_2 : wc.cell? ⟨g0, 2, none⟩ = some (.int .i64 a0_2) := (blk_cell K0.out 2).trans rfl
          have hcz76_3 : wc.cell? ⟨g0, 3, none⟩ = some (.int .i64 a0_3) := (blk_cell K0.out 3).trans rfl
          have hcz76_4 : wc.cell? ⟨g0, 4, none⟩ = some (.int .i64 a0_4) := (blk_cell K0.out 4).trans rfl
          have hcz76_5 : wc.cell? ⟨g0, 5, none⟩ = some (.int .i64 a0_5) := (blk_cell K0.out 5).trans rfl
          have hcz76_6 : wc.cell? ⟨g0, 6, none⟩ = some (.bool a0_6) := (blk_cell K0.out 6).trans rfl
          have hcz76_7 : wc.cell? ⟨g0, 7, none⟩ = some (.string a0_7) := (blk_cell K0.out 7).trans rfl
          have hcz76_8 : wc.cell? ⟨g0, 8, none⟩ = some (.int .i64 a0_8) := (blk_cell K0.out 8).trans rfl
          have hcz76_9 : wc.cell? ⟨g0, 9, none⟩ = some (.slice A0_9 l0_9.length c0_9) := (blk_cell K0.out 9).trans rfl
          have hfz76_0 := blk_frozen K0.out 0
          have hfz76_1 := blk_frozen K0.out 1
          have hfz76_2 := blk_frozen K0.out 2
          have hfz76_3 := blk_frozen K0.out 3
          have hfz76_4 := blk_frozen K0.out 4
          have hfz76_5 := blk_frozen K0.out 5
          have hfz76_6 := blk_frozen K0.out 6
          have hfz76_7 := blk_frozen K0.out 7
          have hfz76_8 := blk_frozen K0.out 8
          have hfz76_9 := blk_frozen K0.out 9
          go_wp2_with (first | ((with_reducible refine gate_callee (f := 31) rfl ?_); refine goesL_ (some 61) rfl rfl Tryd.func31 (by kernel_rfl) rfl #[.int .i64 a0_2, .int .i64 8] rfl (by (try simp only [List.map_toArray, List.map_cons, List.map_nil]); first | done | rfl | (simp only [List.length_drop, List.length_take]; rfl)) ?_; (with_reducible refine (ip_In.calls a0_2 8 true _ A31.out).mono ?_); rintro e w' ⟨rfl, ⟨nd, rfl⟩⟩; refine ⟨_, rfl, ?_⟩) | (go_at_call 31; (with_reducible refine (ip_In.calls a0_3 8 true _ A33.out).mono ?_); rintro e w' ⟨rfl, ⟨nd, rfl⟩⟩) | (go_at_call 31; (with_reducible refine (ip_In.calls a0_4 8 false _ A35.out).mono ?_); rintro e w' ⟨rfl, ⟨nd, rfl⟩⟩))
          go_ret
          exact ⟨by first | rfl | (simp [errW_none, errW_some] <;> rfl) | (simp [*, errW_none, errW_some] <;> rfl), by repeat (first | (with_reducible first | exact HB.out | apply below_alloc | apply pw_below_drewN | apply below_drew1 | refine below_set ?_ E0.out | refine below_set ?_ E1.out) | exact HB.out)⟩
        ·replace c68 := Bool.eq_false_iff.mpr c68
         subst c68
         have H1 : (some false) = some r := by rw [if_neg (show ¬ (false = true) by decide)] at H; exact H
         clear H
         have H := H1
         clear H1
         obtain rfl := Option.some.inj H
         have hnb77 := N0.out
         have hnc77 := N1.out
         have hcz78_0 : wc.cell? ⟨g0, 0, none⟩ = some (.int .i64 a0_0) := (blk_cell K0.out 0).trans rfl
         have hcz78_1 : wc.cell? ⟨g0, 1, none⟩ = some (.int .i64 a0_1) := (blk_cell K0.out 1).trans rfl
         have hcz78_2 : wc.cell? ⟨g0, 2, none⟩ = some (.int .i64 a0_2) := (blk_cell K0.out 2).trans rfl
         have hcz78_3 : wc.cell? ⟨g0, 3, none⟩ = some (.int .i64 a0_3) := (blk_cell K0.out 3).trans rfl
         have hcz78_4 : wc.cell? ⟨g0, 4, none⟩ = some (.int .i64 a0_4) := (blk_cell K0.out 4).trans rfl
         have hcz78_5 : wc.cell? ⟨g0, 5, none⟩ = some (.int .i64 a0_5) := (blk_cell K0.out 5).trans rfl
         have hcz78_6 : wc.cell? ⟨g0, 6, none⟩ = some (.bool a0_6) := (blk_cell K0.out 6).trans rfl
         have hcz78_7 : wc.cell? ⟨g0, 7, none⟩ = some (.string a0_7) := (blk_cell K0.out 7).trans rfl
         have hcz78_8 : wc.cell? ⟨g0, 8, none⟩ = some (.int .i64 a0_8) := (blk_cell K0.out 8).trans rfl
         have hcz78_9 : wc.cell? ⟨g0, 9, none⟩ = some (.slice A0_9 l0_9.length c0_9) := (blk_cell K0.out 9).trans rfl
         have hfz78_0 := blk_frozen K0.out 0
         have hfz78_1 := blk_frozen K0.out 1
         have hfz78_2 := blk_frozen K0.out 2
         have hfz78_3 := blk_frozen K0.out 3
         have hfz78_4 := blk_frozen K0.out 4
         have hfz78_5 := blk_frozen K0.out 5
         have hfz78_6 := blk_frozen K0.out 6
         have hfz78_7 := blk_frozen K0.out 7
         have hfz78_8 := blk_frozen K0.out 8
         have hfz78_9 := blk_frozen K0.out 9
         go_wp2_with (first | ((with_reducible refine gate_callee (f := 31) rfl ?_); refine goesL_ (some 61) rfl rfl Tryd.func31 (by kernel_rfl) rfl #[.int .i64 a0_2, .int .i64 8] rfl (by (try simp only [List.map_toArray, List.map_cons, List.map_nil]); first | done | rfl | (simp only [List.length_drop, List.length_take]; rfl)) ?_; (with_reducible refine (ip_In.calls a0_2 8 true _ A31.out).mono ?_); rintro e w' ⟨rfl, ⟨nd, rfl⟩⟩; refine ⟨_, rfl, ?_⟩) | (go_at_call 31; (with_reducible refine (ip_In.calls a0_3 8 true _ A33.out).mono ?_); rintro e w' ⟨rfl, ⟨nd, rfl⟩⟩) | (go_at_call 31; (with_reducible refine (ip_In.calls a0_4 8 false _ A35.out).mono ?_); rintro e w' ⟨rfl, ⟨nd, rfl⟩⟩))
         go_ret
         exact ⟨by first | rfl | (simp [errW_none, errW_some] <;> rfl) | (simp [*, errW_none, errW_some] <;> rfl), by repeat (first | (with_reducible first | exact HB.out | apply below_alloc | apply pw_below_drewN | apply below_drew1 | refine below_set ?_ E0.out | refine below_set ?_ E1.out) | exact HB.out)⟩
      ·replace c34 := Bool.eq_false_iff.mpr c34
       subst c34
       have H1 : (if t140 = true then (if x5_2 = true then (if x6_24 = true then (some false) else (some false)) else (some false)) else (some false)) = some r := by rw [if_neg (show ¬ (false = true) by decide)] at H; exact H
       clear H
       have H := H1
       clear H1
       by_cases c79 : t140 = true
       ·subst c79
        have H1 : (if x5_2 = true then (if x6_24 = true then (some false) else (some false)) else (some false)) = some r := by rw [if_pos rfl] at H; exact H
        clear H
        have H := H1
        clear H1
        by_cases c80 : x5_2 = true
        ·subst c80
         have H1 : (if x6_24 = true then (some false) else (some false)) = some r := by rw [if_pos rfl] at H; exact H
         clear H
         have H := H1
         clear H1
         by_cases c81 : x6_24 = true
         ·subst c81
          have H1 : (some false) = some r := by rw [if_pos rfl] at H; exact H
          clear H
          have H := H1
          clear H1
          obtain rfl := Option.some.inj H
          have hnb82 := N0.out
          have hnc82 := N1.out
          have hcz83_0 : wc.cell? ⟨g0, 0, none⟩ = some (.int .i64 a0_0) := (blk_cell K0.out 0).trans rfl
          have hcz83_1 : wc.cell? ⟨g0, 1, none⟩ = some (.int .i64 a0_1) := (blk_cell K0.out 1).trans rfl
          have hcz83_2 : wc.cell? ⟨g0, 2, none⟩ = some (.int .i64 a0_2) := (blk_cell K0.out 2).trans rfl
          have hcz83_3 : wc.cell? ⟨g0, 3, none⟩ = some (.int .i64 a0_3) := (blk_cell K0.out 3).trans rfl
          have hcz83_4 : wc.cell? ⟨g0, 4, none⟩ = some (.int .i64 a0_4) := (blk_cell K0.out 4).trans rfl
          have hcz83_5 : wc.cell? ⟨g0, 5, none⟩ = some (.int .i64 a0_5) := (blk_cell K0.out 5).trans rfl
          have hcz83_6 : wc.cell? ⟨g0, 6, none⟩ = some (.bool a0_6) := (blk_cell K0.out 6).trans rfl
          have hcz83_7 : wc.cell? ⟨g0, 7, none⟩ = some (.string a0_7) := (blk_cell K0.out 7).trans rfl
          have hcz83_8 : wc.cell? ⟨g0, 8, none⟩ = some (.int .i64 a0_8) := (blk_cell K0.out 8).trans rfl
          have hcz83_9 : wc.cell? ⟨g0, 9, none⟩ = some (.slice A0_9 l0_9.length c0_9) := (blk_cell K0.out 9).trans rfl
          have hfz83_0 := blk_frozen K0.out 0
          have hfz83_1 := blk_frozen K0.out 1
          have hfz83_2 := blk_frozen K0.out 2
          have hfz83_3 := blk_frozen K0.out 3
          have hfz83_4 := blk_frozen K0.out 4
          have hfz83_5 := blk_frozen K0.out 5
          have hfz83_6 := blk_frozen K0.out 6
          have hfz83_7 := blk_frozen K0.out 7
          have hfz83_8 := blk_frozen K0.out 8
          have hfz83_9 := blk_frozen K0.out 9
          go_wp2_with (first | ((with_reducible refine gate_callee (f := 31) rfl ?_); refine goesL_ (some 61) rfl rfl Tryd.func31 (by kernel_rfl) rfl #[.int .i64 a0_2, .int .i64 8] rfl (by (try simp only [List.map_toArray, List.map_cons, List.map_nil]); first | done | rfl | (simp only [List.length_drop, List.length_take]; rfl)) ?_; (with_reducible refine (ip_In.calls a0_2 8 true _ A31.out).mono ?_); rintro e w' ⟨rfl, ⟨nd, rfl⟩⟩; refine ⟨_, rfl, ?_⟩) | (go_at_call 31; (with_reducible refine (ip_In.calls a0_3 8 false _ A33.out).mono ?_); rintro e w' ⟨rfl, ⟨nd, rfl⟩⟩))
          go_ret
          exact ⟨by first | rfl | (simp [errW_none, errW_some] <;> rfl) | (simp [*, errW_none, errW_some] <;> rfl), by repeat (first | (with_reducible first | exact HB.out | apply below_alloc | apply pw_below_drewN | apply below_drew1 | refine below_set ?_ E0.out | refine below_set ?_ E1.out) | exact HB.out)⟩
         ·replace c81 := Bool.eq_false_iff.mpr c81
          subst c81
          have H1 : (some false) = some r := by rw [if_neg (show ¬ (false = true) by decide)] at H; exact H
          clear H
          have H := H1
          clear H1
          obtain rfl := Option.some.inj H
          have hnb84 := N0.out
          have hnc84 := N1.out
          have hcz85_0 : wc.cell? ⟨g0, 0, none⟩ = some (.int .i64 a0_0) := (blk_cell K0.out 0).trans rfl
          have hcz85_1 : wc.cell? ⟨g0, 1, none⟩ = some (.int .i64 a0_1) := (blk_cell K0.out 1).trans rfl
          have hcz85_2 : wc.cell? ⟨g0, 2, none⟩ = some (.int .i64 a0_2) := (blk_cell K0.out 2).trans rfl
          have hcz85_3 : wc.cell? ⟨g0, 3, none⟩ = some (.int .i64 a0_3) := (blk_cell K0.out 3).trans rfl
          have hcz85_4 : wc.cell? ⟨g0, 4, none⟩ = some (.int .i64 a0_4) := (blk_cell K0.out 4).trans rfl
          have hcz85_5 : wc.cell? ⟨g0, 5, none⟩ = some (.int .i64 a0_5) := (blk_cell K0.out 5).trans rfl
          have hcz85_6 : wc.cell? ⟨g0, 6, none⟩ = some (.bool a0_6) := (blk_cell K0.out 6).trans rfl
          have hcz85_7 : wc.cell? ⟨g0, 7, none⟩ = some (.string a0_7) := (blk_cell K0.out 7).trans rfl
          have hcz85_8 : wc.cell? ⟨g0, 8, none⟩ = some (.int .i64 a0_8) := (blk_cell K0.out 8).trans rfl
          have hcz85_9 : wc.cell? ⟨g0, 9, none⟩ = some (.slice A0_9 l0_9.length c0_9) := (blk_cell K0.out 9).trans rfl
          have hfz85_0 := blk_frozen K0.out 0
          have hfz85_1 := blk_frozen K0.out 1
          have hfz85_2 := blk_frozen K0.out 2
          have hfz85_3 := blk_frozen K0.out 3
          have hfz85_4 := blk_frozen K0.out 4
          have hfz85_5 := blk_frozen K0.out 5
          have hfz85_6 := blk_frozen K0.out 6
          have hfz85_7 := blk_frozen K0.out 7
          have hfz85_8 := blk_frozen K0.out 8
          have hfz85_9 := blk_frozen K0.out 9
          go_wp2_with (first | ((with_reducible refine gate_callee (f := 31) rfl ?_); refine goesL_ (some 61) rfl rfl Tryd.func31 (by kernel_rfl) rfl #[.int .i64 a0_2, .int .i64 8] rfl (by (try simp only [List.map_toArray, List.map_cons, List.map_nil]); first | done | rfl | (simp only [List.length_drop, List.length_take]; rfl)) ?_; (with_reducible refine (ip_In.calls a0_2 8 true _ A31.out).mono ?_); rintro e w' ⟨rfl, ⟨nd, rfl⟩⟩; refine ⟨_, rfl, ?_⟩) | (go_at_call 31; (with_reducible refine (ip_In.calls a0_3 8 false _ A33.out).mono ?_); rintro e w' ⟨rfl, ⟨nd, rfl⟩⟩))
          go_ret
          exact ⟨by first | rfl | (simp [errW_none, errW_some] <;> rfl) | (simp [*, errW_none, errW_some] <;> rfl), by repeat (first | (with_reducible first | exact HB.out | apply below_alloc | apply pw_below_drewN | apply below_drew1 | refine below_set ?_ E0.out | refine below_set ?_ E1.out) | exact HB.out)⟩
        ·replace c80 := Bool.eq_false_iff.mpr c80
         subst c80
         have H1 : (some false) = some r := by rw [if_neg (show ¬ (false = true) by decide)] at H; exact H
         clear H
         have H := H1
         clear H1
         obtain rfl := Option.some.inj H
         have hnb86 := N0.out
         have hnc86 := N1.out
         have hcz87_0 : wc.cell? ⟨g0, 0, none⟩ = some (.int .i64 a0_0) := (blk_cell K0.out 0).trans rfl
         have hcz87_1 : wc.cell? ⟨g0, 1, none⟩ = some (.int .i64 a0_1) := (blk_cell K0.out 1).trans rfl
         have hcz87_2 : wc.cell? ⟨g0, 2, none⟩ = some (.int .i64 a0_2) := (blk_cell K0.out 2).trans rfl
         have hcz87_3 : wc.cell? ⟨g0, 3, none⟩ = some (.int .i64 a0_3) := (blk_cell K0.out 3).trans rfl
         have hcz87_4 : wc.cell? ⟨g0, 4, none⟩ = some (.int .i64 a0_4) := (blk_cell K0.out 4).trans rfl
         have hcz87_5 : wc.cell? ⟨g0, 5, none⟩ = some (.int .i64 a0_5) := (blk_cell K0.out 5).trans rfl
         have hcz87_6 : wc.cell? ⟨g0, 6, none⟩ = some (.bool a0_6) := (blk_cell K0.out 6).trans rfl
         have hcz87_7 : wc.cell? ⟨g0, 7, none⟩ = some (.string a0_7) := (blk_cell K0.out 7).trans rfl
         have hcz87_8 : wc.cell? ⟨g0, 8, none⟩ = some (.int .i64 a0_8) := (blk_cell K0.out 8).trans rfl
         have hcz87_9 : wc.cell? ⟨g0, 9, none⟩ = some (.slice A0_9 l0_9.length c0_9) := (blk_cell K0.out 9).trans rfl
         have hfz87_0 := blk_frozen K0.out 0
         have hfz87_1 := blk_frozen K0.out 1
         have hfz87_2 := blk_frozen K0.out 2
         have hfz87_3 := blk_frozen K0.out 3
         have hfz87_4 := blk_frozen K0.out 4
         have hfz87_5 := blk_frozen K0.out 5
         have hfz87_6 := blk_frozen K0.out 6
         have hfz87_7 := blk_frozen K0.out 7
         have hfz87_8 := blk_frozen K0.out 8
         have hfz87_9 := blk_frozen K0.out 9
         go_wp2_with (first | ((with_reducible refine gate_callee (f := 31) rfl ?_); refine goesL_ (some 61) rfl rfl Tryd.func31 (by kernel_rfl) rfl #[.int .i64 a0_2, .int .i64 8] rfl (by (try simp only [List.map_toArray, List.map_cons, List.map_nil]); first | done | rfl | (simp only [List.length_drop, List.length_take]; rfl)) ?_; (with_reducible refine (ip_In.calls a0_2 8 true _ A31.out).mono ?_); rintro e w' ⟨rfl, ⟨nd, rfl⟩⟩; refine ⟨_, rfl, ?_⟩) | (go_at_call 31; (with_reducible refine (ip_In.calls a0_3 8 false _ A33.out).mono ?_); rintro e w' ⟨rfl, ⟨nd, rfl⟩⟩))
         go_ret
         exact ⟨by first | rfl | (simp [errW_none, errW_some] <;> rfl) | (simp [*, errW_none, errW_some] <;> rfl), by repeat (first | (with_reducible first | exact HB.out | apply below_alloc | apply pw_below_drewN | apply below_drew1 | refine below_set ?_ E0.out | refine below_set ?_ E1.out) | exact HB.out)⟩
       ·replace c79 := Bool.eq_false_iff.mpr c79
        subst c79
        have H1 : (some false) = some r := by rw [if_neg (show ¬ (false = true) by decide)] at H; exact H
        clear H
        have H := H1
        clear H1
        obtain rfl := Option.some.inj H
        have hnb88 := N0.out
        have hnc88 := N1.out
        have hcz89_0 : wc.cell? ⟨g0, 0, none⟩ = some (.int .i64 a0_0) := (blk_cell K0.out 0).trans rfl
        have hcz89_1 : wc.cell? ⟨g0, 1, none⟩ = some (.int .i64 a0_1) := (blk_cell K0.out 1).trans rfl
        have hcz89_2 : wc.cell? ⟨g0, 2, none⟩ = some (.int .i64 a0_2) := (blk_cell K0.out 2).trans rfl
        have hcz89_3 : wc.cell? ⟨g0, 3, none⟩ = some (.int .i64 a0_3) := (blk_cell K0.out 3).trans rfl
        have hcz89_4 : wc.cell? ⟨g0, 4, none⟩ = some (.int .i64 a0_4) := (blk_cell K0.out 4).trans rfl
        have hcz89_5 : wc.cell? ⟨g0, 5, none⟩ = some (.int .i64 a0_5) := (blk_cell K0.out 5).trans rfl
        have hcz89_6 : wc.cell? ⟨g0, 6, none⟩ = some (.bool a0_6) := (blk_cell K0.out 6).trans rfl
        have hcz89_7 : wc.cell? ⟨g0, 7, none⟩ = some (.string a0_7) := (blk_cell K0.out 7).trans rfl
        have hcz89_8 : wc.cell? ⟨g0, 8, none⟩ = some (.int .i64 a0_8) := (blk_cell K0.out 8).trans rfl
        have hcz89_9 : wc.cell? ⟨g0, 9, none⟩ = some (.slice A0_9 l0_9.length c0_9) := (blk_cell K0.out 9).trans rfl
        have hfz89_0 := blk_frozen K0.out 0
        have hfz89_1 := blk_frozen K0.out 1
        have hfz89_2 := blk_frozen K0.out 2
        have hfz89_3 := blk_frozen K0.out 3
        have hfz89_4 := blk_frozen K0.out 4
        have hfz89_5 := blk_frozen K0.out 5
        have hfz89_6 := blk_frozen K0.out 6
        have hfz89_7 := blk_frozen K0.out 7
        have hfz89_8 := blk_frozen K0.out 8
        have hfz89_9 := blk_frozen K0.out 9
        go_wp2_with (first | ((with_reducible refine gate_callee (f := 31) rfl ?_); refine goesL_ (some 61) rfl rfl Tryd.func31 (by kernel_rfl) rfl #[.int .i64 a0_2, .int .i64 8] rfl (by (try simp only [List.map_toArray, List.map_cons, List.map_nil]); first | done | rfl | (simp only [List.length_drop, List.length_take]; rfl)) ?_; (with_reducible refine (ip_In.calls a0_2 8 true _ A31.out).mono ?_); rintro e w' ⟨rfl, ⟨nd, rfl⟩⟩; refine ⟨_, rfl, ?_⟩) | (go_at_call 31; (with_reducible refine (ip_In.calls a0_3 8 false _ A33.out).mono ?_); rintro e w' ⟨rfl, ⟨nd, rfl⟩⟩))
        go_ret
        exact ⟨by first | rfl | (simp [errW_none, errW_some] <;> rfl) | (simp [*, errW_none, errW_some] <;> rfl), by repeat (first | (with_reducible first | exact HB.out | apply below_alloc | apply pw_below_drewN | apply below_drew1 | refine below_set ?_ E0.out | refine below_set ?_ E1.out) | exact HB.out)⟩
     ·replace c32 := Bool.eq_false_iff.mpr c32
      subst c32
      have H1 : (if t140 = true then (if x5_2 = true then (if x6_24 = true then (some false) else (some false)) else (some false)) else (some false)) = some r := by rw [if_neg (show ¬ (false = true) by decide)] at H; exact H
      clear H
      have H := H1
      clear H1
      by_cases c90 : t140 = true
      ·subst c90
       have H1 : (if x5_2 = true then (if x6_24 = true then (some false) else (some false)) else (some false)) = some r := by rw [if_pos rfl] at H; exact H
       clear H
       have H := H1
       clear H1
       by_cases c91 : x5_2 = true
       ·subst c91
        have H1 : (if x6_24 = true then (some false) else (some false)) = some r := by rw [if_pos rfl] at H; exact H
        clear H
        have H := H1
        clear H1
        by_cases c92 : x6_24 = true
        ·subst c92
         have H1 : (some false) = some r := by rw [if_pos rfl] at H; exact H
         clear H
         have H := H1
         clear H1
         obtain rfl := Option.some.inj H
         have hnb93 := N0.out
         have hnc93 := N1.out
         have hcz94_0 : wc.cell? ⟨g0, 0, none⟩ = some (.int .i64 a0_0) := (blk_cell K0.out 0).trans rfl
         have hcz94_1 : wc.cell? ⟨g0, 1, none⟩ = some (.int .i64 a0_1) := (blk_cell K0.out 1).trans rfl
         have hcz94_2 : wc.cell? ⟨g0, 2, none⟩ = some (.int .i64 a0_2) := (blk_cell K0.out 2).trans rfl
         have hcz94_3 : wc.cell? ⟨g0, 3, none⟩ = some (.int .i64 a0_3) := (blk_cell K0.out 3).trans rfl
         have hcz94_4 : wc.cell? ⟨g0, 4, none⟩ = some (.int .i64 a0_4) := (blk_cell K0.out 4).trans rfl
         have hcz94_5 : wc.cell? ⟨g0, 5, none⟩ = some (.int .i64 a0_5) := (blk_cell K0.out 5).trans rfl
         have hcz94_6 : wc.cell? ⟨g0, 6, none⟩ = some (.bool a0_6) := (blk_cell K0.out 6).trans rfl
         have hcz94_7 : wc.cell? ⟨g0, 7, none⟩ = some (.string a0_7) := (blk_cell K0.out 7).trans rfl
         have hcz94_8 : wc.cell? ⟨g0, 8, none⟩ = some (.int .i64 a0_8) := (blk_cell K0.out 8).trans rfl
         have hcz94_9 : wc.cell? ⟨g0, 9, none⟩ = some (.slice A0_9 l0_9.length c0_9) := (blk_cell K0.out 9).trans rfl
         have hfz94_0 := blk_frozen K0.out 0
         have hfz94_1 := blk_frozen K0.out 1
         have hfz94_2 := blk_frozen K0.out 2
         have hfz94_3 := blk_frozen K0.out 3
         have hfz94_4 := blk_frozen K0.out 4
         have hfz94_5 := blk_frozen K0.out 5
         have hfz94_6 := blk_frozen K0.out 6
         have hfz94_7 := blk_frozen K0.out 7
         have hfz94_8 := blk_frozen K0.out 8
         have hfz94_9 := blk_frozen K0.out 9
         go_wp2_with (first | ((with_reducible refine gate_callee (f := 31) rfl ?_); refine goesL_ (some 61) rfl rfl Tryd.func31 (by kernel_rfl) rfl #[.int .i64 a0_2, .int .i64 8] rfl (by (try simp only [List.map_toArray, List.map_cons, List.map_nil]); first | done | rfl | (simp only [List.length_drop, List.length_take]; rfl)) ?_; (with_reducible refine (ip_In.calls a0_2 8 false _ A31.out).mono ?_); rintro e w' ⟨rfl, ⟨nd, rfl⟩⟩; refine ⟨_, rfl, ?_⟩))
         go_ret
         exact ⟨by first | rfl | (simp [errW_none, errW_some] <;> rfl) | (simp [*, errW_none, errW_some] <;> rfl), by repeat (first | (with_reducible first | exact HB.out | apply below_alloc | apply pw_below_drewN | apply below_drew1 | refine below_set ?_ E0.out | refine below_set ?_ E1.out) | exact HB.out)⟩
        ·replace c92 := Bool.eq_false_iff.mpr c92
         subst c92
         have H1 : (some false) = some r := by rw [if_neg (show ¬ (false = true) by decide)] at H; exact H
         clear H
         have H := H1
         clear H1
         obtain rfl := Option.some.inj H
         have hnb95 := N0.out
         have hnc95 := N1.out
         have hcz96_0 : wc.cell? ⟨g0, 0, none⟩ = some (.int .i64 a0_0) := (blk_cell K0.out 0).trans rfl
         have hcz96_1 : wc.cell? ⟨g0, 1, none⟩ = some (.int .i64 a0_1) := (blk_cell K0.out 1).trans rfl
         have hcz96_2 : wc.cell? ⟨g0, 2, none⟩ = some (.int .i64 a0_2) := (blk_cell K0.out 2).trans rfl
         have hcz96_3 : wc.cell? ⟨g0, 3, none⟩ = some (.int .i64 a0_3) := (blk_cell K0.out 3).trans rfl
         have hcz96_4 : wc.cell? ⟨g0, 4, none⟩ = some (.int .i64 a0_4) := (blk_cell K0.out 4).trans rfl
         have hcz96_5 : wc.cell? ⟨g0, 5, none⟩ = some (.int .i64 a0_5) := (blk_cell K0.out 5).trans rfl
         have hcz96_6 : wc.cell? ⟨g0, 6, none⟩ = some (.bool a0_6) := (blk_cell K0.out 6).trans rfl
         have hcz96_7 : wc.cell? ⟨g0, 7, none⟩ = some (.string a0_7) := (blk_cell K0.out 7).trans rfl
         have hcz96_8 : wc.cell? ⟨g0, 8, none⟩ = some (.int .i64 a0_8) := (blk_cell K0.out 8).trans rfl
         have hcz96_9 : wc.cell? ⟨g0, 9, none⟩ = some (.slice A0_9 l0_9.length c0_9) := (blk_cell K0.out 9).trans rfl
         have hfz96_0 := blk_frozen K0.out 0
         have hfz96_1 := blk_frozen K0.out 1
         have hfz96_2 := blk_frozen K0.out 2
         have hfz96_3 := blk_frozen K0.out 3
         have hfz96_4 := blk_frozen K0.out 4
         have hfz96_5 := blk_frozen K0.out 5
         have hfz96_6 := blk_frozen K0.out 6
         have hfz96_7 := blk_frozen K0.out 7
         have hfz96_8 := blk_frozen K0.out 8
         have hfz96_9 := blk_frozen K0.out 9
         go_wp2_with (first | ((with_reducible refine gate_callee (f := 31) rfl ?_); refine goesL_ (some 61) rfl rfl Tryd.func31 (by kernel_rfl) rfl #[.int .i64 a0_2, .int .i64 8] rfl (by (try simp only [List.map_toArray, List.map_cons, List.map_nil]); first | done | rfl | (simp only [List.length_drop, List.length_take]; rfl)) ?_; (with_reducible refine (ip_In.calls a0_2 8 false _ A31.out).mono ?_); rintro e w' ⟨rfl, ⟨nd, rfl⟩⟩; refine ⟨_, rfl, ?_⟩))
         go_ret
         exact ⟨by first | rfl | (simp [errW_none, errW_some] <;> rfl) | (simp [*, errW_none, errW_some] <;> rfl), by repeat (first | (with_reducible first | exact HB.out | apply below_alloc | apply pw_below_drewN | apply below_drew1 | refine below_set ?_ E0.out | refine below_set ?_ E1.out) | exact HB.out)⟩
       ·replace c91 := Bool.eq_false_iff.mpr c91
        subst c91
        have H1 : (some false) = some r := by rw [if_neg (show ¬ (false = true) by decide)] at H; exact H
        clear H
        have H := H1
        clear H1
        obtain rfl := Option.some.inj H
        have hnb97 := N0.out
        have hnc97 := N1.out
        have hcz98_0 : wc.cell? ⟨g0, 0, none⟩ = some (.int .i64 a0_0) := (blk_cell K0.out 0).trans rfl
        have hcz98_1 : wc.cell? ⟨g0, 1, none⟩ = some (.int .i64 a0_1) := (blk_cell K0.out 1).trans rfl
        have hcz98_2 : wc.cell? ⟨g0, 2, none⟩ = some (.int .i64 a0_2) := (blk_cell K0.out 2).trans rfl
        have hcz98_3 : wc.cell? ⟨g0, 3, none⟩ = some (.int .i64 a0_3) := (blk_cell K0.out 3).trans rfl
        have hcz98_4 : wc.cell? ⟨g0, 4, none⟩ = some (.int .i64 a0_4) := (blk_cell K0.out 4).trans rfl
        have hcz98_5 : wc.cell? ⟨g0, 5, none⟩ = some (.int .i64 a0_5) := (blk_cell K0.out 5).trans rfl
        have hcz98_6 : wc.cell? ⟨g0, 6, none⟩ = some (.bool a0_6) := (blk_cell K0.out 6).trans rfl
        have hcz98_7 : wc.cell? ⟨g0, 7, none⟩ = some (.string a0_7) := (blk_cell K0.out 7).trans rfl
        have hcz98_8 : wc.cell? ⟨g0, 8, none⟩ = some (.int .i64 a0_8) := (blk_cell K0.out 8).trans rfl
        have hcz98_9 : wc.cell? ⟨g0, 9, none⟩ = some (.slice A0_9 l0_9.length c0_9) := (blk_cell K0.out 9).trans rfl
        have hfz98_0 := blk_frozen K0.out 0
        have hfz98_1 := blk_frozen K0.out 1
        have hfz98_2 := blk_frozen K0.out 2
        have hfz98_3 := blk_frozen K0.out 3
        have hfz98_4 := blk_frozen K0.out 4
        have hfz98_5 := blk_frozen K0.out 5
        have hfz98_6 := blk_frozen K0.out 6
        have hfz98_7 := blk_frozen K0.out 7
        have hfz98_8 := blk_frozen K0.out 8
        have hfz98_9 := blk_frozen K0.out 9
        go_wp2_with (first | ((with_reducible refine gate_callee (f := 31) rfl ?_); refine goesL_ (some 61) rfl rfl Tryd.func31 (by kernel_rfl) rfl #[.int .i64 a0_2, .int .i64 8] rfl (by (try simp only [List.map_toArray, List.map_cons, List.map_nil]); first | done | rfl | (simp only [List.length_drop, List.length_take]; rfl)) ?_; (with_reducible refine (ip_In.calls a0_2 8 false _ A31.out).mono ?_); rintro e w' ⟨rfl, ⟨nd, rfl⟩⟩; refine ⟨_, rfl, ?_⟩))
        go_ret
        exact ⟨by first | rfl | (simp [errW_none, errW_some] <;> rfl) | (simp [*, errW_none, errW_some] <;> rfl), by repeat (first | (with_reducible first | exact HB.out | apply below_alloc | apply pw_below_drewN | apply below_drew1 | refine below_set ?_ E0.out | refine below_set ?_ E1.out) | exact HB.out)⟩
      ·replace c90 := Bool.eq_false_iff.mpr c90
       subst c90
       have H1 : (some false) = some r := by rw [if_neg (show ¬ (false = true) by decide)] at H; exact H
       clear H
       have H := H1
       clear H1
       obtain rfl := Option.some.inj H
       have hnb99 := N0.out
       have hnc99 := N1.out
       have hcz100_0 : wc.cell? ⟨g0, 0, none⟩ = some (.int .i64 a0_0) := (blk_cell K0.out 0).trans rfl
       have hcz100_1 : wc.cell? ⟨g0, 1, none⟩ = some (.int .i64 a0_1) := (blk_cell K0.out 1).trans rfl
       have hcz100_2 : wc.cell? ⟨g0, 2, none⟩ = some (.int .i64 a0_2) := (blk_cell K0.out 2).trans rfl
       have hcz100_3 : wc.cell? ⟨g0, 3, none⟩ = some (.int .i64 a0_3) := (blk_cell K0.out 3).trans rfl
       have hcz100_4 : wc.cell? ⟨g0, 4, none⟩ = some (.int .i64 a0_4) := (blk_cell K0.out 4).trans rfl
       have hcz100_5 : wc.cell? ⟨g0, 5, none⟩ = some (.int .i64 a0_5) := (blk_cell K0.out 5).trans rfl
       have hcz100_6 : wc.cell? ⟨g0, 6, none⟩ = some (.bool a0_6) := (blk_cell K0.out 6).trans rfl
       have hcz100_7 : wc.cell? ⟨g0, 7, none⟩ = some (.string a0_7) := (blk_cell K0.out 7).trans rfl
       have hcz100_8 : wc.cell? ⟨g0, 8, none⟩ = some (.int .i64 a0_8) := (blk_cell K0.out 8).trans rfl
       have hcz100_9 : wc.cell? ⟨g0, 9, none⟩ = some (.slice A0_9 l0_9.length c0_9) := (blk_cell K0.out 9).trans rfl
       have hfz100_0 := blk_frozen K0.out 0
       have hfz100_1 := blk_frozen K0.out 1
       have hfz100_2 := blk_frozen K0.out 2
       have hfz100_3 := blk_frozen K0.out 3
       have hfz100_4 := blk_frozen K0.out 4
       have hfz100_5 := blk_frozen K0.out 5
       have hfz100_6 := blk_frozen K0.out 6
       have hfz100_7 := blk_frozen K0.out 7
       have hfz100_8 := blk_frozen K0.out 8
       have hfz100_9 := blk_frozen K0.out 9
       go_wp2_with (first | ((with_reducible refine gate_callee (f := 31) rfl ?_); refine goesL_ (some 61) rfl rfl Tryd.func31 (by kernel_rfl) rfl #[.int .i64 a0_2, .int .i64 8] rfl (by (try simp only [List.map_toArray, List.map_cons, List.map_nil]); first | done | rfl | (simp only [List.length_drop, List.length_take]; rfl)) ?_; (with_reducible refine (ip_In.calls a0_2 8 false _ A31.out).mono ?_); rintro e w' ⟨rfl, ⟨nd, rfl⟩⟩; refine ⟨_, rfl, ?_⟩))
       go_ret
       exact ⟨by first | rfl | (simp [errW_none, errW_some] <;> rfl) | (simp [*, errW_none, errW_some] <;> rfl), by repeat (first | (with_reducible first | exact HB.out | apply below_alloc | apply pw_below_drewN | apply below_drew1 | refine below_set ?_ E0.out | refine below_set ?_ E1.out) | exact HB.out)⟩

end Go.Proofs.YtnojgkiaolmoeaaDoor.PSc
end
section
/- Contracts: what calls of these functions of the program do, each as a plain function; written by a program of this session. -/
namespace Go.Proofs.YtnojgkiaolmoeaaDoor.PSc
open Go.RowKit Go.Proofs.YtnojgkiaolmoeaaDoorW.PrintWords Go.Proofs.YtnojgkiaolmoeaaDoorW.PrintLast Go.Proofs.YtnojgkiaolmoeaaDoorW.PrintMore
attribute [local go_sem] max2_int min2_int max_two min_two max_three min_three max_four min_four   -- for this text's walks alone
set_option linter.unusedVariables false
set_option linter.unusedSimpArgs false

/-! ### script_Show: function 8, by hand -/
def okI (n : Int) : Bool := decide (-9223372036854775808 ≤ n) && decide (n ≤ 9223372036854775807)
theorem okI_ {n : Int} (h : okI n = true) : Pen.I64 n := by
 unfold okI at h
 simp only [Bool.and_eq_true, decide_eq_true_eq] at h
 exact h
def siteOkI (s : S63) : Bool := okI s.f0 && (okI s.f2 && (decide (s.f3.length ≤ 4) && s.f3.all fun b => okI b.f0))
def actOkI (x : S40) : Bool := okI x.f0 && (okI x.f1 && (okI x.f2 && (okI x.f3 && (okI x.f4 && (okI x.f5 && (decide (x.f7.size ≤ 512) && (okI x.f8.f0 && (decide (x.f8.f1.length ≤ 3) && x.f8.f1.all siteOkI))))))))
theorem actOkI_ {x : S40} (h : actOkI x = true) : Pen.ActI x := by
 unfold actOkI at h
 simp only [Bool.and_eq_true, decide_eq_true_eq, List.all_eq_true] at h
 obtain ⟨h0, h1, h2, h3, h4, h5, h7, h8, h9, ha⟩ := h
 refine ⟨?_, h7, okI_ h8, h9, fun s hs => ?_⟩
 ·simp only [List.mem_cons, List.not_mem_nil, or_false]
  rintro y (rfl | rfl | rfl | rfl | rfl | rfl)
  ·exact okI_ h0
  ·exact okI_ h1
  ·exact okI_ h2
  ·exact okI_ h3
  ·exact okI_ h4
  ·exact okI_ h5
 ·have h := ha s hs
  unfold siteOkI at h
  simp only [Bool.and_eq_true, decide_eq_true_eq, List.all_eq_true] at h
  exact ⟨okI_ h.1, okI_ h.2.1, h.2.2.1, fun b hb => okI_ (h.2.2.2 b hb)⟩
def showR (k : Nat) : List S40 → List UInt8 → Option (ByteArray × Int)
 | [], acc => some (⟨acc.toArray⟩, 0)
 | x :: r, acc => (script_May.f k x.f0 x.f1 x.f2 x.f3 x.f4 x.f5 x.f6 x.f7 x.f8.f0 x.f8.f1).bind fun m => if m = true then (if actOkI x = true then showR k r (acc ++ Pen.actT x) else none) else some ((⟨#[]⟩ : ByteArray), 2300)
theorem showR_mono (k : Nat) : ∀ (l : List S40) (acc : List UInt8), LeO (showR k l acc) (showR (k + 1) l acc)
 | [], acc => LeO.refl _
 | x :: r, acc => by
  unfold showR
  refine LeO.bind (script_May.mono _ _ _ _ _ _ _ _ _ _ _) (fun m => ?_)
  split
  ·split
   ·exact showR_mono k r _
   ·exact LeO.refl _
  ·exact LeO.refl _
def script_Show.f (k : Nat) (l0 : List S40) : Option (ByteArray × Int) := if l0.length > 256 then some ((⟨#[]⟩ : ByteArray), 2300) else showR k l0 []
theorem script_Show.mono : ∀ a0 k, LeO (script_Show.f k a0) (script_Show.f (k + 1) a0) := by
 intro a0 k
 unfold script_Show.f
 split
 ·exact LeO.refl _
 ·exact showR_mono _ _ _
set_option maxHeartbeats 4000000 in
set_option maxRecDepth 100000 in
theorem script_Show.calls (k : Nat) (A0 : Option Addr) (c0 : Nat) (l0 : List S40) (r1 : ByteArray) (r2 : Int) (w : World) (hr0 : Kd.C k40 w A0 l0.length l0) (hc0 : l0.length ≤ c0) (ht : Take.Laid w) (h : script_Show.f k l0 = some (r1, r2)) :
    Calls Tryd.prog 8 #[.slice A0 l0.length c0] w fun e w' => e = .returned (.tuple #[.string r1, .int .i64 r2]) ∧ Below w.heap.size w w' := by
  have hu := Tryd.underlying40
  have hu2 := Tryd.underlying55
  have HT := Aside0.mk (show Pen.TabB w.heap.size w from Lib.tabBelow_of_tabIs ht.1)
  have HC := Aside0.mk hr0
  have HH := Aside0.mk h
  clear hr0 ht h hc0
  by_cases hlen : (l0.length : Int) > 256
  · have hlb : decide ((l0.length : Int) > 256) = true := decide_eq_true hlen
    have hlb2 : decide ((256 : Int) < (l0.length : Int)) = true := decide_eq_true hlen
    obtain ⟨rfl, rfl⟩ : (⟨#[]⟩ : ByteArray) = r1 ∧ 2300 = r2 := by
      have h := HH.out
      unfold script_Show.f at h
      rw [if_pos (by omega)] at h
      simpa using h
    go_enter Tryd.func8, Tryd.ntmps8
    go_wp2_with fail
    go_ret2
    exact ⟨rfl, Below.refl _ _⟩
  · have hlb : decide ((l0.length : Int) > 256) = false := decide_eq_false hlen
    have hlb2 : decide ((256 : Int) < (l0.length : Int)) = false := decide_eq_false hlen
    have HN := Aside0.mk (show l0.length ≤ 256 by omega)
    have HR := Aside0.mk (show showR k l0 [] = some (r1, r2) by
      have h := HH.out
      unfold script_Show.f at h
      rwa [if_neg (by omega)] at h)
    clear HH hlen
    go_enter Tryd.func8, Tryd.ntmps8
    go_wp2_with fail
    have HP0 := Aside0.mk (show Pen.St w w.heap.size [] (w.alloc (.cells #[.pointer none, .slice none 0 0] Pen.T)) from ⟨Pen.fresh w, below_alloc (Below.refl _ _) _⟩)
    go_loopg [11] (l0.length + 1) (fun kq v11 w' => ∃ (i : Nat) (acc : List UInt8), v11 = .int .i64 (i : Int) ∧ Aside0 (i ≤ l0.length ∧ (kq : Int) + i = l0.length + 1) ∧ Aside0 (acc.length ≤ 1400 * i) ∧ Aside0 (Pen.St w w.heap.size acc w') ∧ Aside0 (showR k (l0.drop i) acc = some (r1, r2)))
    case atStart => exact ⟨0, [], rfl, ⟨by omega⟩, ⟨Nat.zero_le _⟩, HP0, HR⟩
    case round =>
      obtain ⟨i, acc, rfl, HX, HA, HP, HS⟩ := hrel
      cases gk with
      | zero => have := HX.out; omega
      | succ k1 =>
        by_cases c3 : (i : Int) < (l0.length : Int)
        · have c3b := decide_eq_true c3
          have p1 : (0 : Int) ≤ (i : Int) := by omega
          have p1b := decide_eq_true p1
          obtain ⟨ad, A9, c9, ea, hx0, hx1, hx2, hx3, hx4, hx5, hx6, hx7, hx8, hx9, hl9, hi9⟩ := at_T40 HC.out (i : Int) p1 c3
          cases ea
          have hlt : i < l0.length := by omega
          obtain ⟨x, hx⟩ : ∃ x, rd_T40 l0 (i : Int) = x := ⟨_, rfl⟩
          have hget : l0[i] = x := by rw [← hx]; simp [rd_T40, hlt]
          rw [hx] at hx0 hx1 hx2 hx3 hx4 hx5 hx6 hx7 hx8 hx9 hl9 hi9
          rw [Int.toNat_natCast] at hx0 hx1 hx2 hx3 hx4 hx5 hx6 hx7 hx8 hx9
          have hs := HS.out
          rw [List.drop_eq_getElem_cons hlt, hget] at hs
          unfold showR at hs
          obtain ⟨m, hm, hs⟩ := Option.bind_eq_some_iff.mp hs
          have HM := Aside0.mk hm
          have HI9 := Aside0.mk hi9
          have HL9 := Aside0.mk hl9
          have HX0 := Aside0.mk hx0
          have HX1 := Aside0.mk hx1
          have HX2 := Aside0.mk hx2
          have HX3 := Aside0.mk hx3
          have HX4 := Aside0.mk hx4
          have HX5 := Aside0.mk hx5
          have HX6 := Aside0.mk hx6
          have HX7 := Aside0.mk hx7
          have HX8 := Aside0.mk hx8
          have HX9 := Aside0.mk hx9
          replace hx0 := HP.out.cell hx0
          replace hx1 := HP.out.cell hx1
          replace hx2 := HP.out.cell hx2
          replace hx3 := HP.out.cell hx3
          replace hx4 := HP.out.cell hx4
          replace hx5 := HP.out.cell hx5
          replace hx6 := HP.out.cell hx6
          replace hx7 := HP.out.cell hx7
          replace hx8 := HP.out.cell hx8
          replace hx9 := HP.out.cell hx9
          have c3' := eq_true c3
          have p1' := eq_true p1
          clear hx hget hm hi9 hl9 hlt
          cases m
          · obtain ⟨rfl, rfl⟩ : (⟨#[]⟩ : ByteArray) = r1 ∧ 2300 = r2 := by simpa using hs
            clear hs
            go_wp2_with (go_at_call 14; refine (script_May.calls k x.f0 x.f1 x.f2 x.f3 x.f4 x.f5 x.f6 x.f7 x.f8.f0 _ _ x.f8.f1 false _ (Kd.C_below HI9.out HP.out.low) HL9.out HM.out).mono ?_; rintro e w5 ⟨rfl, hb⟩; have HS5 := Aside0.mk (HP.out.below hb); clear hb)
            go_ret2
            exact ⟨rfl, HS5.out.low⟩
          · rw [if_pos rfl] at hs
            by_cases hok : actOkI x = true
            · rw [if_pos hok] at hs
              have HOK := Aside0.mk (actOkI_ hok)
              have HS2 := Aside0.mk hs
              have HAL := Aside0.mk (show acc.length + 2000 ≤ 140737488355328 by have h1 := HA.out; have h2 := HX.out; have h3 := HN.out; omega)
              clear hs hok
              go_wp2_with (first
                | (go_at_call 14; refine (script_May.calls k x.f0 x.f1 x.f2 x.f3 x.f4 x.f5 x.f6 x.f7 x.f8.f0 _ _ x.f8.f1 true _ (Kd.C_below HI9.out HP.out.low) HL9.out HM.out).mono ?_; rintro e w5 ⟨rfl, hb⟩; have HS5 := Aside0.mk (HP.out.below hb); clear hb; clear hx0 hx1 hx2 hx3 hx4 hx5 hx6 hx7 hx8 hx9)
                | (go_at_call 20; refine (Pen.act w w.heap.size acc (ad.add (i * 10)) x A9 c9 _ HS5.out HT.out HX0.out HX1.out HX2.out HX3.out HX4.out HX5.out HX6.out HX7.out HX8.out HX9.out HI9.out HOK.out HAL.out).mono ?_; rintro e w6 ⟨rfl, h_⟩; have HS6 := Aside0.mk h_; clear h_))
              go_roundg k1
              case measure => have := HX.out; omega
              case rel =>
                have h1 := HX.out
                have h2 := HA.out
                have h3 := Pen.actT_len HOK.out
                have h4 := HN.out
                exact ⟨i + 1, _, by rw [show wrap64 ((i : Int) + 1) = ((i + 1 : Nat) : Int) by unfold wrap64; omega], ⟨by omega⟩, ⟨by rw [List.length_append]; omega⟩, HS6, HS2⟩
            · rw [if_neg hok] at hs
              cases hs
        · have c3b := decide_eq_false c3
          have hs := HS.out
          have h1 := HX.out
          rw [List.drop_of_length_le (by omega)] at hs
          obtain ⟨rfl, rfl⟩ : (⟨acc.toArray⟩ : ByteArray) = r1 ∧ 0 = r2 := by simpa [showR] using hs
          clear hs h1
          go_wp2_with (go_at_call 21; refine (Pen.string_ w.heap.size w.heap.size acc _ HP.out.pen HP.out.sz).mono ?_; rintro e w5 ⟨rfl, hb⟩; have HB5 := Aside0.mk (HP.out.low.trans hb); clear hb)
          go_ret2
          exact ⟨rfl, HB5.out⟩


end Go.Proofs.YtnojgkiaolmoeaaDoor.PSc
end
section
/- Contracts: what calls of these functions of the program do, each as a plain function; written by a program of this session. -/
namespace Go.Proofs.YtnojgkiaolmoeaaDoor.PSc
open Go.RowKit Go.Proofs.YtnojgkiaolmoeaaDoorW.PrintWords Go.Proofs.YtnojgkiaolmoeaaDoorW.PrintLast Go.Proofs.YtnojgkiaolmoeaaDoorW.PrintMore
attribute [local go_sem] max2_int min2_int max_two min_two max_three min_three max_four min_four   -- for this text's walks alone
set_option linter.unusedVariables false
set_option linter.unusedSimpArgs false

/-! ### script_Parse: function 10, by hand -/
def parseL : Nat → List S40 → Take.Ms → List S40 × Take.Ms
 | 0, acc, s => (acc, s)
 | f + 1, acc, s => if s.1 ≠ [] ∧ s.2 = false ∧ acc.length ≤ 256 then parseL f (acc ++ [(Take.actM s).1]) (Take.actM s).2 else (acc, s)
def script_Parse.f (k : Nat) (a0 : ByteArray) : Option (List S40 × Int) := if a0.size ≤ 281474976710656 then (script_Show.f k (parseL 258 [] (a0.data.toList, false)).1).bind fun u => (if (parseL 258 [] (a0.data.toList, false)).2.2 = true then some ([], 2300) else (if u.2 = 0 then (if u.1 = a0 then some ((parseL 258 [] (a0.data.toList, false)).1, 0) else some ([], 2300)) else some ([], 2300))) else none
theorem script_Parse.mono : ∀ a0 k, LeO (script_Parse.f k a0) (script_Parse.f (k + 1) a0) := by
 intro a0 k
 unfold script_Parse.f
 split
 ·exact LeO.bind (script_Show.mono _ _) (fun _ => LeO.refl _)
 ·exact LeO.refl _
theorem script_Parse.info : (Tryd.prog.info? 40).map (fun i => (i.zero, i.size, i.bytes)) = some (some (.agg #[(.int .i64 0), (.int .i64 0), (.int .i64 0), (.int .i64 0), (.int .i64 0), (.int .i64 0), (.bool false), (.string (⟨#[]⟩ : ByteArray)), (.int .i64 0), (.slice none 0 0)]), 10, 104) := by kernel_rfl
theorem bytes_ne {a b : ByteArray} (h : a ≠ b) : (a.toList == b.toList) = false := by
 rw [beq_eq_false_iff_ne]
 intro e
 apply h
 rw [ByteArray.toList_eq, ByteArray.toList_eq] at e
 cases a; cases b
 congr 1
 exact Array.toList_inj.1 e
set_option maxHeartbeats 4000000 in
set_option maxRecDepth 100000 in
theorem script_Parse.calls (k : Nat) (a0 : ByteArray) (r1 : List S40) (r2 : Int) (w : World) (ht : Take.Laid w) (h : script_Parse.f k a0 = some (r1, r2)) :
  Calls Tryd.prog 10 #[.string a0] w fun e w' => ∃ v0_ : Value, e = .returned (.tuple #[v0_, .int .i64 r2]) ∧ Kd.R k40 40 w' w.heap.size (fun _ => True) v0_ r1 ∧ Below w.heap.size w w' := by
 have hu := Tryd.underlying68
 have hu2 := Tryd.underlying40
 have HE : Aside0 (Take.Errs w) := ⟨fun w1 hb => (ht.below hb).2⟩
 have HLD := Aside0.mk ht
 unfold script_Parse.f at h
 by_cases hsz : a0.size ≤ 281474976710656
 case neg => rw [if_neg hsz] at h; cases h
 rw [if_pos hsz] at h
 obtain ⟨RR, hRR⟩ : ∃ R, parseL 258 [] (a0.data.toList, false) = R := ⟨_, rfl⟩
 rw [hRR] at h
 have HRR := Aside0.mk hRR
 have HH := Aside0.mk h
 have HZ := Aside0.mk hsz
 clear h hRR hsz ht
 go_enter Tryd.func10, Tryd.ntmps10
 go_wp2_with fail
 obtain ⟨g, hg⟩ : ∃ n, n = w.heap.size := ⟨_, rfl⟩
 obtain ⟨wE, hwE⟩ : ∃ x_, x_ = w.alloc (.cells #[.string a0, .bool false] 68) := ⟨_, rfl⟩
 have T0 := Aside0.mk (show Take.Tk w g a0.data.toList false wE from ⟨by rw [hwE, hg]; exact heap_alloc_new w _, by rw [hwE]; exact below_alloc (Below.refl _ _) _, by omega, HZ.out⟩)
 have HGE := Aside0.mk T0.out.lt
 have HW0 := Aside0.mk T0.out.sz
 rw [← hwE, ← hg]
 clear hwE hg
 go_loopg [5] 258 (fun kq v5 w' => ∃ (v : Value) (xs : List S40) (s : Take.Ms), v5 = v ∧ Aside0 (xs.length ≤ 257 ∧ kq + xs.length = 258) ∧ Aside0 (Take.Tk w g s.1 s.2 w') ∧ Aside0 (wE.heap.size ≤ w'.heap.size) ∧ Aside0 (Kd.R k40 40 w' wE.heap.size (fun _ => True) v xs) ∧ Aside0 (parseL kq xs s = RR))
 case atStart => exact ⟨_, [], (a0.data.toList, false), rfl, ⟨by simp, rfl⟩, T0, ⟨Nat.le_refl _⟩, ⟨Kd.R_nil _ _ _ _ _⟩, HRR⟩
 case round =>
  clear T0 HRR
  obtain ⟨v, xs, s, rfl, HX, HTK, HSZ0, HRW0, HR⟩ := hrel
  obtain ⟨A, cc, rfl⟩ := Kd.R_slice HRW0.out
  cases gk with
  | zero => have := HX.out; omega
  | succ k1 =>
   have q0 := HTK.out.c0
   have q1 := HTK.out.c1
   cases hl : s.1 with
   | nil =>
    have hcond : ¬ (s.1 ≠ [] ∧ s.2 = false ∧ xs.length ≤ 256) := fun q => q.1 hl
    have hr := HR.out
    rw [parseL, if_neg hcond] at hr
    have HFF := Aside0.mk (show (script_Show.f k xs).bind (fun u => (if s.2 = true then some ([], 2300) else (if u.2 = 0 then (if u.1 = a0 then some (xs, 0) else some ([], 2300)) else some ([], 2300)))) = some (r1, r2) by have h9 := HH.out; rw [← hr] at h9; exact h9)
    clear hr HR HH
    rw [hl] at q0 HTK
    clear hcond
    obtain ⟨⟨u1, u2⟩, hsh, hh⟩ := Option.bind_eq_some_iff.mp HFF.out
    have HSH := Aside0.mk hsh
    clear hsh
    cases hs2 : s.2
    ·rw [hs2] at hh HTK
     rw [if_neg (by decide)] at hh
     by_cases h0 : u2 = 0
     ·rw [if_pos h0] at hh
      subst h0
      by_cases h1 : u1 = a0
      ·rw [if_pos h1] at hh
       obtain ⟨rfl, rfl⟩ : xs = r1 ∧ 0 = r2 := by simpa using hh
       subst h1
       clear hh
       go_wp2_with (go_at_call 8; refine (script_Show.calls k A cc xs _ _ _ (Kd.R_reads' HRW0.out).2.2 (Kd.R_reads' HRW0.out).2.1 (HLD.out.below HTK.out.low) HSH.out).mono ?_; rintro e w6 ⟨rfl, hb⟩; have T6 := Aside0.mk (HTK.out.next hb); have R6 := Aside0.mk (Kd.R_below HRW0.out hb); clear q0 q1; have q1 := T6.out.c1; clear hb)
       go_ret2
       exact ⟨_, rfl, Kd.R_lower R6.out HW0.out, T6.out.low⟩
      ·rw [if_neg h1] at hh
       obtain ⟨rfl, rfl⟩ : [] = r1 ∧ 2300 = r2 := by simpa using hh
       have hne := bytes_ne h1
       clear hh h1
       go_wp2_with (go_at_call 8; refine (script_Show.calls k A cc xs _ _ _ (Kd.R_reads' HRW0.out).2.2 (Kd.R_reads' HRW0.out).2.1 (HLD.out.below HTK.out.low) HSH.out).mono ?_; rintro e w6 ⟨rfl, hb⟩; have T6 := Aside0.mk (HTK.out.next hb); have R6 := Aside0.mk (Kd.R_below HRW0.out hb); clear q0 q1; have q1 := T6.out.c1; clear hb)
       go_ret2
       exact ⟨_, rfl, Kd.R_nil _ _ _ _ _, T6.out.low⟩
     ·rw [if_neg h0] at hh
      obtain ⟨rfl, rfl⟩ : [] = r1 ∧ 2300 = r2 := by simpa using hh
      have h0b : (u2 != 0) = true := bne_iff_ne.2 h0
      have h0c : (u2 == 0) = false := beq_eq_false_iff_ne.2 h0
      clear hh h0
      go_wp2_with (go_at_call 8; refine (script_Show.calls k A cc xs _ _ _ (Kd.R_reads' HRW0.out).2.2 (Kd.R_reads' HRW0.out).2.1 (HLD.out.below HTK.out.low) HSH.out).mono ?_; rintro e w6 ⟨rfl, hb⟩; have T6 := Aside0.mk (HTK.out.next hb); have R6 := Aside0.mk (Kd.R_below HRW0.out hb); clear q0 q1; have q1 := T6.out.c1; clear hb)
      go_ret2
      exact ⟨_, rfl, Kd.R_nil _ _ _ _ _, T6.out.low⟩
    ·rw [hs2] at hh HTK
     rw [if_pos rfl] at hh
     obtain ⟨rfl, rfl⟩ : [] = r1 ∧ 2300 = r2 := by simpa using hh
     clear hh
     go_wp2_with (go_at_call 8; refine (script_Show.calls k A cc xs _ _ _ (Kd.R_reads' HRW0.out).2.2 (Kd.R_reads' HRW0.out).2.1 (HLD.out.below HTK.out.low) HSH.out).mono ?_; rintro e w6 ⟨rfl, hb⟩; have T6 := Aside0.mk (HTK.out.next hb); have R6 := Aside0.mk (Kd.R_below HRW0.out hb); clear q0 q1; have q1 := T6.out.c1; clear hb)
     go_ret2
     exact ⟨_, rfl, Kd.R_nil _ _ _ _ _, T6.out.low⟩
   | cons b0 br =>
    rw [hl] at q0
    by_cases hc2 : s.2 = false
    ·by_cases hc3 : xs.length ≤ 256
     ·have hr := HR.out
      rw [parseL, if_pos ⟨by rw [hl]; simp, hc2, hc3⟩] at hr
      obtain ⟨⟨x, sF⟩, ham⟩ : ∃ k, Take.actM s = k := ⟨_, rfl⟩
      rw [ham] at hr
      have HAM := Aside0.mk ham
      have HR2 := Aside0.mk hr
      have HX3 := Aside0.mk hc3
      have i3b : decide ((xs.length : Int) ≤ 256) = true := decide_eq_true (by omega)
      rw [hc2] at q1
      clear hr ham HR hl hc2 hc3 HH
      go_wp2_with (first | (go_at_call 25; refine (Take.act w g s wr HTK.out HE x sF HAM.out).mono ?_; rintro e w6 ⟨v9, rfl, hv, hT, hF⟩; have T6 := Aside0.mk hT; have HWS := Aside0.mk HSZ0.out; have HSZ := Aside0.mk (Nat.le_trans HSZ0.out hF.size); have HV := Aside0.mk hv; have HRW := Aside0.mk (Kd.R_mono (Kd.R_step (Kd.R_types HRW0.out HTK.out.blk (by decide)) (fun k hk hlt => hF.blk k hlt hk.2)) (fun _ _ => trivial)); clear hv hT hF q0 q1) | ((with_reducible refine gate_builtin (b := .append) (xs := #[.tmp 28, .tmp 31]) rfl ?_); at_builtin; refine Kd.R_append k40 (w0 := w6) wE.heap.size rfl (.tmp 28) (.tmp 31) 22 40 (.agg #[(.int .i64 0), (.int .i64 0), (.int .i64 0), (.int .i64 0), (.int .i64 0), (.int .i64 0), (.bool false), (.string (⟨#[]⟩ : ByteArray)), (.int .i64 0), (.slice none 0 0)]) 104 rfl Tryd.underlying22 script_Parse.info rfl (by decide) (by omega) (.slice A xs.length cc) xs x [.int .i64 x.f0, .int .i64 x.f1, .int .i64 x.f2, .int .i64 x.f3, .int .i64 x.f4, .int .i64 x.f5, .bool x.f6, .string x.f7, .int .i64 x.f8.f0, v9] (fun _ => True) (fun k => True ∧ some k ≠ (.slice A xs.length cc : Value).ownBlock) rfl rfl ?aP (fun _ hk => ⟨trivial, hk.2⟩) ?aF ?aO ?aB ?aS ?aL ?_; (case aP => exact k40_mkM _ _ _ x (Kd.R_apartR (Kd.R_lower HV.out HWS.out) HRW.out (by decide))); (case aB => exact Below.refl _ _); (case aF => exact (fun _ _ => trivial)); (case aO => exact HRW.out); (case aS => exact HSZ.out); (case aL => have := HX3.out; omega); intro vN w7 ho hb hg hat; have HRW2 := Aside0.mk ho; have T7 := Aside0.mk (T6.out.lowN hb HGE.out HW0.out); have S7 := Aside0.mk (Nat.le_trans HSZ.out hb.size); clear ho hb hg hat))
      go_roundg k1
      case measure => have := HX.out; omega
      case rel =>
       have h1 := HX.out
       have h2 := HX3.out
       exact ⟨_, xs ++ [x], sF, rfl, ⟨by rw [List.length_append, List.length_singleton]; omega, by rw [List.length_append, List.length_singleton]; omega⟩, T7, S7, HRW2, HR2⟩
     ·have hcond : ¬ (s.1 ≠ [] ∧ s.2 = false ∧ xs.length ≤ 256) := fun q => hc3 q.2.2
      have hr := HR.out
      rw [parseL, if_neg hcond] at hr
      have HFF := Aside0.mk (show (script_Show.f k xs).bind (fun u => (if s.2 = true then some ([], 2300) else (if u.2 = 0 then (if u.1 = a0 then some (xs, 0) else some ([], 2300)) else some ([], 2300)))) = some (r1, r2) by have h9 := HH.out; rw [← hr] at h9; exact h9)
      clear hr HR HH
      have i3b : decide ((xs.length : Int) ≤ 256) = false := decide_eq_false (by omega)
      rw [hc2] at q1
      clear hcond hc3 hl
      obtain ⟨⟨u1, u2⟩, hsh, hh⟩ := Option.bind_eq_some_iff.mp HFF.out
      have HSH := Aside0.mk hsh
      clear hsh
      cases hs2 : s.2
      ·rw [hs2] at hh HTK
       rw [if_neg (by decide)] at hh
       by_cases h0 : u2 = 0
       ·rw [if_pos h0] at hh
        subst h0
        by_cases h1 : u1 = a0
        ·rw [if_pos h1] at hh
         obtain ⟨rfl, rfl⟩ : xs = r1 ∧ 0 = r2 := by simpa using hh
         subst h1
         clear hh
         go_wp2_with (go_at_call 8; refine (script_Show.calls k A cc xs _ _ _ (Kd.R_reads' HRW0.out).2.2 (Kd.R_reads' HRW0.out).2.1 (HLD.out.below HTK.out.low) HSH.out).mono ?_; rintro e w6 ⟨rfl, hb⟩; have T6 := Aside0.mk (HTK.out.next hb); have R6 := Aside0.mk (Kd.R_below HRW0.out hb); clear q0 q1; have q1 := T6.out.c1; clear hb)
         go_ret2
         exact ⟨_, rfl, Kd.R_lower R6.out HW0.out, T6.out.low⟩
        ·rw [if_neg h1] at hh
         obtain ⟨rfl, rfl⟩ : [] = r1 ∧ 2300 = r2 := by simpa using hh
         have hne := bytes_ne h1
         clear hh h1
         go_wp2_with (go_at_call 8; refine (script_Show.calls k A cc xs _ _ _ (Kd.R_reads' HRW0.out).2.2 (Kd.R_reads' HRW0.out).2.1 (HLD.out.below HTK.out.low) HSH.out).mono ?_; rintro e w6 ⟨rfl, hb⟩; have T6 := Aside0.mk (HTK.out.next hb); have R6 := Aside0.mk (Kd.R_below HRW0.out hb); clear q0 q1; have q1 := T6.out.c1; clear hb)
         go_ret2
         exact ⟨_, rfl, Kd.R_nil _ _ _ _ _, T6.out.low⟩
       ·rw [if_neg h0] at hh
        obtain ⟨rfl, rfl⟩ : [] = r1 ∧ 2300 = r2 := by simpa using hh
        have h0b : (u2 != 0) = true := bne_iff_ne.2 h0
        have h0c : (u2 == 0) = false := beq_eq_false_iff_ne.2 h0
        clear hh h0
        go_wp2_with (go_at_call 8; refine (script_Show.calls k A cc xs _ _ _ (Kd.R_reads' HRW0.out).2.2 (Kd.R_reads' HRW0.out).2.1 (HLD.out.below HTK.out.low) HSH.out).mono ?_; rintro e w6 ⟨rfl, hb⟩; have T6 := Aside0.mk (HTK.out.next hb); have R6 := Aside0.mk (Kd.R_below HRW0.out hb); clear q0 q1; have q1 := T6.out.c1; clear hb)
        go_ret2
        exact ⟨_, rfl, Kd.R_nil _ _ _ _ _, T6.out.low⟩
      ·rw [hs2] at hh HTK
       rw [if_pos rfl] at hh
       obtain ⟨rfl, rfl⟩ : [] = r1 ∧ 2300 = r2 := by simpa using hh
       clear hh
       go_wp2_with (go_at_call 8; refine (script_Show.calls k A cc xs _ _ _ (Kd.R_reads' HRW0.out).2.2 (Kd.R_reads' HRW0.out).2.1 (HLD.out.below HTK.out.low) HSH.out).mono ?_; rintro e w6 ⟨rfl, hb⟩; have T6 := Aside0.mk (HTK.out.next hb); have R6 := Aside0.mk (Kd.R_below HRW0.out hb); clear q0 q1; have q1 := T6.out.c1; clear hb)
       go_ret2
       exact ⟨_, rfl, Kd.R_nil _ _ _ _ _, T6.out.low⟩
    ·have hc2t : s.2 = true := by simpa using hc2
     have hcond : ¬ (s.1 ≠ [] ∧ s.2 = false ∧ xs.length ≤ 256) := fun q => hc2 q.2.1
     have hr := HR.out
     rw [parseL, if_neg hcond] at hr
     have HFF := Aside0.mk (show (script_Show.f k xs).bind (fun u => (if s.2 = true then some ([], 2300) else (if u.2 = 0 then (if u.1 = a0 then some (xs, 0) else some ([], 2300)) else some ([], 2300)))) = some (r1, r2) by have h9 := HH.out; rw [← hr] at h9; exact h9)
     clear hr HR HH
     rw [hc2t] at q1
     clear hcond hl
     obtain ⟨⟨u1, u2⟩, hsh, hh⟩ := Option.bind_eq_some_iff.mp HFF.out
     have HSH := Aside0.mk hsh
     clear hsh
     cases hs2 : s.2
     ·rw [hs2] at hh HTK
      rw [if_neg (by decide)] at hh
      by_cases h0 : u2 = 0
      ·rw [if_pos h0] at hh
       subst h0
       by_cases h1 : u1 = a0
       ·rw [if_pos h1] at hh
        obtain ⟨rfl, rfl⟩ : xs = r1 ∧ 0 = r2 := by simpa using hh
        subst h1
        clear hh
        go_wp2_with (go_at_call 8; refine (script_Show.calls k A cc xs _ _ _ (Kd.R_reads' HRW0.out).2.2 (Kd.R_reads' HRW0.out).2.1 (HLD.out.below HTK.out.low) HSH.out).mono ?_; rintro e w6 ⟨rfl, hb⟩; have T6 := Aside0.mk (HTK.out.next hb); have R6 := Aside0.mk (Kd.R_below HRW0.out hb); clear q0 q1; have q1 := T6.out.c1; clear hb)
        go_ret2
        exact ⟨_, rfl, Kd.R_lower R6.out HW0.out, T6.out.low⟩
       ·rw [if_neg h1] at hh
        obtain ⟨rfl, rfl⟩ : [] = r1 ∧ 2300 = r2 := by simpa using hh
        have hne := bytes_ne h1
        clear hh h1
        go_wp2_with (go_at_call 8; refine (script_Show.calls k A cc xs _ _ _ (Kd.R_reads' HRW0.out).2.2 (Kd.R_reads' HRW0.out).2.1 (HLD.out.below HTK.out.low) HSH.out).mono ?_; rintro e w6 ⟨rfl, hb⟩; have T6 := Aside0.mk (HTK.out.next hb); have R6 := Aside0.mk (Kd.R_below HRW0.out hb); clear q0 q1; have q1 := T6.out.c1; clear hb)
        go_ret2
        exact ⟨_, rfl, Kd.R_nil _ _ _ _ _, T6.out.low⟩
      ·rw [if_neg h0] at hh
       obtain ⟨rfl, rfl⟩ : [] = r1 ∧ 2300 = r2 := by simpa using hh
       have h0b : (u2 != 0) = true := bne_iff_ne.2 h0
       have h0c : (u2 == 0) = false := beq_eq_false_iff_ne.2 h0
       clear hh h0
       go_wp2_with (go_at_call 8; refine (script_Show.calls k A cc xs _ _ _ (Kd.R_reads' HRW0.out).2.2 (Kd.R_reads' HRW0.out).2.1 (HLD.out.below HTK.out.low) HSH.out).mono ?_; rintro e w6 ⟨rfl, hb⟩; have T6 := Aside0.mk (HTK.out.next hb); have R6 := Aside0.mk (Kd.R_below HRW0.out hb); clear q0 q1; have q1 := T6.out.c1; clear hb)
       go_ret2
       exact ⟨_, rfl, Kd.R_nil _ _ _ _ _, T6.out.low⟩
     ·rw [hs2] at hh HTK
      rw [if_pos rfl] at hh
      obtain ⟨rfl, rfl⟩ : [] = r1 ∧ 2300 = r2 := by simpa using hh
      clear hh
      go_wp2_with (go_at_call 8; refine (script_Show.calls k A cc xs _ _ _ (Kd.R_reads' HRW0.out).2.2 (Kd.R_reads' HRW0.out).2.1 (HLD.out.below HTK.out.low) HSH.out).mono ?_; rintro e w6 ⟨rfl, hb⟩; have T6 := Aside0.mk (HTK.out.next hb); have R6 := Aside0.mk (Kd.R_below HRW0.out hb); clear q0 q1; have q1 := T6.out.c1; clear hb)
      go_ret2
      exact ⟨_, rfl, Kd.R_nil _ _ _ _ _, T6.out.low⟩


end Go.Proofs.YtnojgkiaolmoeaaDoor.PSc
end
section
/- Contracts: what calls of these functions of the program do, each as a plain function; written by a program of this session. -/
namespace Go.Proofs.YtnojgkiaolmoeaaDoor.PSc
open Go.RowKit Go.Proofs.YtnojgkiaolmoeaaDoorW.PrintWords Go.Proofs.YtnojgkiaolmoeaaDoorW.PrintLast Go.Proofs.YtnojgkiaolmoeaaDoorW.PrintMore
attribute [local go_sem] max2_int min2_int max_two min_two max_three min_three max_four min_four   -- for this text's walks alone
set_option linter.unusedVariables false
set_option linter.unusedSimpArgs false

theorem eqA65 (d : Nat) (w : World) (x0 y0 : Int) (x1 y1 : Bool) :
  (Op.equalIn (d + 2) 65 (.agg #[.int .i64 x0, .bool x1]) (.agg #[.int .i64 y0, .bool y1])).run Tryd.prog w = .ok (x0 == y0 && (x1 == y1)) w := by
 refine eqA_of Tryd.underlying65 (by kernel_rfl) ?_
 refine eqf_cons (by rfl) (by go_simp; rfl) (by go_simp; rfl) (by go_simp) ?_
 exact eqf_last (by rfl) (by go_simp; rfl) (by go_simp; rfl) (by go_simp)
end Go.Proofs.YtnojgkiaolmoeaaDoor.PSc
end
section
/- Contracts: what calls of these functions of the program do, each as a plain function; written by a program of this session. -/
namespace Go.Proofs.YtnojgkiaolmoeaaDoor.PSc
open Go.RowKit Go.Proofs.YtnojgkiaolmoeaaDoorW.PrintWords Go.Proofs.YtnojgkiaolmoeaaDoorW.PrintLast Go.Proofs.YtnojgkiaolmoeaaDoorW.PrintMore
attribute [local go_sem] max2_int min2_int max_two min_two max_three min_three max_four min_four   -- for this text's walks alone
set_option linter.unusedVariables false
set_option linter.unusedSimpArgs false

attribute [local go_sem high] eqA65
-- NOT PRINTED: function 28 (wharfageref19_words_config)

-- NOT PRINTED: function 11 (wharfageref19_ParseActs)

/-! ### wharfagelaw0_Num: function 12 -/
def wharfagelaw0_Num.f (a0 : Int) : Option (Int) := some a0
set_option maxHeartbeats 8000000 in
set_option maxRecDepth 100000 in
theorem wharfagelaw0_Num.calls (a0 : Int) (r : Int) (w : World) (h : wharfagelaw0_Num.f a0 = some r) :
  Calls Tryd.prog 12 #[.int .i64 a0] w fun e w' => e = .returned (.int .i64 r) ∧ Drawn0 w w' := by
 have H : (some a0) = some r := h
 clear h
 obtain rfl := Option.some.inj H
 go_enter Tryd.func12, Tryd.ntmps12
 go_wp2
 go_ret
 exact ⟨by first | rfl | (simp; done) | (simp [*]; done), by repeat (first | exact Drawn0.refl _ | apply Drawn0.step)⟩

/-! ### wharfagelaw0_SameBacks: function 47 -/
def wharfagelaw0_SameBacks.l0 : Nat → List (S65) → List (S65) → Int → Option (Bool)
 | 0, _, _, _ => none
 | k + 1, x0, x1, x5 => if x5 < (x0.length : Int) then (if 0 ≤ x5 then (if x5 < (x1.length : Int) then (if (!(((rd_T65 x0 x5).f0) == ((rd_T65 x1 x5).f0)) || (!(((rd_T65 x0 x5).f1) == ((rd_T65 x1 x5).f1)))) = true then (none) else (wharfagelaw0_SameBacks.l0 k x0 x1 (wrap64 (x5 + 1)))) else (none)) else (none)) else (some true)
def wharfagelaw0_SameBacks.f (k : Nat) (l0 : List (S65)) (l1 : List (S65)) : Option (Bool) := if (l0.length : Int) = (l1.length : Int) then (wharfagelaw0_SameBacks.l0 k l0 l1 0) else (none)
theorem wharfagelaw0_SameBacks.mono_l : ∀ k, (∀ y0 y1 y2, LeO (wharfagelaw0_SameBacks.l0 k y0 y1 y2) (wharfagelaw0_SameBacks.l0 (k + 1) y0 y1 y2))
 | 0 => fun _ _ _ r h => by simp [wharfagelaw0_SameBacks.l0] at h
 | k + 1 => by
  have ih0 := wharfagelaw0_SameBacks.mono_l k
  ·intro y0 y1 y2
   unfold wharfagelaw0_SameBacks.l0
   repeat' first
   | (with_reducible exact ih0 _ _ _)
   | (with_reducible exact LeO.refl _)
   | (with_reducible exact LeO.none _)
   | (with_reducible refine LeO.ite ?_ ?_)
   | (with_reducible refine LeO.bind ?_ (fun _ => ?_))
   | exact ih0 _ _ _
   | exact LeO.none _
   | refine LeO.ite ?_ ?_
   | refine LeO.bind ?_ (fun _ => ?_)
theorem wharfagelaw0_SameBacks.mono : ∀ a0 a1 k, LeO (wharfagelaw0_SameBacks.f k a0 a1) (wharfagelaw0_SameBacks.f (k + 1) a0 a1) := by
 intro a0 a1 k
 have ih0 := wharfagelaw0_SameBacks.mono_l k
 unfold wharfagelaw0_SameBacks.f
 repeat' first
   | (with_reducible exact ih0 _ _ _)
   | (with_reducible exact LeO.refl _)
   | (with_reducible exact LeO.none _)
   | (with_reducible refine LeO.ite ?_ ?_)
   | (with_reducible refine LeO.bind ?_ (fun _ => ?_))
   | exact ih0 _ _ _
   | exact LeO.none _
   | refine LeO.ite ?_ ?_
   | refine LeO.bind ?_ (fun _ => ?_)
set_option maxHeartbeats 8000000 in
set_option maxRecDepth 100000 in
theorem wharfagelaw0_SameBacks.calls (k : Nat) (A0 : Option Addr) (c0 : Nat) (l0 : List (S65)) (A1 : Option Addr) (c1 : Nat) (l1 : List (S65)) (r : Bool) (w : World) (hr0 : Kd.C k65 w A0 l0.length l0) (hc0 : l0.length ≤ c0) (hr1 : Kd.C k65 w A1 l1.length l1) (hc1 : l1.length ≤ c1) (h : wharfagelaw0_SameBacks.f k l0 l1 = some r) :
  Calls Tryd.prog 47 #[.slice A0 l0.length c0, .slice A1 l1.length c1] w fun e w' => e = .returned (.bool r) ∧ Drawn0 w w' := by
 have hu65 := Tryd.underlying65
 have HR0 := Aside0.mk hr0
 have HC0 := Aside0.mk hc0
 clear hr0 hc0
 have HR1 := Aside0.mk hr1
 have HC1 := Aside0.mk hc1
 clear hr1 hc1
 have H : (if (l0.length : Int) = (l1.length : Int) then (wharfagelaw0_SameBacks.l0 k l0 l1 0) else (none)) = some r := h
 clear h
 by_cases c3 : (l0.length : Int) = (l1.length : Int)
 ·rw [if_pos c3] at H
  have c3b0 : ((l0.length : Int) == (l1.length : Int)) = true := beq_iff_eq.mpr c3
  have c3b1 : ((l0.length : Int) != (l1.length : Int)) = false := bne_eq_false_iff_eq.mpr c3
  have c3b2 : (l0.length == l1.length) = true := by first | simpa using c3 | (simp at c3 ⊢; omega)
  clear c3
  have H' := Aside0.mk H
  clear H
  go_enter Tryd.func47, Tryd.ntmps47
  go_wp2
  repeat (go_quiet (fail); try go_wp2)
  go_loopg [5] k (fun kq v5 w' => ∃ (x5_1 : Int), v5 = .int .i64 x5_1 ∧ Aside0 (wharfagelaw0_SameBacks.l0 kq l0 l1 x5_1 = some r) ∧ Aside0 (kq ≤ k) ∧ Drawn0 w w')
  case atStart => exact ⟨(0), (by first | rfl | (simp; done) | (simp [*]; done)), H', ⟨Nat.le_refl _⟩, by repeat (first | exact Drawn0.refl _ | apply Drawn0.step)⟩
  case round =>
   clear H'
   try clear c1
   try clear p2
   try clear c3
   try clear c3b0
   try clear c3b1
   try clear c3b2
   obtain ⟨x5_1, rfl, HA, HK1, ⟨m1, rfl⟩⟩ := hrel
   cases gk with
   | zero => exact absurd HA.out (by simp [wharfagelaw0_SameBacks.l0])
   | succ k1 =>
    have H := HA.out
    clear HA
    simp only [wharfagelaw0_SameBacks.l0] at H
    by_cases c4 : x5_1 < (l0.length : Int)
    ·rw [if_pos c4] at H
     have c4b0 : decide (x5_1 < (l0.length : Int)) = true := decide_eq_true c4
     clear c4
     by_cases c5 : 0 ≤ x5_1
     ·rw [if_pos c5] at H
      have c5b0 : decide (0 ≤ x5_1) = true := decide_eq_true c5
      clear c5
      by_cases c6 : x5_1 < (l1.length : Int)
      ·rw [if_pos c6] at H
       have c6b0 : decide (x5_1 < (l1.length : Int)) = true := decide_eq_true c6
       clear c6
       by_cases c7 : (!(((rd_T65 l0 x5_1).f0) == ((rd_T65 l1 x5_1).f0)) || (!(((rd_T65 l0 x5_1).f1) == ((rd_T65 l1 x5_1).f1)))) = true
       ·rw [if_pos c7] at H
        exact absurd H (by simp)
       ·rw [if_neg c7] at H
        have c7b0 : (!(((rd_T65 l0 x5_1).f0) == ((rd_T65 l1 x5_1).f0)) || (!(((rd_T65 l0 x5_1).f1) == ((rd_T65 l1 x5_1).f1)))) = false := by simpa using c7
        clear c7
        have H' := Aside0.mk H
        clear H
        have p228 : 0 ≤ (x5_1 : Int) := of_decide_eq_true (by first | (with_reducible assumption) | assumption)
        have q228 : x5_1 < (l0.length : Int) := of_decide_eq_true (by first | (with_reducible assumption) | assumption)
        obtain ⟨ad228, e228, hx228_0, hx228_1⟩ := at_T65 HR0.out x5_1 p228 q228
        cases e228
        replace p228 := eq_true p228
        replace q228 := eq_true q228
        have p229 : 0 ≤ (x5_1 : Int) := of_decide_eq_true (by first | (with_reducible assumption) | assumption)
        have q229 : x5_1 < (l1.length : Int) := of_decide_eq_true (by first | (with_reducible assumption) | assumption)
        obtain ⟨ad229, e229, hx229_0, hx229_1⟩ := at_T65 HR1.out x5_1 p229 q229
        cases e229
        replace p229 := eq_true p229
        replace q229 := eq_true q229
        go_wp2
        repeat (go_quiet (fail); try go_wp2)
        go_roundg k1
        case measure => have := HK1.out; omega
        case rel => exact ⟨(wrap64 (x5_1 + 1)), (by first | rfl | (simp; done) | (simp [*]; done)), H', ⟨by have := HK1.out; omega⟩, by repeat (first | exact Drawn0.refl _ | apply Drawn0.step)⟩
      ·rw [if_neg c6] at H
       exact absurd H (by simp)
     ·rw [if_neg c5] at H
      exact absurd H (by simp)
    ·rw [if_neg c4] at H
     have c4b0 : decide (x5_1 < (l0.length : Int)) = false := decide_eq_false c4
     clear c4
     obtain rfl := Option.some.inj H
     go_wp2
     repeat (go_quiet (fail); try go_wp2)
     go_ret
     exact ⟨by first | rfl | (simp; done) | (simp [*]; done), by repeat (first | exact Drawn0.refl _ | apply Drawn0.step)⟩
 ·rw [if_neg c3] at H
  exact absurd H (by simp)

end Go.Proofs.YtnojgkiaolmoeaaDoor.PSc
end
section
/- Contracts: what calls of these functions of the program do, each as a plain function; written by a program of this session. -/
namespace Go.Proofs.YtnojgkiaolmoeaaDoor.PSc
open Go.RowKit Go.Proofs.YtnojgkiaolmoeaaDoorW.PrintWords Go.Proofs.YtnojgkiaolmoeaaDoorW.PrintLast Go.Proofs.YtnojgkiaolmoeaaDoorW.PrintMore
attribute [local go_sem] max2_int min2_int max_two min_two max_three min_three max_four min_four   -- for this text's walks alone
set_option linter.unusedVariables false
set_option linter.unusedSimpArgs false

/-! ### wharfagelaw0_SameConfig: function 29, by hand -/
instance wharfagelaw0_SameConfig.decB : DecidableEq S65 := fun a b => decidable_of_iff (a.f0 = b.f0 ∧ a.f1 = b.f1) (by cases a; cases b; simp)
instance wharfagelaw0_SameConfig.decS : DecidableEq S63 := fun a b => decidable_of_iff (a.f0 = b.f0 ∧ a.f1 = b.f1 ∧ a.f2 = b.f2 ∧ a.f3 = b.f3) (by cases a; cases b; simp)
def wharfagelaw0_SameConfig.f (k : Nat) (a0 : Int) (l0 : List S63) (a1 : Int) (l1 : List S63) : Option Bool := if a0 = a1 ∧ l0 = l1 ∧ l0.length < 2932031007402 ∧ (∀ x ∈ l0, x.f3.length < k ∧ x.f3.length < 8796093022208) then some true else none
theorem wharfagelaw0_SameConfig.mono : ∀ a0 a1 a2 a3 k, LeO (wharfagelaw0_SameConfig.f k a0 a1 a2 a3) (wharfagelaw0_SameConfig.f (k + 1) a0 a1 a2 a3) := by
 intro a0 a1 a2 a3 k
 unfold wharfagelaw0_SameConfig.f
 by_cases h : a0 = a2 ∧ a1 = a3 ∧ a1.length < 2932031007402 ∧ (∀ x ∈ a1, x.f3.length < k ∧ x.f3.length < 8796093022208)
 ·rw [if_pos h, if_pos ⟨h.1, h.2.1, h.2.2.1, fun x hx => ⟨Nat.lt_succ_of_lt (h.2.2.2 x hx).1, (h.2.2.2 x hx).2⟩⟩]
  exact LeO.refl _
 ·rw [if_neg h]
  exact LeO.none _
theorem wharfagelaw0_SameConfig.backs (l : List S65) (hl : l.length ≤ 9223372036854775806) (d : Nat) : ∀ (k i : Nat), l.length - i ≤ d → d < k → i ≤ l.length → wharfagelaw0_SameBacks.l0 k l l (i : Int) = some true := by
 induction d with
 | zero =>
  intro k i hd hk hi
  obtain ⟨k, rfl⟩ : ∃ m, k = m + 1 := ⟨k - 1, by omega⟩
  simp only [wharfagelaw0_SameBacks.l0]
  rw [if_neg (by omega)]
 | succ d ih =>
  intro k i hd hk hi
  obtain ⟨k, rfl⟩ : ∃ m, k = m + 1 := ⟨k - 1, by omega⟩
  simp only [wharfagelaw0_SameBacks.l0]
  by_cases h : (i : Int) < (l.length : Int)
  ·rw [if_pos h, if_pos (by omega), if_pos h, if_neg (by simp), show wrap64 ((i : Int) + 1) = ((i + 1 : Nat) : Int) by unfold wrap64; omega]
   exact ih k (i + 1) (by omega) (by omega) (by omega)
  ·rw [if_neg h]
theorem wharfagelaw0_SameConfig.backs_f (l : List S65) (hl : l.length ≤ 9223372036854775806) (k : Nat) (hk : l.length < k) : wharfagelaw0_SameBacks.f k l l = some true := by
 unfold wharfagelaw0_SameBacks.f
 rw [if_pos rfl]
 exact wharfagelaw0_SameConfig.backs l hl l.length k 0 (by omega) hk (by omega)
theorem wharfagelaw0_SameConfig.cn_lt {w : World} {b : Nat} {o : Obj} (h : w.heap[b]? = some o) : b < w.heap.size := (Array.getElem?_eq_some_iff.1 h).1
theorem wharfagelaw0_SameConfig.cn_below {w w1 : World} {b : Nat} {o : Obj} (h : w.heap[b]? = some o) (hb : Below w.heap.size w w1) : w1.heap[b]? = some o := (hb.block b (wharfagelaw0_SameConfig.cn_lt h)).trans h
theorem wharfagelaw0_SameConfig.cn_alloc {w : World} {b : Nat} {o : Obj} (h : w.heap[b]? = some o) (o2 : Obj) : (w.alloc o2).heap[b]? = some o := (Below.heap_alloc w o2 _ (wharfagelaw0_SameConfig.cn_lt h)).trans h
theorem wharfagelaw0_SameConfig.cn_cell {w : World} {b j : Nat} {cs : Array Value} {t : TypeId} {m : Nat × Nat} (h : w.heap[b]? = some (.cells cs t m)) : w.cell? ⟨b, j, none⟩ = cs[j]? := by simp [World.cell?, h]
theorem wharfagelaw0_SameConfig.cn_free {w : World} {b j : Nat} {cs : Array Value} {t : TypeId} (h : w.heap[b]? = some (.cells cs t (0, 0))) : w.frozen? ⟨b, j, none⟩ = false := by simp [World.frozen?, h]
theorem wharfagelaw0_SameConfig.tab6 : rtab .any (opsOf Tryd.f29 6) = rtab .any (opsOf Tryd.f29 6) := rfl
def wharfagelaw0_SameConfig.B6 : List Nat := [0, 1, 0, 7, 15, 0, 32, 0, 224, 480, 0, 0, 3103, 8191]
theorem wharfagelaw0_SameConfig.bits6 : waitsOk (rtab .any (opsOf Tryd.f29 6)).2 wharfagelaw0_SameConfig.B6 = true := by kernel_rfl
set_option maxHeartbeats 8000000 in
set_option maxRecDepth 100000 in
theorem wharfagelaw0_SameConfig.calls (k : Nat) (a0 : Int) (A0 : Option Addr) (c0 : Nat) (l : List S63) (a1 : Int) (A1 : Option Addr) (c1 : Nat) (l1 : List S63) (r : Bool) (w : World) (hr0 : Kd.C k63 w A0 l.length l) (hc0 : l.length ≤ c0) (hr1 : Kd.C k63 w A1 l1.length l1) (hc1 : l1.length ≤ c1) (h : wharfagelaw0_SameConfig.f k a0 l a1 l1 = some r) :
    Calls Tryd.prog 29 #[.agg #[.int .i64 a0, .slice A0 l.length c0], .agg #[.int .i64 a1, .slice A1 l1.length c1]] w fun e w' => e = .returned (.bool r) ∧ Below w.heap.size w w' := by
  unfold wharfagelaw0_SameConfig.f at h
  by_cases hh : a0 = a1 ∧ l = l1 ∧ l.length < 2932031007402 ∧ (∀ x ∈ l, x.f3.length < k ∧ x.f3.length < 8796093022208)
  case neg => rw [if_neg hh] at h; cases h
  rw [if_pos hh] at h
  obtain rfl : true = r := Option.some.inj h
  obtain ⟨rfl, rfl, hll, hk⟩ := hh
  have HLL := Aside0.mk hll
  have hu24 := Tryd.underlying38
  have hu53 := Tryd.underlying63
  have HR0 := Aside0.mk hr0
  have HR1 := Aside0.mk hr1
  have HC0 := Aside0.mk hc0
  have HC1 := Aside0.mk hc1
  have HK := Aside0.mk hk
  clear hr0 hr1 h hk hc0 hc1 hll
  have ea : (a0 != a0) = false := bne_self_eq_false a0
  have eb : (a0 == a0) = true := beq_self_eq_true a0
  have ec : ((l.length : Int) != (l.length : Int)) = false := bne_self_eq_false _
  have ed : ((l.length : Int) == (l.length : Int)) = true := beq_self_eq_true _
  go_enter Tryd.func29, Tryd.ntmps29
  go_upto_region 3 with fail
  obtain ⟨n1, hn1⟩ : ∃ n, n = w.heap.size + 1 := ⟨_, rfl⟩
  obtain ⟨n0, hn0⟩ : ∃ n, n = w.heap.size := ⟨_, rfl⟩
  obtain ⟨wb, hwb⟩ : ∃ x_, x_ = (w.alloc (.cells #[.int .i64 a0, .slice A0 l.length c0] 38)).alloc (.cells #[.int .i64 a0, .slice A1 l.length c1] 38) := ⟨_, rfl⟩
  have H0 := Aside0.mk (show wb.heap[n0]? = some (.cells #[.int .i64 a0, .slice A0 l.length c0] 38 (0, 0)) by rw [hwb, hn0]; exact wharfagelaw0_SameConfig.cn_alloc (heap_alloc_new w _) _)
  have H1 := Aside0.mk (show wb.heap[n1]? = some (.cells #[.int .i64 a0, .slice A1 l.length c1] 38 (0, 0)) by rw [hwb, hn1]; simpa only [World.size_alloc] using heap_alloc_new (w.alloc (.cells #[.int .i64 a0, .slice A0 l.length c0] 38)) (.cells #[.int .i64 a0, .slice A1 l.length c1] 38 (0, 0)))
  have HB := Aside0.mk (show Below w.heap.size w wb by rw [hwb]; exact below_alloc (below_alloc (Below.refl _ _) _) _)
  rw [← hwb, ← hn1, ← hn0]
  clear hwb hn0 hn1 ea eb ec ed
  go_wp2_with fail
  go_loopg [5] (l.length + 1) (fun kq v5 w' => ∃ (i : Nat), v5 = .int .i64 (i : Int) ∧ Aside0 (i ≤ l.length ∧ (kq : Int) + i = l.length + 1) ∧ Aside0 (Below wb.heap.size wb w'))
  case atStart => exact ⟨0, rfl, ⟨by omega⟩, ⟨Below.refl _ _⟩⟩
  case round =>
    obtain ⟨i, rfl, HX, HBW⟩ := hrel
    cases gk with
    | zero => have := HX.out; omega
    | succ k1 =>
      have m0 : wr.cell? ⟨n0, 1, none⟩ = some (.slice A0 l.length c0) := (wharfagelaw0_SameConfig.cn_cell (wharfagelaw0_SameConfig.cn_below H0.out HBW.out)).trans rfl
      by_cases c3 : (i : Int) < (l.length : Int)
      · have c3b := decide_eq_true c3
        have p1 : (0 : Int) ≤ (i : Int) := by omega
        have p1b := decide_eq_true p1
        obtain ⟨ad, A9, c9, ea, hx0, hx1, hx2, hx3, hlx, hix⟩ := at_T63 (Kd.C_below HR0.out (below_step HB.out HBW.out)) (i : Int) p1 c3
        obtain ⟨bd, B9, d9, eb, hy0, hy1, hy2, hy3, hly, hiy⟩ := at_T63 (Kd.C_below HR1.out (below_step HB.out HBW.out)) (i : Int) p1 c3
        cases ea
        cases eb
        obtain ⟨x, hx⟩ : ∃ x, rd_T63 l (i : Int) = x := ⟨_, rfl⟩
        have HXK := Aside0.mk (show x.f3.length < k ∧ x.f3.length < 8796093022208 by
          have hlt : i < l.length := by omega
          have e9 : rd_T63 l (i : Int) = l[i] := by simp [rd_T63, hlt]
          rw [← hx, e9]
          exact HK.out _ (List.getElem_mem hlt))
        rw [hx] at hx0 hx1 hx2 hx3 hlx hix hy0 hy1 hy2 hy3 hly hiy
        rw [Int.toNat_natCast] at hx0 hx1 hx2 hx3 hy0 hy1 hy2 hy3
        have HX0 := Aside0.mk hx0
        have HX1 := Aside0.mk hx1
        have HX2 := Aside0.mk hx2
        have HX3 := Aside0.mk hx3
        have HY0 := Aside0.mk hy0
        have HY1 := Aside0.mk hy1
        have HY2 := Aside0.mk hy2
        have HY3 := Aside0.mk hy3
        have HLX := Aside0.mk hlx
        have HIX := Aside0.mk hix
        have HLY := Aside0.mk hly
        have HIY := Aside0.mk hiy
        have c3' := eq_true c3
        have p1' := eq_true p1
        have hlen := hix.1
        clear hx hx0 hx1 hx2 hx3 hy0 hy1 hy2 hy3 hlx hix hly hiy
        go_upto_region 6 with fail
        refine start_ (n := 14) (S := fun w' => True) (ds := []) #[false, false, false, false, false, false, false, false, false, false, false, false, false, false] (by kernel_rfl) rfl rfl trivial (fun hHeld => ?_); refine with_tabW wharfagelaw0_SameConfig.tab6 wharfagelaw0_SameConfig.bits6 (fun HT_ HW_ => ?_)
        refine inv_at [0, 1, 2, 3, 4, 5, 6, 7, 8, 9, 10, 11, 12, 13] (fun a0_ b a w' => ∃ (gx gy : Nat), a = putSel a0_ b [(0, 29, .pointer (some ⟨n0, 1, none⟩)), (1, 30, .slice (some ad) l.length c0), (2, 31, .int .i64 (i : Int)), (3, 32, .pointer (some (ad.add (i * 4)))), (4, 33, .agg #[.int .i64 x.f0, .bool x.f1, .int .i64 x.f2, .slice A9 x.f3.length c9]), (5, 34, .pointer (some ⟨n1, 1, none⟩)), (6, 35, .slice (some bd) l.length c1), (7, 36, .int .i64 (i : Int)), (8, 37, .pointer (some (bd.add (i * 4)))), (9, 38, .agg #[.int .i64 x.f0, .bool x.f1, .int .i64 x.f2, .slice B9 x.f3.length d9]), (10, 6, .pointer (some ⟨gx, 0, none⟩)), (11, 7, .pointer (some ⟨gy, 0, none⟩))] ∧ Below wr.heap.size wr w' ∧ (b 10 = true → wr.heap.size ≤ gx) ∧ (b 11 = true → wr.heap.size ≤ gy) ∧ (b 10 = true → b 11 = true → gx ≠ gy) ∧ (b 10 = true → b 12 = false → w'.heap[gx]? = some (.cells #[.int .i64 0, .bool false, .int .i64 0, .slice none 0 0] 63 (0, 0))) ∧ (b 12 = true → w'.heap[gx]? = some (.cells #[.int .i64 x.f0, .bool x.f1, .int .i64 x.f2, .slice A9 x.f3.length c9] 63 (0, 0))) ∧ (b 11 = true → b 13 = false → w'.heap[gy]? = some (.cells #[.int .i64 0, .bool false, .int .i64 0, .slice none 0 0] 63 (0, 0))) ∧ (b 13 = true → w'.heap[gy]? = some (.cells #[.int .i64 x.f0, .bool x.f1, .int .i64 x.f2, .slice B9 x.f3.length d9] 63 (0, 0)))) HT_.out HW_.out (by kernel_rfl) (by kernel_rfl) ?_ ?_ ?_
        · exact ⟨0, 0, by simp only [putSel, Bool.false_eq_true, if_false], below_drew1 (Below.refl _ _), fun h_ => absurd h_ (by decide), fun h_ => absurd h_ (by decide), fun h_ => absurd h_ (by decide), fun h_ => absurd h_ (by decide), fun h_ => absurd h_ (by decide), fun h_ => absurd h_ (by decide), fun h_ => absurd h_ (by decide)⟩
        · skip
          refine steps_cons ?_ ?_
          · rintro b a w' ⟨gx, gy, ha, QB, GX, GY, NE, X0, X1, Y0, Y1⟩ hb_ hon hoff
            refine ⟨_, rfl, fun K hK => ?_⟩
            have e2 : a.tmps[2]? = some (.pointer (some ⟨n0, 0, none⟩)) := by rw [ha]; exact (putSel_off rfl).trans rfl
            replace ha := Aside0.mk ha
            refine value_ (w1 := w') (v := .pointer (some ⟨n0, 1, none⟩)) (by rfl) rfl ?_ ?_
            · go_simp
              try rfl
            exact hK.out _ _ ⟨gx, gy, (by rw [ha.out]; exact putSel_upk 0 hb_ rfl rfl rfl), QB, GX, GY, NE, X0, X1, Y0, Y1⟩
          refine steps_cons ?_ ?_
          · rintro b a w' ⟨gx, gy, ha, QB, GX, GY, NE, X0, X1, Y0, Y1⟩ hb_ hon hoff
            refine ⟨_, rfl, fun K hK => ?_⟩
            have e29 : a.tmps[29]? = some (.pointer (some ⟨n0, 1, none⟩)) := by rw [ha]; exact putSel_on (e := (0, 29, .pointer (some ⟨n0, 1, none⟩))) 0 rfl rfl (hon 0 (by kernel_rfl)) rfl
            have q1 : w'.cell? ⟨n0, 1, none⟩ = some (.slice (some ad) l.length c0) := (wharfagelaw0_SameConfig.cn_cell (wharfagelaw0_SameConfig.cn_below H0.out (below_step HBW.out QB))).trans rfl
            replace ha := Aside0.mk ha
            refine value_ (w1 := w') (v := .slice (some ad) l.length c0) (by rfl) rfl ?_ ?_
            · go_simp
              try rfl
            exact hK.out _ _ ⟨gx, gy, (by rw [ha.out]; exact putSel_upk 1 hb_ rfl rfl rfl), QB, GX, GY, NE, X0, X1, Y0, Y1⟩
          refine steps_cons ?_ ?_
          · rintro b a w' ⟨gx, gy, ha, QB, GX, GY, NE, X0, X1, Y0, Y1⟩ hb_ hon hoff
            refine ⟨_, rfl, fun K hK => ?_⟩
            have e5 : a.tmps[5]? = some (.int .i64 (i : Int)) := by rw [ha]; exact (putSel_off rfl).trans rfl
            replace ha := Aside0.mk ha
            refine value_ (w1 := w') (v := .int .i64 (i : Int)) (by rfl) rfl ?_ ?_
            · go_simp
              try rfl
            exact hK.out _ _ ⟨gx, gy, (by rw [ha.out]; exact putSel_upk 2 hb_ rfl rfl rfl), QB, GX, GY, NE, X0, X1, Y0, Y1⟩
          refine steps_cons ?_ ?_
          · rintro b a w' ⟨gx, gy, ha, QB, GX, GY, NE, X0, X1, Y0, Y1⟩ hb_ hon hoff
            refine ⟨_, rfl, fun K hK => ?_⟩
            have e30 : a.tmps[30]? = some (.slice (some ad) l.length c0) := by rw [ha]; exact putSel_on (e := (1, 30, .slice (some ad) l.length c0)) 1 rfl rfl (hon 1 (by kernel_rfl)) rfl
            have e31 : a.tmps[31]? = some (.int .i64 (i : Int)) := by rw [ha]; exact putSel_on (e := (2, 31, .int .i64 (i : Int))) 2 rfl rfl (hon 2 (by kernel_rfl)) rfl
            replace ha := Aside0.mk ha
            refine value_ (w1 := w') (v := .pointer (some (ad.add (i * 4)))) (by rfl) rfl ?_ ?_
            · go_simp
              try rfl
            exact hK.out _ _ ⟨gx, gy, (by rw [ha.out]; exact putSel_upk 3 hb_ rfl rfl rfl), QB, GX, GY, NE, X0, X1, Y0, Y1⟩
          refine steps_cons ?_ ?_
          · rintro b a w' ⟨gx, gy, ha, QB, GX, GY, NE, X0, X1, Y0, Y1⟩ hb_ hon hoff
            refine ⟨_, rfl, fun K hK => ?_⟩
            have e32 : a.tmps[32]? = some (.pointer (some (ad.add (i * 4)))) := by rw [ha]; exact putSel_on (e := (3, 32, .pointer (some (ad.add (i * 4))))) 3 rfl rfl (hon 3 (by kernel_rfl)) rfl
            have hx0 := pw_cell_below QB HX0.out
            have hx1 := pw_cell_below QB HX1.out
            have hx2 := pw_cell_below QB HX2.out
            have hx3 := pw_cell_below QB HX3.out
            replace ha := Aside0.mk ha
            refine value_ (w1 := w') (v := .agg #[.int .i64 x.f0, .bool x.f1, .int .i64 x.f2, .slice A9 x.f3.length c9]) (by rfl) rfl ?_ ?_
            · go_simp
              try rfl
            exact hK.out _ _ ⟨gx, gy, (by rw [ha.out]; exact putSel_upk 4 hb_ rfl rfl rfl), QB, GX, GY, NE, X0, X1, Y0, Y1⟩
          refine steps_cons ?_ ?_
          · rintro b a w' ⟨gx, gy, ha, QB, GX, GY, NE, X0, X1, Y0, Y1⟩ hb_ hon hoff
            refine ⟨_, rfl, fun K hK => ?_⟩
            have e3 : a.tmps[3]? = some (.pointer (some ⟨n1, 0, none⟩)) := by rw [ha]; exact (putSel_off rfl).trans rfl
            replace ha := Aside0.mk ha
            refine value_ (w1 := w') (v := .pointer (some ⟨n1, 1, none⟩)) (by rfl) rfl ?_ ?_
            · go_simp
              try rfl
            exact hK.out _ _ ⟨gx, gy, (by rw [ha.out]; exact putSel_upk 5 hb_ rfl rfl rfl), QB, GX, GY, NE, X0, X1, Y0, Y1⟩
          refine steps_cons ?_ ?_
          · rintro b a w' ⟨gx, gy, ha, QB, GX, GY, NE, X0, X1, Y0, Y1⟩ hb_ hon hoff
            refine ⟨_, rfl, fun K hK => ?_⟩
            have e34 : a.tmps[34]? = some (.pointer (some ⟨n1, 1, none⟩)) := by rw [ha]; exact putSel_on (e := (5, 34, .pointer (some ⟨n1, 1, none⟩))) 5 rfl rfl (hon 5 (by kernel_rfl)) rfl
            have q1 : w'.cell? ⟨n1, 1, none⟩ = some (.slice (some bd) l.length c1) := (wharfagelaw0_SameConfig.cn_cell (wharfagelaw0_SameConfig.cn_below H1.out (below_step HBW.out QB))).trans rfl
            replace ha := Aside0.mk ha
            refine value_ (w1 := w') (v := .slice (some bd) l.length c1) (by rfl) rfl ?_ ?_
            · go_simp
              try rfl
            exact hK.out _ _ ⟨gx, gy, (by rw [ha.out]; exact putSel_upk 6 hb_ rfl rfl rfl), QB, GX, GY, NE, X0, X1, Y0, Y1⟩
          refine steps_cons ?_ ?_
          · rintro b a w' ⟨gx, gy, ha, QB, GX, GY, NE, X0, X1, Y0, Y1⟩ hb_ hon hoff
            refine ⟨_, rfl, fun K hK => ?_⟩
            have e5 : a.tmps[5]? = some (.int .i64 (i : Int)) := by rw [ha]; exact (putSel_off rfl).trans rfl
            replace ha := Aside0.mk ha
            refine value_ (w1 := w') (v := .int .i64 (i : Int)) (by rfl) rfl ?_ ?_
            · go_simp
              try rfl
            exact hK.out _ _ ⟨gx, gy, (by rw [ha.out]; exact putSel_upk 7 hb_ rfl rfl rfl), QB, GX, GY, NE, X0, X1, Y0, Y1⟩
          refine steps_cons ?_ ?_
          · rintro b a w' ⟨gx, gy, ha, QB, GX, GY, NE, X0, X1, Y0, Y1⟩ hb_ hon hoff
            refine ⟨_, rfl, fun K hK => ?_⟩
            have e35 : a.tmps[35]? = some (.slice (some bd) l.length c1) := by rw [ha]; exact putSel_on (e := (6, 35, .slice (some bd) l.length c1)) 6 rfl rfl (hon 6 (by kernel_rfl)) rfl
            have e36 : a.tmps[36]? = some (.int .i64 (i : Int)) := by rw [ha]; exact putSel_on (e := (7, 36, .int .i64 (i : Int))) 7 rfl rfl (hon 7 (by kernel_rfl)) rfl
            replace ha := Aside0.mk ha
            refine value_ (w1 := w') (v := .pointer (some (bd.add (i * 4)))) (by rfl) rfl ?_ ?_
            · go_simp
              try rfl
            exact hK.out _ _ ⟨gx, gy, (by rw [ha.out]; exact putSel_upk 8 hb_ rfl rfl rfl), QB, GX, GY, NE, X0, X1, Y0, Y1⟩
          refine steps_cons ?_ ?_
          · rintro b a w' ⟨gx, gy, ha, QB, GX, GY, NE, X0, X1, Y0, Y1⟩ hb_ hon hoff
            refine ⟨_, rfl, fun K hK => ?_⟩
            have e37 : a.tmps[37]? = some (.pointer (some (bd.add (i * 4)))) := by rw [ha]; exact putSel_on (e := (8, 37, .pointer (some (bd.add (i * 4))))) 8 rfl rfl (hon 8 (by kernel_rfl)) rfl
            have hx0 := pw_cell_below QB HY0.out
            have hx1 := pw_cell_below QB HY1.out
            have hx2 := pw_cell_below QB HY2.out
            have hx3 := pw_cell_below QB HY3.out
            replace ha := Aside0.mk ha
            refine value_ (w1 := w') (v := .agg #[.int .i64 x.f0, .bool x.f1, .int .i64 x.f2, .slice B9 x.f3.length d9]) (by rfl) rfl ?_ ?_
            · go_simp
              try rfl
            exact hK.out _ _ ⟨gx, gy, (by rw [ha.out]; exact putSel_upk 9 hb_ rfl rfl rfl), QB, GX, GY, NE, X0, X1, Y0, Y1⟩
          refine steps_cons ?_ ?_
          · rintro b a w' ⟨gx, gy, ha, QB, GX, GY, NE, X0, X1, Y0, Y1⟩ hb_ hon hoff
            refine ⟨_, rfl, fun K hK => ?_⟩
            replace ha := Aside0.mk ha
            refine value_ (w1 := w'.alloc (.cells #[.int .i64 0, .bool false, .int .i64 0, .slice none 0 0] 63)) (v := .pointer (some ⟨w'.heap.size, 0, none⟩)) (by rfl) rfl ?_ ?_
            · go_simp
              try rfl
            exact hK.out _ _ ⟨w'.heap.size, gy, (by rw [ha.out]; exact putSel_upk 10 hb_ rfl rfl rfl), below_alloc QB _, fun _ => below_size QB, GY, fun _ h2_ => Nat.ne_of_gt (wharfagelaw0_SameConfig.cn_lt (Y0 h2_ (hoff 13 (by kernel_rfl)))), fun _ _ => heap_alloc_new w' _, fun h_ => absurd ((hoff 12 (by kernel_rfl)).symm.trans h_) (by decide), fun h1_ h2_ => wharfagelaw0_SameConfig.cn_alloc (Y0 h1_ h2_) _, fun h_ => absurd ((hoff 13 (by kernel_rfl)).symm.trans h_) (by decide)⟩
          refine steps_cons ?_ ?_
          · rintro b a w' ⟨gx, gy, ha, QB, GX, GY, NE, X0, X1, Y0, Y1⟩ hb_ hon hoff
            refine ⟨_, rfl, fun K hK => ?_⟩
            replace ha := Aside0.mk ha
            refine value_ (w1 := w'.alloc (.cells #[.int .i64 0, .bool false, .int .i64 0, .slice none 0 0] 63)) (v := .pointer (some ⟨w'.heap.size, 0, none⟩)) (by rfl) rfl ?_ ?_
            · go_simp
              try rfl
            exact hK.out _ _ ⟨gx, w'.heap.size, (by rw [ha.out]; exact putSel_upk 11 hb_ rfl rfl rfl), below_alloc QB _, GX, fun _ => below_size QB, fun h1_ _ => Nat.ne_of_lt (wharfagelaw0_SameConfig.cn_lt (X0 h1_ (hoff 12 (by kernel_rfl)))), fun h1_ h2_ => wharfagelaw0_SameConfig.cn_alloc (X0 h1_ h2_) _, fun h_ => absurd ((hoff 12 (by kernel_rfl)).symm.trans h_) (by decide), fun _ _ => heap_alloc_new w' _, fun h_ => absurd ((hoff 13 (by kernel_rfl)).symm.trans h_) (by decide)⟩
          refine steps_cons ?_ ?_
          · rintro b a w' ⟨gx, gy, ha, QB, GX, GY, NE, X0, X1, Y0, Y1⟩ hb_ hon hoff
            refine ⟨_, rfl, fun K hK => ?_⟩
            have e33 : a.tmps[33]? = some (.agg #[.int .i64 x.f0, .bool x.f1, .int .i64 x.f2, .slice A9 x.f3.length c9]) := by rw [ha]; exact putSel_on (e := (4, 33, .agg #[.int .i64 x.f0, .bool x.f1, .int .i64 x.f2, .slice A9 x.f3.length c9])) 4 rfl rfl (hon 4 (by kernel_rfl)) rfl
            have e6 : a.tmps[6]? = some (.pointer (some ⟨gx, 0, none⟩)) := by rw [ha]; exact putSel_on (e := (10, 6, .pointer (some ⟨gx, 0, none⟩))) 10 rfl rfl (hon 10 (by kernel_rfl)) rfl
            replace ha := Aside0.mk ha
            have g0 := X0 (hon 10 (by kernel_rfl)) hb_
            have o0 := Y0 (hon 11 (by kernel_rfl)) (hoff 13 (by kernel_rfl))
            have ne := NE (hon 10 (by kernel_rfl)) (hon 11 (by kernel_rfl))
            have ge := GX (hon 10 (by kernel_rfl))
            have z0 : w'.cell? ⟨gx, 0, none⟩ = some (.int .i64 0) := (wharfagelaw0_SameConfig.cn_cell g0).trans rfl
            have y0 : w'.frozen? ⟨gx, 0, none⟩ = false := wharfagelaw0_SameConfig.cn_free g0
            have z1 : w'.cell? ⟨gx, 1, none⟩ = some (.bool false) := (wharfagelaw0_SameConfig.cn_cell g0).trans rfl
            have y1 : w'.frozen? ⟨gx, 1, none⟩ = false := wharfagelaw0_SameConfig.cn_free g0
            have z2 : w'.cell? ⟨gx, 2, none⟩ = some (.int .i64 0) := (wharfagelaw0_SameConfig.cn_cell g0).trans rfl
            have y2 : w'.frozen? ⟨gx, 2, none⟩ = false := wharfagelaw0_SameConfig.cn_free g0
            have z3 : w'.cell? ⟨gx, 3, none⟩ = some (.slice none 0 0) := (wharfagelaw0_SameConfig.cn_cell g0).trans rfl
            have y3 : w'.frozen? ⟨gx, 3, none⟩ = false := wharfagelaw0_SameConfig.cn_free g0
            have hgo := Aside0.mk (And.intro g0 (And.intro o0 (And.intro ne ge)))
            clear g0 o0 ne ge
            refine skip_ (w1 := ((((w'.setCell ⟨gx, 0, none⟩ (.int .i64 x.f0)).setCell ⟨gx, 1, none⟩ (.bool x.f1)).setCell ⟨gx, 2, none⟩ (.int .i64 x.f2)).setCell ⟨gx, 3, none⟩ (.slice A9 x.f3.length c9))) (by rfl) rfl ?_ ?_
            · go_simp
              try rfl
            obtain ⟨g0, o0, ne, ge⟩ := hgo.out
            exact hK.out _ _ ⟨gx, gy, (by rw [ha.out]; exact (putSel_same rfl).symm), below_set (below_set (below_set (below_set QB ge) ge) ge) ge, GX, GY, NE, fun _ h_ => absurd ((up_self b 12).symm.trans h_) (by decide), fun _ => (by refine blk_put (cs := #[.int .i64 x.f0, .bool x.f1, .int .i64 x.f2, .slice none 0 0]) ?_ 3 _ rfl; refine blk_put (cs := #[.int .i64 x.f0, .bool x.f1, .int .i64 0, .slice none 0 0]) ?_ 2 _ rfl; refine blk_put (cs := #[.int .i64 x.f0, .bool false, .int .i64 0, .slice none 0 0]) ?_ 1 _ rfl; refine blk_put (cs := #[.int .i64 0, .bool false, .int .i64 0, .slice none 0 0]) ?_ 0 _ rfl; exact g0), fun _ _ => (blk_far (blk_far (blk_far (blk_far (o0) (Ne.symm ne) _) (Ne.symm ne) _) (Ne.symm ne) _) (Ne.symm ne) _), fun h_ => absurd ((hoff 13 (by kernel_rfl)).symm.trans h_) (by decide)⟩
          refine steps_cons ?_ ?_
          · rintro b a w' ⟨gx, gy, ha, QB, GX, GY, NE, X0, X1, Y0, Y1⟩ hb_ hon hoff
            refine ⟨_, rfl, fun K hK => ?_⟩
            have e38 : a.tmps[38]? = some (.agg #[.int .i64 x.f0, .bool x.f1, .int .i64 x.f2, .slice B9 x.f3.length d9]) := by rw [ha]; exact putSel_on (e := (9, 38, .agg #[.int .i64 x.f0, .bool x.f1, .int .i64 x.f2, .slice B9 x.f3.length d9])) 9 rfl rfl (hon 9 (by kernel_rfl)) rfl
            have e7 : a.tmps[7]? = some (.pointer (some ⟨gy, 0, none⟩)) := by rw [ha]; exact putSel_on (e := (11, 7, .pointer (some ⟨gy, 0, none⟩))) 11 rfl rfl (hon 11 (by kernel_rfl)) rfl
            replace ha := Aside0.mk ha
            have g0 := Y0 (hon 11 (by kernel_rfl)) hb_
            have o0 := X1 (hon 12 (by kernel_rfl))
            have ne := NE (hon 10 (by kernel_rfl)) (hon 11 (by kernel_rfl))
            have ge := GY (hon 11 (by kernel_rfl))
            have z0 : w'.cell? ⟨gy, 0, none⟩ = some (.int .i64 0) := (wharfagelaw0_SameConfig.cn_cell g0).trans rfl
            have y0 : w'.frozen? ⟨gy, 0, none⟩ = false := wharfagelaw0_SameConfig.cn_free g0
            have z1 : w'.cell? ⟨gy, 1, none⟩ = some (.bool false) := (wharfagelaw0_SameConfig.cn_cell g0).trans rfl
            have y1 : w'.frozen? ⟨gy, 1, none⟩ = false := wharfagelaw0_SameConfig.cn_free g0
            have z2 : w'.cell? ⟨gy, 2, none⟩ = some (.int .i64 0) := (wharfagelaw0_SameConfig.cn_cell g0).trans rfl
            have y2 : w'.frozen? ⟨gy, 2, none⟩ = false := wharfagelaw0_SameConfig.cn_free g0
            have z3 : w'.cell? ⟨gy, 3, none⟩ = some (.slice none 0 0) := (wharfagelaw0_SameConfig.cn_cell g0).trans rfl
            have y3 : w'.frozen? ⟨gy, 3, none⟩ = false := wharfagelaw0_SameConfig.cn_free g0
            have hgo := Aside0.mk (And.intro g0 (And.intro o0 (And.intro ne ge)))
            clear g0 o0 ne ge
            refine skip_ (w1 := ((((w'.setCell ⟨gy, 0, none⟩ (.int .i64 x.f0)).setCell ⟨gy, 1, none⟩ (.bool x.f1)).setCell ⟨gy, 2, none⟩ (.int .i64 x.f2)).setCell ⟨gy, 3, none⟩ (.slice B9 x.f3.length d9))) (by rfl) rfl ?_ ?_
            · go_simp
              try rfl
            obtain ⟨g0, o0, ne, ge⟩ := hgo.out
            exact hK.out _ _ ⟨gx, gy, (by rw [ha.out]; exact (putSel_same rfl).symm), below_set (below_set (below_set (below_set QB ge) ge) ge) ge, GX, GY, NE, fun _ h_ => absurd ((hon 12 (by kernel_rfl)).symm.trans h_) (by decide), fun _ => (blk_far (blk_far (blk_far (blk_far (o0) ne _) ne _) ne _) ne _), fun _ h_ => absurd ((up_self b 13).symm.trans h_) (by decide), fun _ => (by refine blk_put (cs := #[.int .i64 x.f0, .bool x.f1, .int .i64 x.f2, .slice none 0 0]) ?_ 3 _ rfl; refine blk_put (cs := #[.int .i64 x.f0, .bool x.f1, .int .i64 0, .slice none 0 0]) ?_ 2 _ rfl; refine blk_put (cs := #[.int .i64 x.f0, .bool false, .int .i64 0, .slice none 0 0]) ?_ 1 _ rfl; refine blk_put (cs := #[.int .i64 0, .bool false, .int .i64 0, .slice none 0 0]) ?_ 0 _ rfl; exact g0)⟩
          exact steps_nil
        rintro b a wx hall ⟨gx, gy, ha, QB, GX, GY, NE, X0, X1, Y0, Y1⟩
        have hb0_ := hall 0 (by kernel_rfl)
        have hb1_ := hall 1 (by kernel_rfl)
        have hb2_ := hall 2 (by kernel_rfl)
        have hb3_ := hall 3 (by kernel_rfl)
        have hb4_ := hall 4 (by kernel_rfl)
        have hb5_ := hall 5 (by kernel_rfl)
        have hb6_ := hall 6 (by kernel_rfl)
        have hb7_ := hall 7 (by kernel_rfl)
        have hb8_ := hall 8 (by kernel_rfl)
        have hb9_ := hall 9 (by kernel_rfl)
        have hb10_ := hall 10 (by kernel_rfl)
        have hb11_ := hall 11 (by kernel_rfl)
        have hb12_ := hall 12 (by kernel_rfl)
        have hb13_ := hall 13 (by kernel_rfl)
        subst ha
        simp only [putSel, hb0_, hb1_, hb2_, hb3_, hb4_, hb5_, hb6_, hb7_, hb8_, hb9_, hb10_, hb11_, if_true, Act.put, List.setIfInBounds_toArray, List.set_cons_zero, List.set_cons_succ]
        have BXX := Aside0.mk (X1 hb12_)
        have BYY := Aside0.mk (Y1 hb13_)
        have HBX := Aside0.mk (below_step HBW.out QB)
        have u0 : wx.cell? ⟨gx, 0, none⟩ = some (.int .i64 x.f0) := (blk_cell BXX.out 0).trans rfl
        have v0 : wx.cell? ⟨gy, 0, none⟩ = some (.int .i64 x.f0) := (blk_cell BYY.out 0).trans rfl
        have u1 : wx.cell? ⟨gx, 1, none⟩ = some (.bool x.f1) := (blk_cell BXX.out 1).trans rfl
        have v1 : wx.cell? ⟨gy, 1, none⟩ = some (.bool x.f1) := (blk_cell BYY.out 1).trans rfl
        have u2 : wx.cell? ⟨gx, 2, none⟩ = some (.int .i64 x.f2) := (blk_cell BXX.out 2).trans rfl
        have v2 : wx.cell? ⟨gy, 2, none⟩ = some (.int .i64 x.f2) := (blk_cell BYY.out 2).trans rfl
        have u3 : wx.cell? ⟨gx, 3, none⟩ = some (.slice A9 x.f3.length c9) := (blk_cell BXX.out 3).trans rfl
        have v3 : wx.cell? ⟨gy, 3, none⟩ = some (.slice B9 x.f3.length d9) := (blk_cell BYY.out 3).trans rfl
        have e1 : (x.f0 != x.f0) = false := bne_self_eq_false _
        have e2 : (x.f0 == x.f0) = true := beq_self_eq_true _
        have e3 : (x.f1 != x.f1) = false := bne_self_eq_false _
        have e4 : (x.f1 == x.f1) = true := beq_self_eq_true _
        have e5 : (x.f2 != x.f2) = false := bne_self_eq_false _
        have e6 : (x.f2 == x.f2) = true := beq_self_eq_true _
        have HQB := Aside0.mk QB
        clear GX GY NE X0 X1 Y0 Y1 QB
        go_wp2_with (go_at_call 47; refine (wharfagelaw0_SameBacks.calls k A9 c9 x.f3 B9 d9 x.f3 true _ (Kd.C_below HIX.out HQB.out) HLX.out (Kd.C_below HIY.out HQB.out) HLY.out (wharfagelaw0_SameConfig.backs_f x.f3 (by have h2 := HXK.out.2; omega) k HXK.out.1)).mono ?_; rintro e w5 ⟨rfl, hn⟩; have hb := Go.Proofs.YtnojgkiaolmoeaaDoor.Hand.hk_drawn hn; clear hn; replace HBX := Aside0.mk (below_step HBX.out hb); clear hb u0 u1 u2 u3 v0 v1 v2 v3)
        go_roundg k1
        case measure => have := HX.out; omega
        case rel =>
          have h1 := HX.out
          have h2 := HLL.out
          exact ⟨i + 1, by rw [show wrap64 ((i : Int) + 1) = ((i + 1 : Nat) : Int) by unfold wrap64; omega], ⟨by omega⟩, HBX⟩
      · have c3b := decide_eq_false c3
        go_wp2_with fail
        go_ret
        exact ⟨rfl, below_step HB.out HBW.out⟩


end Go.Proofs.YtnojgkiaolmoeaaDoor.PSc
end
