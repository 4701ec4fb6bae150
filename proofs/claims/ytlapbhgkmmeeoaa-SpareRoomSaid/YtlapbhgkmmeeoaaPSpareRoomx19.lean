/- Contracts: what calls of these functions of the program do, each as a plain function; written by a program of this session. -/
import Derived.Test.YtlapbhgkmmeeoaaPSpareRoomx0
import Derived.Test.YtlapbhgkmmeeoaaPSpareRoomx16
namespace Go.Proofs.Ytlapbhgkmmeeoaa.PSpareRoom
open Go.RowKit Go.Proofs.YtlapbhgkmmeeoaaW.PrintWords Go.Proofs.YtlapbhgkmmeeoaaW.PrintLast Go.Proofs.YtlapbhgkmmeeoaaW.PrintMore
attribute [local go_sem] max2_int min2_int max_two min_two max_three min_three max_four min_four   -- for this text's walks alone
set_option linter.unusedVariables false
set_option linter.unusedSimpArgs false

/-! ### spare_Load: function 19, by hand -/
def loadN (l : List S50) : Int := ((l.filter (fun p => !p.f2)).length : Int)
theorem spare_Load.hide {P : Program} {c : Code} {Q : Exit → Act → World → Prop} {a : Act} {w : World} (R : World → Prop) (h : R w) (k : ∀ w', R w' → c.wp P Q a w') : c.wp P Q a w := k w h
theorem spare_Load.tk (l : List S50) (x : Int) (h0 : 0 ≤ x) (h1 : x < (l.length : Int)) : l.take (x.toNat + 1) = l.take x.toNat ++ [rd_T50 l x] := by
  have hl : x.toNat < l.length := by omega
  rw [List.take_add_one, List.getElem?_eq_getElem hl]
  unfold rd_T50
  simp [List.getD, List.getElem?_eq_getElem hl]
set_option maxHeartbeats 8000000 in
set_option maxRecDepth 100000 in
theorem spare_Load.at_ (g : Nat) (a0 a1 : Int) (A2 : Option Addr) (c2 : Nat) (l2 : List S53) (A3 : Option Addr) (c3 : Nat) (l3 : List S86) (A4 : Option Addr) (c4 : Nat) (l4 : List S91) (A5 : Option Addr) (c5 : Nat) (l5 : List S50) (a6 : Int) (w : World) (hN : NodeAt w g a0 a1 A2 c2 l2 A3 c3 l3 A4 c4 l4 A5 c5 l5 a6) :
    Calls Try.prog 19 #[.pointer (some ⟨g, 0, none⟩)] w fun e w' => e = .returned (.int .i64 (loadN l5)) ∧ Below w.heap.size w w' := by
  have hu := Try.underlying50
  have HN := Aside0.mk hN
  have HL := Aside0.mk hN.r5.2.1
  have x5 : w.cell? ⟨g, 5, none⟩ = some (.slice A5 l5.length c5) := (blk_cell hN.blk 5).trans rfl
  clear hN
  go_enter Try.func19, Try.ntmps19
  go_wp2_with fail
  go_loopg [3, 11] (l5.length + 1) (fun kq v3 v11 w' => ∃ (x : Int), v11 = .int .i64 x ∧ v3 = .int .i64 (loadN (l5.take x.toNat)) ∧ Aside0 (0 ≤ x ∧ x ≤ (l5.length : Int) ∧ (kq : Int) + x = l5.length + 1) ∧ Aside0 (Below w.heap.size w w'))
  case atStart => exact ⟨0, rfl, rfl, ⟨by omega⟩, ⟨Below.refl _ _⟩⟩
  case round =>
    obtain ⟨x, rfl, rfl, HX, HB⟩ := hrel
    cases gk with
    | zero => have := HX.out; omega
    | succ k1 =>
      by_cases c3 : x < (l5.length : Int)
      · have c3b := decide_eq_true c3
        have p1 : 0 ≤ x := HX.out.1
        have p1b := decide_eq_true p1
        obtain ⟨ad, ea, hx0, hx1, hx2, hx3, hx4, hx5, hx6, hx7, hx8⟩ := at_T50 HN.out.r5 x p1 c3
        cases ea
        replace hx0 := (HB.out.cell (World.block_lt_of_cell? w _ hx0)).trans hx0
        replace hx1 := (HB.out.cell (World.block_lt_of_cell? w _ hx1)).trans hx1
        replace hx2 := (HB.out.cell (World.block_lt_of_cell? w _ hx2)).trans hx2
        replace hx3 := (HB.out.cell (World.block_lt_of_cell? w _ hx3)).trans hx3
        replace hx4 := (HB.out.cell (World.block_lt_of_cell? w _ hx4)).trans hx4
        replace hx5 := (HB.out.cell (World.block_lt_of_cell? w _ hx5)).trans hx5
        replace hx6 := (HB.out.cell (World.block_lt_of_cell? w _ hx6)).trans hx6
        replace hx7 := (HB.out.cell (World.block_lt_of_cell? w _ hx7)).trans hx7
        replace hx8 := (HB.out.cell (World.block_lt_of_cell? w _ hx8)).trans hx8
        have HS := Aside0.mk (spare_Load.tk l5 x p1 c3)
        have HC3 := Aside0.mk c3
        have p1' := eq_true p1
        have c3' := eq_true c3
        obtain ⟨p, hp⟩ : ∃ p_, p_ = rd_T50 l5 x := ⟨_, rfl⟩
        rw [← hp] at hx0 hx1 hx2 hx3 hx4 hx5 hx6 hx7 hx8 HS
        clear hp
        go_upto_region 5 with ((with_reducible refine gate_dst (N := 5) rfl ?_); refine box_event ?hg (N := 5) ?hd (cs := #[.int .i64 0, .int .i64 0, .int .i64 0, .int .i64 0, .int .i64 0, .int .i64 0, .bool false, .int .i64 0, .int .i64 0]) (t := 50) ?hr ?_; (case hd => rfl); (case hg => rfl); (case hr => first | (go_simp; done) | (go_simp; rfl)); intro gb hg wb hbox hb; have HW := Aside0.mk hb; have G := Aside0.mk (Nat.le_of_eq hg.symm : wr.heap.size ≤ gb); have Zb := Aside0.mk hbox; clear hb hbox hg; have z0 : wb.cell? ⟨gb, 0, none⟩ = some (.int .i64 0) := (blk_cell Zb.out 0).trans rfl; have y0 := blk_frozen Zb.out 0; have z1 : wb.cell? ⟨gb, 1, none⟩ = some (.int .i64 0) := (blk_cell Zb.out 1).trans rfl; have y1 := blk_frozen Zb.out 1; have z2 : wb.cell? ⟨gb, 2, none⟩ = some (.int .i64 0) := (blk_cell Zb.out 2).trans rfl; have y2 := blk_frozen Zb.out 2; have z3 : wb.cell? ⟨gb, 3, none⟩ = some (.int .i64 0) := (blk_cell Zb.out 3).trans rfl; have y3 := blk_frozen Zb.out 3; have z4 : wb.cell? ⟨gb, 4, none⟩ = some (.int .i64 0) := (blk_cell Zb.out 4).trans rfl; have y4 := blk_frozen Zb.out 4; have z5 : wb.cell? ⟨gb, 5, none⟩ = some (.int .i64 0) := (blk_cell Zb.out 5).trans rfl; have y5 := blk_frozen Zb.out 5; have z6 : wb.cell? ⟨gb, 6, none⟩ = some (.bool false) := (blk_cell Zb.out 6).trans rfl; have y6 := blk_frozen Zb.out 6; have z7 : wb.cell? ⟨gb, 7, none⟩ = some (.int .i64 0) := (blk_cell Zb.out 7).trans rfl; have y7 := blk_frozen Zb.out 7; have z8 : wb.cell? ⟨gb, 8, none⟩ = some (.int .i64 0) := (blk_cell Zb.out 8).trans rfl; have y8 := blk_frozen Zb.out 8; skip)
        refine spare_Load.hide (fun W => Below wr.heap.size wr W ∧ W.heap[gb]? = some (.cells #[.int .i64 p.f0.f0, .int .i64 p.f0.f1, .int .i64 p.f0.f2, .int .i64 p.f0.f3, .int .i64 p.f0.f4, .int .i64 p.f1, .bool p.f2, .int .i64 p.f3, .int .i64 p.f4] 50 (0, 0))) ⟨by with_reducible repeat (first | exact HW.out | refine below_set ?_ G.out), by refine blk_put (cs := #[.int .i64 p.f0.f0, .int .i64 p.f0.f1, .int .i64 p.f0.f2, .int .i64 p.f0.f3, .int .i64 p.f0.f4, .int .i64 p.f1, .bool p.f2, .int .i64 p.f3, .int .i64 0]) ?_ 8 _ rfl; refine blk_put (cs := #[.int .i64 p.f0.f0, .int .i64 p.f0.f1, .int .i64 p.f0.f2, .int .i64 p.f0.f3, .int .i64 p.f0.f4, .int .i64 p.f1, .bool p.f2, .int .i64 0, .int .i64 0]) ?_ 7 _ rfl; refine blk_put (cs := #[.int .i64 p.f0.f0, .int .i64 p.f0.f1, .int .i64 p.f0.f2, .int .i64 p.f0.f3, .int .i64 p.f0.f4, .int .i64 p.f1, .bool false, .int .i64 0, .int .i64 0]) ?_ 6 _ rfl; refine blk_put (cs := #[.int .i64 p.f0.f0, .int .i64 p.f0.f1, .int .i64 p.f0.f2, .int .i64 p.f0.f3, .int .i64 p.f0.f4, .int .i64 0, .bool false, .int .i64 0, .int .i64 0]) ?_ 5 _ rfl; refine blk_put (cs := #[.int .i64 p.f0.f0, .int .i64 p.f0.f1, .int .i64 p.f0.f2, .int .i64 p.f0.f3, .int .i64 0, .int .i64 0, .bool false, .int .i64 0, .int .i64 0]) ?_ 4 _ rfl; refine blk_put (cs := #[.int .i64 p.f0.f0, .int .i64 p.f0.f1, .int .i64 p.f0.f2, .int .i64 0, .int .i64 0, .int .i64 0, .bool false, .int .i64 0, .int .i64 0]) ?_ 3 _ rfl; refine blk_put (cs := #[.int .i64 p.f0.f0, .int .i64 p.f0.f1, .int .i64 0, .int .i64 0, .int .i64 0, .int .i64 0, .bool false, .int .i64 0, .int .i64 0]) ?_ 2 _ rfl; refine blk_put (cs := #[.int .i64 p.f0.f0, .int .i64 0, .int .i64 0, .int .i64 0, .int .i64 0, .int .i64 0, .bool false, .int .i64 0, .int .i64 0]) ?_ 1 _ rfl; refine blk_put (cs := #[.int .i64 0, .int .i64 0, .int .i64 0, .int .i64 0, .int .i64 0, .int .i64 0, .bool false, .int .i64 0, .int .i64 0]) ?_ 0 _ rfl; exact Zb.out⟩ ?_
        intro w6 ⟨hb, hz⟩
        replace HB := Aside0.mk (below_step HB.out hb)
        have b6 : w6.cell? ⟨gb, 6, none⟩ = some (.bool p.f2) := (blk_cell hz 6).trans rfl
        clear hb hz HW G Zb z0 y0 z1 y1 z2 y2 z3 y3 z4 y4 z5 y5 z6 y6 z7 y7 z8 y8 hx0 hx1 hx2 hx3 hx4 hx5 hx6 hx7 hx8
        obtain ⟨v, hv, HV⟩ : ∃ v, p.f2 = v ∧ Aside0 (p.f2 = v) := ⟨_, rfl, ⟨rfl⟩⟩
        rw [hv] at b6
        clear hv
        have HD := Aside0.mk (show (l5.take x.toNat).length ≤ x.toNat from List.length_take_le _ _)
        have HF := Aside0.mk (List.length_filter_le (fun p => !p.f2) (l5.take x.toNat))
        cases v
        · go_wp2_with fail
          go_roundg k1
          case measure => have := HX.out; omega
          case rel =>
            have h1 := HX.out
            have h2 := HC3.out
            have h3 := HL.out
            have hw : wrap64 (x + 1) = x + 1 := by unfold wrap64; omega
            have h5 : (x + 1).toNat = x.toNat + 1 := by omega
            refine ⟨x + 1, by rw [hw], ?_, ⟨by omega⟩, HB⟩
            have hl : loadN (l5.take (x + 1).toNat) = loadN (l5.take x.toNat) + 1 := by
              unfold loadN
              rw [h5, HS.out, List.filter_append, List.length_append]
              simp [HV.out]
            have h6 := HD.out
            have h7 := HF.out
            rw [hl]
            unfold loadN
            rw [show wrap64 (((l5.take x.toNat).filter (fun p => !p.f2)).length + 1 : Int) = ((l5.take x.toNat).filter (fun p => !p.f2)).length + 1 by unfold wrap64; omega]
        · go_wp2_with fail
          go_roundg k1
          case measure => have := HX.out; omega
          case rel =>
            have h1 := HX.out
            have h2 := HC3.out
            have h3 := HL.out
            have hw : wrap64 (x + 1) = x + 1 := by unfold wrap64; omega
            have h5 : (x + 1).toNat = x.toNat + 1 := by omega
            refine ⟨x + 1, by rw [hw], ?_, ⟨by omega⟩, HB⟩
            have hl : loadN (l5.take (x + 1).toNat) = loadN (l5.take x.toNat) := by
              unfold loadN
              rw [h5, HS.out, List.filter_append, List.length_append]
              simp [HV.out]
            rw [hl]
      · have c3b := decide_eq_false c3
        have HE : x = (l5.length : Int) := by have := HX.out; omega
        subst HE
        have HT := Aside0.mk (show l5.take (l5.length : Int).toNat = l5 by rw [Int.toNat_natCast, List.take_length])
        go_wp2_with fail
        go_ret
        exact ⟨rfl, HB.out⟩


end Go.Proofs.Ytlapbhgkmmeeoaa.PSpareRoom
