/- Contracts: what calls of these functions of the program do, each as a plain function; written by a program of this session. -/
import Derived.Test.YtlapbhgkmmeeoaaPSpareRoomx0
import Derived.Test.YtlapbhgkmmeeoaaPSpareRoomx16
import Derived.Test.YtlapbhgkmmeeoaaPSpareRoomx18
import Derived.Test.YtlapbhgkmmeeoaaPSpareRoomx19
namespace Go.Proofs.Ytlapbhgkmmeeoaa.PSpareRoom
open Go.RowKit Go.Proofs.YtlapbhgkmmeeoaaW.PrintWords Go.Proofs.YtlapbhgkmmeeoaaW.PrintLast Go.Proofs.YtlapbhgkmmeeoaaW.PrintMore
attribute [local go_sem] max2_int min2_int max_two min_two max_three min_three max_four min_four   -- for this text's walks alone
set_option linter.unusedVariables false
set_option linter.unusedSimpArgs false

/-! ### spare_Full: function 6, by hand -/
set_option maxHeartbeats 4000000 in
set_option maxRecDepth 100000 in
theorem conf_Site.no1 (g : Nat) (A : Option Addr) (c n : Nat) (i : Int) (hi : i < 0 ∨ (n : Int) ≤ i) (w : World) (h1 : w.cell? ⟨g, 2, none⟩ = some (.slice A n c)) :
    Calls Try.prog 17 #[.pointer (some ⟨g, 1, none⟩), .int .i64 i] w fun e w' => e = .returned (.tuple #[.agg #[.int .i64 0, .bool false, .int .i64 0, .slice none 0 0], .bool false]) ∧ Below w.heap.size w w' := by
  have hu := Try.underlying53
  have h1' : ∀ o, (w.alloc o).cell? ⟨g, 2, none⟩ = some (.slice A n c) := fun o => pw_cell_below ((Below.refl _ _).alloc (Nat.le_refl _) o) h1
  by_cases h0 : i < 0
  · clear hi
    go_enter Try.func17, Try.ntmps17
    go_wp2
    exact bodyPost_ret (v := .tuple #[.agg #[.int .i64 0, .bool false, .int .i64 0, .slice none 0 0], .bool false]) (by simp [results, Try.results17, go_sem]) rfl ⟨rfl, by repeat (first | exact Below.refl _ _ | exact (Below.refl _ _).alloc (Nat.le_refl _) _ | refine Below.setCell ?_ (by simp) _ | refine pw_below_drewN ?_ _)⟩
  · have h2 : (n : Int) ≤ i := by omega
    clear hi
    go_enter Try.func17, Try.ntmps17
    go_wp2
    exact bodyPost_ret (v := .tuple #[.agg #[.int .i64 0, .bool false, .int .i64 0, .slice none 0 0], .bool false]) (by simp [results, Try.results17, go_sem]) rfl ⟨rfl, by repeat (first | exact Below.refl _ _ | exact (Below.refl _ _).alloc (Nat.le_refl _) _ | refine Below.setCell ?_ (by simp) _ | refine pw_below_drewN ?_ _)⟩
set_option maxHeartbeats 4000000 in
set_option maxRecDepth 100000 in
theorem conf_Site.yes1 (g : Nat) (A : Option Addr) (c : Nat) (l : List S53) (i : Nat) (x : S53) (hx : l[i]? = some x) (w : World) (h1 : w.cell? ⟨g, 2, none⟩ = some (.slice A l.length c)) (hr : Kd.C k53 w A l.length l) :
    Calls Try.prog 17 #[.pointer (some ⟨g, 1, none⟩), .int .i64 (i : Int)] w fun e w' => Aside0 (∃ A3 c3, e = .returned (.tuple #[.agg #[.int .i64 x.f0, .bool x.f1, .int .i64 x.f2, .slice A3 x.f3.length c3], .bool true]) ∧ x.f3.length ≤ c3 ∧ Kd.C k83 w A3 x.f3.length x.f3 ∧ Below w.heap.size w w') := by
  have hl := hr.2.1
  obtain ⟨hi, hx'⟩ := List.getElem?_eq_some_iff.1 hx
  obtain ⟨ad, A3, c3, e, hx0, hx1, hx2, hx3, l3, g3⟩ := at_T53 hr (i : Int) (by omega) (by omega)
  subst e
  have er : rd_T53 l (i : Int) = x := by simp [rd_T53, hi, hx']
  rw [er] at hx0 hx1 hx2 hx3 l3 g3
  rw [Int.toNat_natCast] at hx0 hx1 hx2 hx3
  have G := Aside0.mk (And.intro l3 g3)
  clear l3 g3 hr er hx hx'
  have hu := Try.underlying53
  have h1' : ∀ o, (w.alloc o).cell? ⟨g, 2, none⟩ = some (.slice (some ad) l.length c) := fun o => pw_cell_below ((Below.refl _ _).alloc (Nat.le_refl _) o) h1
  have y0 : ∀ o, (w.alloc o).cell? _ = _ := fun o => pw_cell_below ((Below.refl _ _).alloc (Nat.le_refl _) o) hx0
  have y1 : ∀ o, (w.alloc o).cell? _ = _ := fun o => pw_cell_below ((Below.refl _ _).alloc (Nat.le_refl _) o) hx1
  have y2 : ∀ o, (w.alloc o).cell? _ = _ := fun o => pw_cell_below ((Below.refl _ _).alloc (Nat.le_refl _) o) hx2
  have y3 : ∀ o, (w.alloc o).cell? _ = _ := fun o => pw_cell_below ((Below.refl _ _).alloc (Nat.le_refl _) o) hx3
  clear hx0 hx1 hx2 hx3
  go_enter Try.func17, Try.ntmps17
  go_wp2
  exact bodyPost_ret (v := .tuple #[.agg #[.int .i64 x.f0, .bool x.f1, .int .i64 x.f2, .slice A3 x.f3.length c3], .bool true]) (by simp [results, Try.results17, go_sem]) rfl
    (Aside0.mk ⟨A3, c3, rfl, G.out.1, G.out.2, by repeat (first | exact Below.refl _ _ | exact (Below.refl _ _).alloc (Nat.le_refl _) _ | refine Below.setCell ?_ (by simp) _ | refine pw_below_drewN ?_ _)⟩)
def spare_Full.f (k : Nat) (a0 a1 : Int) (l2 : List S53) (l3 : List S86) (l4 : List S91) (l5 : List S50) (a6 : Int) : Option (Bool × Int) := (spare_May.f k a0 a1 l2 l3 l4 l5 a6).bind fun m => if m = true then (cand_Backs.f a1 l2 a0 l3).bind fun bt => (if 0 ≤ a0 then (if a0 < (l2.length : Int) then (if (rd_T53 l2 a0).f1 = true then some (true, 0) else (if bt.1.length = 0 then some (true, 0) else some (decide (loadN l5 ≥ (rd_T53 l2 a0).f2), 0))) else some (true, 0)) else some (true, 0)) else some (false, 1700)
theorem spare_Full.mono : ∀ a0 a1 l2 l3 l4 l5 a6 k, LeO (spare_Full.f k a0 a1 l2 l3 l4 l5 a6) (spare_Full.f (k + 1) a0 a1 l2 l3 l4 l5 a6) := by
  intro a0 a1 l2 l3 l4 l5 a6 k
  unfold spare_Full.f
  refine LeO.bind (spare_May.mono _ _ _ _ _ _ _ _) (fun t => ?_)
  split
  · exact LeO.refl _
  · exact LeO.refl _
theorem spare_Full.hide {P : Program} {c : Code} {Q : Exit → Act → World → Prop} {a : Act} {w : World} (R : World → Prop) (h : R w) (k : ∀ w', R w' → c.wp P Q a w') : c.wp P Q a w := k w h
set_option maxHeartbeats 8000000 in
set_option maxRecDepth 100000 in
theorem spare_Full.calls (k : Nat) (a0 a1 : Int) (A2 : Option Addr) (c2 : Nat) (l2 : List S53) (A3 : Option Addr) (c3 : Nat) (l3 : List S86) (A4 : Option Addr) (c4 : Nat) (l4 : List S91) (A5 : Option Addr) (c5 : Nat) (l5 : List S50) (a6 : Int) (r1 : Bool) (r2 : Int) (w : World) (hr2 : Kd.C k53 w A2 l2.length l2) (hc2 : l2.length ≤ c2) (hr3 : Kd.C k86 w A3 l3.length l3) (hc3 : l3.length ≤ c3) (hr4 : Kd.C k91 w A4 l4.length l4) (hc4 : l4.length ≤ c4) (hr5 : Kd.C k50 w A5 l5.length l5) (hc5 : l5.length ≤ c5) (h : spare_Full.f k a0 a1 l2 l3 l4 l5 a6 = some (r1, r2)) :
    Calls Try.prog 6 #[.agg #[.int .i64 a0, .int .i64 a1, .slice A2 l2.length c2, .slice A3 l3.length c3, .slice A4 l4.length c4, .slice A5 l5.length c5, .int .i64 a6]] w fun e w' => e = .returned (.tuple #[.bool r1, .int .i64 r2]) ∧ Below w.heap.size w w' := by
  have hb : Below w.heap.size w (w.alloc (Obj.cells #[.int .i64 a0, .int .i64 a1, .slice A2 l2.length c2, .slice A3 l3.length c3, .slice A4 l4.length c4, .slice A5 l5.length c5, .int .i64 a6] 29)) := below_alloc (Below.refl _ _) _
  have HN := Aside0.mk (show NodeAt (w.alloc (Obj.cells #[.int .i64 a0, .int .i64 a1, .slice A2 l2.length c2, .slice A3 l3.length c3, .slice A4 l4.length c4, .slice A5 l5.length c5, .int .i64 a6] 29)) w.heap.size a0 a1 A2 c2 l2 A3 c3 l3 A4 c4 l4 A5 c5 l5 a6 from ⟨blk_new _ _, Kd.C_below hr2 hb, hc2, Kd.C_below hr3 hb, hc3, Kd.C_below hr4 hb, hc4, Kd.C_below hr5 hb, hc5⟩)
  have x0 : (w.alloc (Obj.cells #[.int .i64 a0, .int .i64 a1, .slice A2 l2.length c2, .slice A3 l3.length c3, .slice A4 l4.length c4, .slice A5 l5.length c5, .int .i64 a6] 29)).cell? ⟨w.heap.size, 0, none⟩ = some (.int .i64 a0) := by simp
  have x1 : (w.alloc (Obj.cells #[.int .i64 a0, .int .i64 a1, .slice A2 l2.length c2, .slice A3 l3.length c3, .slice A4 l4.length c4, .slice A5 l5.length c5, .int .i64 a6] 29)).cell? ⟨w.heap.size, 1, none⟩ = some (.int .i64 a1) := by simp
  have x2 : (w.alloc (Obj.cells #[.int .i64 a0, .int .i64 a1, .slice A2 l2.length c2, .slice A3 l3.length c3, .slice A4 l4.length c4, .slice A5 l5.length c5, .int .i64 a6] 29)).cell? ⟨w.heap.size, 2, none⟩ = some (.slice A2 l2.length c2) := by simp
  have x3 : (w.alloc (Obj.cells #[.int .i64 a0, .int .i64 a1, .slice A2 l2.length c2, .slice A3 l3.length c3, .slice A4 l4.length c4, .slice A5 l5.length c5, .int .i64 a6] 29)).cell? ⟨w.heap.size, 3, none⟩ = some (.slice A3 l3.length c3) := by simp
  have x4 : (w.alloc (Obj.cells #[.int .i64 a0, .int .i64 a1, .slice A2 l2.length c2, .slice A3 l3.length c3, .slice A4 l4.length c4, .slice A5 l5.length c5, .int .i64 a6] 29)).cell? ⟨w.heap.size, 4, none⟩ = some (.slice A4 l4.length c4) := by simp
  have x5 : (w.alloc (Obj.cells #[.int .i64 a0, .int .i64 a1, .slice A2 l2.length c2, .slice A3 l3.length c3, .slice A4 l4.length c4, .slice A5 l5.length c5, .int .i64 a6] 29)).cell? ⟨w.heap.size, 5, none⟩ = some (.slice A5 l5.length c5) := by simp
  have x6 : (w.alloc (Obj.cells #[.int .i64 a0, .int .i64 a1, .slice A2 l2.length c2, .slice A3 l3.length c3, .slice A4 l4.length c4, .slice A5 l5.length c5, .int .i64 a6] 29)).cell? ⟨w.heap.size, 6, none⟩ = some (.int .i64 a6) := by simp
  have R5 := Aside0.mk (And.intro hr2 (And.intro hr3 (And.intro hr4 hr5)))
  have HB := Aside0.mk hb
  clear hb hr2 hc2 hr3 hc3 hr4 hc4 hr5 hc5
  obtain ⟨m, hm, h⟩ := Option.bind_eq_some_iff.mp h
  replace hm := Aside0.mk hm
  cases m
  · obtain ⟨rfl, rfl⟩ : false = r1 ∧ 1700 = r2 := by simpa using h
    clear h
    go_enter Try.func6, Try.ntmps6
    go_wp2_with (go_at_call 16; refine (spare_May.at_ k _ a0 a1 _ _ _ _ _ _ _ _ _ _ _ _ a6 false _ HN.out hm.out).mono ?_; rintro e w1 ⟨rfl, hb⟩; replace x0 := pw_cell_below hb x0; replace x1 := pw_cell_below hb x1; replace x2 := pw_cell_below hb x2; replace x3 := pw_cell_below hb x3; replace x4 := pw_cell_below hb x4; replace x5 := pw_cell_below hb x5; replace x6 := pw_cell_below hb x6; replace HN := Aside0.mk (HN.out.below hb); replace HB := Aside0.mk (below_step HB.out hb); clear hb)
    go_ret2
    exact ⟨rfl, HB.out⟩
  · rw [if_pos rfl] at h
    obtain ⟨⟨bl, be⟩, hbk, h⟩ := Option.bind_eq_some_iff.mp h
    replace hbk := Aside0.mk hbk
    by_cases hin : 0 ≤ a0 ∧ a0 < (l2.length : Int)
    · obtain ⟨i, rfl⟩ := Int.eq_ofNat_of_zero_le hin.1
      have hlt : i < l2.length := by omega
      obtain ⟨x, hx⟩ : ∃ x, l2[i]? = some x := ⟨l2[i], by simp [hlt]⟩
      rw [if_pos hin.1, if_pos hin.2, show rd_T53 l2 (i : Int) = x by simp [rd_T53, hx]] at h
      have HX := Aside0.mk hx
      clear hin hlt hx
      have h' := Aside0.mk h
      clear h
      go_enter Try.func6, Try.ntmps6
      go_upto_region 4 with (first | (go_at_call 16; refine (spare_May.at_ k _ (i : Int) a1 _ _ _ _ _ _ _ _ _ _ _ _ a6 true _ HN.out hm.out).mono ?_; rintro e w1 ⟨rfl, hb⟩; replace x0 := pw_cell_below hb x0; replace x1 := pw_cell_below hb x1; replace x2 := pw_cell_below hb x2; replace x3 := pw_cell_below hb x3; replace x4 := pw_cell_below hb x4; replace x5 := pw_cell_below hb x5; replace x6 := pw_cell_below hb x6; replace HN := Aside0.mk (HN.out.below hb); replace HB := Aside0.mk (below_step HB.out hb); clear hb) | (go_at_call 17; refine (conf_Site.yes1 w.heap.size _ _ l2 i x HX.out _ x2 HN.out.r2).mono ?_; rintro e w2 he; obtain ⟨A9, c9, rfl, _, _, hb⟩ := he.out; replace x0 := pw_cell_below hb x0; replace x1 := pw_cell_below hb x1; replace x2 := pw_cell_below hb x2; replace x3 := pw_cell_below hb x3; replace x4 := pw_cell_below hb x4; replace x5 := pw_cell_below hb x5; replace x6 := pw_cell_below hb x6; replace HN := Aside0.mk (HN.out.below hb); replace HB := Aside0.mk (below_step HB.out hb); clear hb) | ((with_reducible refine gate_dst (N := 4) rfl ?_); refine box_event ?hg (N := 4) ?hd (cs := #[.int .i64 0, .bool false, .int .i64 0, .slice none 0 0]) (t := 53) ?hr ?_; (case hd => rfl); (case hg => rfl); (case hr => first | (go_simp; done) | (go_simp; rfl)); intro gs hg w3 hbox hb; have HW := Aside0.mk hb; have G := Aside0.mk (Nat.le_of_eq hg.symm : w2.heap.size ≤ gs); have Zb := Aside0.mk hbox; clear hb hbox hg; have z0 : w3.cell? ⟨gs, 0, none⟩ = some (.int .i64 0) := (blk_cell Zb.out 0).trans rfl; have y0 := blk_frozen Zb.out 0; have z1 : w3.cell? ⟨gs, 1, none⟩ = some (.bool false) := (blk_cell Zb.out 1).trans rfl; have y1 := blk_frozen Zb.out 1; have z2 : w3.cell? ⟨gs, 2, none⟩ = some (.int .i64 0) := (blk_cell Zb.out 2).trans rfl; have y2 := blk_frozen Zb.out 2; have z3 : w3.cell? ⟨gs, 3, none⟩ = some (.slice none 0 0) := (blk_cell Zb.out 3).trans rfl; have y3 := blk_frozen Zb.out 3; skip))
      refine spare_Full.hide (fun W => Below w2.heap.size w2 W ∧ W.heap[gs]? = some (.cells #[.int .i64 x.f0, .bool x.f1, .int .i64 x.f2, .slice A9 x.f3.length c9] 53 (0, 0)) ∧ gs ≠ w.heap.size) ⟨by with_reducible repeat (first | exact HW.out | refine below_set ?_ G.out), by refine blk_put (cs := #[.int .i64 x.f0, .bool x.f1, .int .i64 x.f2, .slice none 0 0]) ?_ 3 _ rfl; refine blk_put (cs := #[.int .i64 x.f0, .bool x.f1, .int .i64 0, .slice none 0 0]) ?_ 2 _ rfl; refine blk_put (cs := #[.int .i64 x.f0, .bool false, .int .i64 0, .slice none 0 0]) ?_ 1 _ rfl; refine blk_put (cs := #[.int .i64 0, .bool false, .int .i64 0, .slice none 0 0]) ?_ 0 _ rfl; exact Zb.out, by have h1 := G.out; have h2 := World.block_lt_of_cell? _ _ x0; simp only [] at h2; omega⟩ ?_
      intro w4 ⟨hb, hz, hne⟩
      replace x0 := pw_cell_below hb x0; replace x1 := pw_cell_below hb x1; replace x2 := pw_cell_below hb x2; replace x3 := pw_cell_below hb x3; replace x4 := pw_cell_below hb x4; replace x5 := pw_cell_below hb x5; replace x6 := pw_cell_below hb x6; replace HN := Aside0.mk (HN.out.below hb); replace HB := Aside0.mk (below_step HB.out hb)
      have BZ := Aside0.mk hz
      have HNE := Aside0.mk hne
      clear hb hz hne HW G Zb z0 y0 z1 y1 z2 y2 z3 y3
      go_upto_region 5 with (go_at_call 18; refine (cand_Backs.calls a1 _ _ l2 (i : Int) _ _ l3 bl be _ HN.out.r2 HN.out.q2 HN.out.r3 HN.out.q3 hbk.out).mono ?_; rintro e w5 ⟨v5, rfl, ho, hb⟩; obtain ⟨A5_, n5_, rfl⟩ := Kd.R_slice ho; replace BZ := Aside0.mk (blk_below BZ.out hb); clear ho; replace x0 := pw_cell_below hb x0; replace x1 := pw_cell_below hb x1; replace x2 := pw_cell_below hb x2; replace x3 := pw_cell_below hb x3; replace x4 := pw_cell_below hb x4; replace x5 := pw_cell_below hb x5; replace x6 := pw_cell_below hb x6; replace HN := Aside0.mk (HN.out.below hb); replace HB := Aside0.mk (below_step HB.out hb); clear hb)
      have b1 : w5.cell? ⟨gs, 1, none⟩ = some (.bool x.f1) := (blk_cell BZ.out 1).trans rfl
      have b2 : w5.cell? ⟨gs, 2, none⟩ = some (.int .i64 x.f2) := (blk_cell BZ.out 2).trans rfl
      have h := h'.out
      clear h'
      obtain ⟨d, hd⟩ : ∃ d, x.f1 = d := ⟨_, rfl⟩
      have bz := BZ.out
      rw [hd] at b1 h bz
      replace BZ := Aside0.mk bz
      replace hd := Aside0.mk hd
      clear bz
      clear x0 x1 x2 x3 x4 x5 x6
      cases d
      · rw [if_neg (by decide)] at h
        by_cases hn : bl.length = 0
        · rw [if_pos hn] at h
          obtain ⟨rfl, rfl⟩ : true = r1 ∧ 0 = r2 := by simpa using h
          have e1 : ((bl.length : Int) == 0) = true := by rw [hn]; rfl
          have e2 : (bl.length == 0) = true := by rw [hn]; rfl
          have e3 : decide ((bl.length : Int) = 0) = true := by rw [hn]; rfl
          replace hn := Aside0.mk hn
          clear h
          go_quiet (fail)
          go_wp2_with fail
          go_ret2
          exact ⟨rfl, by first | exact HB.out | exact pw_below_drewN HB.out _⟩
        · rw [if_neg hn] at h
          obtain ⟨hr, rfl⟩ : decide (loadN l5 ≥ x.f2) = r1 ∧ 0 = r2 := by simpa using h
          have e1 : ((bl.length : Int) == 0) = false := beq_eq_false_iff_ne.2 (by omega)
          have e2 : (bl.length == 0) = false := by simpa using hn
          have e3 : decide ((bl.length : Int) = 0) = false := decide_eq_false (by omega)
          have HR := Aside0.mk hr
          replace hn := Aside0.mk hn
          clear h hr
          go_region_held3 (fun w' => w'.cell? ⟨gs, 1, none⟩ = some (.bool false) ∧ w'.cell? ⟨gs, 2, none⟩ = some (.int .i64 x.f2)) (first | exact ⟨b1, b2⟩ | go_keep) ((go_at_call 19; refine (spare_Load.at_ w.heap.size (i : Int) a1 _ _ _ _ _ _ _ _ _ _ _ _ a6 _ (by first | exact HN.out | exact HN.out.below (below_drew1 (Below.refl _ _)))).mono ?_; rintro e w6 ⟨rfl, hb⟩; have hb2 : Below w5.heap.size w5 w6 := below_step (by first | exact Below.refl _ _ | exact below_drew1 (Below.refl _ _)) hb; have BW := Aside0.mk hb2; clear b1 b2; have b1 : w6.cell? ⟨gs, 1, none⟩ = some (.bool false) := (blk_cell (blk_below BZ.out hb2) 1).trans rfl; have b2 : w6.cell? ⟨gs, 2, none⟩ = some (.int .i64 x.f2) := (blk_cell (blk_below BZ.out hb2) 2).trans rfl; clear hb hb2))
          go_wp2_with fail
          go_ret2
          exact ⟨by rw [← HR.out]; first | rfl | (simp; done), by first | exact below_step HB.out BW.out | exact pw_below_drewN (below_step HB.out BW.out) _⟩
      · rw [if_pos rfl] at h
        obtain ⟨rfl, rfl⟩ : true = r1 ∧ 0 = r2 := by simpa using h
        clear h
        go_quiet (fail)
        go_wp2_with fail
        go_ret2
        exact ⟨rfl, by first | exact HB.out | exact pw_below_drewN HB.out _⟩
    · have hin2 : a0 < 0 ∨ (l2.length : Int) ≤ a0 := by omega
      obtain ⟨rfl, rfl⟩ : true = r1 ∧ 0 = r2 := by
        by_cases h0 : 0 ≤ a0
        · rw [if_pos h0, if_neg (by omega)] at h
          simpa using h
        · rw [if_neg h0] at h
          simpa using h
      have HI := Aside0.mk hin2
      clear hin hin2 h
      go_enter Try.func6, Try.ntmps6
      go_upto_region 4 with (first | (go_at_call 16; refine (spare_May.at_ k _ a0 a1 _ _ _ _ _ _ _ _ _ _ _ _ a6 true _ HN.out hm.out).mono ?_; rintro e w1 ⟨rfl, hb⟩; replace x0 := pw_cell_below hb x0; replace x1 := pw_cell_below hb x1; replace x2 := pw_cell_below hb x2; replace x3 := pw_cell_below hb x3; replace x4 := pw_cell_below hb x4; replace x5 := pw_cell_below hb x5; replace x6 := pw_cell_below hb x6; replace HN := Aside0.mk (HN.out.below hb); replace HB := Aside0.mk (below_step HB.out hb); clear hb) | (go_at_call 17; refine (conf_Site.no1 w.heap.size _ _ _ a0 HI.out _ x2).mono ?_; rintro e w2 ⟨rfl, hb⟩; replace x0 := pw_cell_below hb x0; replace x1 := pw_cell_below hb x1; replace x2 := pw_cell_below hb x2; replace x3 := pw_cell_below hb x3; replace x4 := pw_cell_below hb x4; replace x5 := pw_cell_below hb x5; replace x6 := pw_cell_below hb x6; replace HN := Aside0.mk (HN.out.below hb); replace HB := Aside0.mk (below_step HB.out hb); clear hb) | ((with_reducible refine gate_dst (N := 4) rfl ?_); refine box_event ?hg (N := 4) ?hd (cs := #[.int .i64 0, .bool false, .int .i64 0, .slice none 0 0]) (t := 53) ?hr ?_; (case hd => rfl); (case hg => rfl); (case hr => first | (go_simp; done) | (go_simp; rfl)); intro gs hg w3 hbox hb; have HW := Aside0.mk hb; have G := Aside0.mk (Nat.le_of_eq hg.symm : w2.heap.size ≤ gs); have Zb := Aside0.mk hbox; clear hb hbox hg; have z0 : w3.cell? ⟨gs, 0, none⟩ = some (.int .i64 0) := (blk_cell Zb.out 0).trans rfl; have y0 := blk_frozen Zb.out 0; have z1 : w3.cell? ⟨gs, 1, none⟩ = some (.bool false) := (blk_cell Zb.out 1).trans rfl; have y1 := blk_frozen Zb.out 1; have z2 : w3.cell? ⟨gs, 2, none⟩ = some (.int .i64 0) := (blk_cell Zb.out 2).trans rfl; have y2 := blk_frozen Zb.out 2; have z3 : w3.cell? ⟨gs, 3, none⟩ = some (.slice none 0 0) := (blk_cell Zb.out 3).trans rfl; have y3 := blk_frozen Zb.out 3; skip))
      refine spare_Full.hide (fun W => Below w2.heap.size w2 W ∧ W.heap[gs]? = some (.cells #[.int .i64 0, .bool false, .int .i64 0, .slice none 0 0] 53 (0, 0)) ∧ gs ≠ w.heap.size) ⟨by with_reducible repeat (first | exact HW.out | refine below_set ?_ G.out), by refine blk_put (cs := #[.int .i64 0, .bool false, .int .i64 0, .slice none 0 0]) ?_ 3 _ rfl; refine blk_put (cs := #[.int .i64 0, .bool false, .int .i64 0, .slice none 0 0]) ?_ 2 _ rfl; refine blk_put (cs := #[.int .i64 0, .bool false, .int .i64 0, .slice none 0 0]) ?_ 1 _ rfl; refine blk_put (cs := #[.int .i64 0, .bool false, .int .i64 0, .slice none 0 0]) ?_ 0 _ rfl; exact Zb.out, by have h1 := G.out; have h2 := World.block_lt_of_cell? _ _ x0; simp only [] at h2; omega⟩ ?_
      intro w4 ⟨hb, hz, hne⟩
      replace x0 := pw_cell_below hb x0; replace x1 := pw_cell_below hb x1; replace x2 := pw_cell_below hb x2; replace x3 := pw_cell_below hb x3; replace x4 := pw_cell_below hb x4; replace x5 := pw_cell_below hb x5; replace x6 := pw_cell_below hb x6; replace HN := Aside0.mk (HN.out.below hb); replace HB := Aside0.mk (below_step HB.out hb)
      have BZ := Aside0.mk hz
      have HNE := Aside0.mk hne
      clear hb hz hne HW G Zb z0 y0 z1 y1 z2 y2 z3 y3
      go_upto_region 5 with (go_at_call 18; refine (cand_Backs.calls a1 _ _ l2 a0 _ _ l3 bl be _ HN.out.r2 HN.out.q2 HN.out.r3 HN.out.q3 hbk.out).mono ?_; rintro e w5 ⟨v5, rfl, ho, hb⟩; obtain ⟨A5_, n5_, rfl⟩ := Kd.R_slice ho; replace BZ := Aside0.mk (blk_below BZ.out hb); clear ho; replace x0 := pw_cell_below hb x0; replace x1 := pw_cell_below hb x1; replace x2 := pw_cell_below hb x2; replace x3 := pw_cell_below hb x3; replace x4 := pw_cell_below hb x4; replace x5 := pw_cell_below hb x5; replace x6 := pw_cell_below hb x6; replace HN := Aside0.mk (HN.out.below hb); replace HB := Aside0.mk (below_step HB.out hb); clear hb)
      clear x0 x1 x2 x3 x4 x5 x6
      go_quiet (fail)
      go_wp2_with fail
      go_ret2
      exact ⟨rfl, by first | exact HB.out | exact pw_below_drewN HB.out _⟩


end Go.Proofs.Ytlapbhgkmmeeoaa.PSpareRoom
