/- Several texts of this proof in one file (put together by a program of this session). -/
import Derived.Test.YtnojgkiaolmoeaaDoorPScx0
import Derived.Test.YtnojgkiaolmoeaaDoorPScx26
import Derived.Test.YtnojgkiaolmoeaaDoorPenA
import Derived.Test.YtnojgkiaolmoeaaDoorTakeA
section
/- Contracts: what calls of these functions of the program do, each as a plain function; written by a program of this session. -/
namespace Go.Proofs.YtnojgkiaolmoeaaDoor.PSc
open Go.RowKit Go.Proofs.YtnojgkiaolmoeaaDoorW.PrintWords Go.Proofs.YtnojgkiaolmoeaaDoorW.PrintLast Go.Proofs.YtnojgkiaolmoeaaDoorW.PrintMore
attribute [local go_sem] max2_int min2_int max_two min_two max_three min_three max_four min_four   -- for this text's walks alone
set_option linter.unusedVariables false
set_option linter.unusedSimpArgs false

/-! ### wharfagelaw0_SameActs: function 13, by hand -/
instance wharfagelaw0_SameActs.decC : DecidableEq S38 := fun a b => decidable_of_iff (a.f0 = b.f0 ∧ a.f1 = b.f1) (by cases a; cases b; simp)
instance wharfagelaw0_SameActs.decA : DecidableEq S40 := fun a b => decidable_of_iff (a.f0 = b.f0 ∧ a.f1 = b.f1 ∧ a.f2 = b.f2 ∧ a.f3 = b.f3 ∧ a.f4 = b.f4 ∧ a.f5 = b.f5 ∧ a.f6 = b.f6 ∧ a.f7 = b.f7 ∧ a.f8 = b.f8) (by cases a; cases b; simp)
def wharfagelaw0_SameActs.f (k : Nat) (l0 l1 : List S40) : Option Bool := if l0 = l1 ∧ l0.length < 2000000000000 ∧ (∀ x ∈ l0, x.f8.f1.length < 2932031007402 ∧ ∀ s ∈ x.f8.f1, s.f3.length < k ∧ s.f3.length < 8796093022208) then some true else none
theorem wharfagelaw0_SameActs.mono : ∀ a0 a1 k, LeO (wharfagelaw0_SameActs.f k a0 a1) (wharfagelaw0_SameActs.f (k + 1) a0 a1) := by
 intro a0 a1 k
 unfold wharfagelaw0_SameActs.f
 by_cases h : a0 = a1 ∧ a0.length < 2000000000000 ∧ (∀ x ∈ a0, x.f8.f1.length < 2932031007402 ∧ ∀ s ∈ x.f8.f1, s.f3.length < k ∧ s.f3.length < 8796093022208)
 ·rw [if_pos h, if_pos ⟨h.1, h.2.1, fun x hx => ⟨(h.2.2 x hx).1, fun s hs => ⟨Nat.lt_succ_of_lt ((h.2.2 x hx).2 s hs).1, ((h.2.2 x hx).2 s hs).2⟩⟩⟩]
  exact LeO.refl _
 ·rw [if_neg h]
  exact LeO.none _
theorem wharfagelaw0_SameActs.cn_lt {w : World} {b : Nat} {o : Obj} (h : w.heap[b]? = some o) : b < w.heap.size := (Array.getElem?_eq_some_iff.1 h).1
theorem wharfagelaw0_SameActs.cn_below {w w1 : World} {b : Nat} {o : Obj} (h : w.heap[b]? = some o) (hb : Below w.heap.size w w1) : w1.heap[b]? = some o := (hb.block b (wharfagelaw0_SameActs.cn_lt h)).trans h
theorem wharfagelaw0_SameActs.cn_alloc {w : World} {b : Nat} {o : Obj} (h : w.heap[b]? = some o) (o2 : Obj) : (w.alloc o2).heap[b]? = some o := (Below.heap_alloc w o2 _ (wharfagelaw0_SameActs.cn_lt h)).trans h
theorem wharfagelaw0_SameActs.cn_cell {w : World} {b j : Nat} {cs : Array Value} {t : TypeId} {m : Nat × Nat} (h : w.heap[b]? = some (.cells cs t m)) : w.cell? ⟨b, j, none⟩ = cs[j]? := by simp [World.cell?, h]
theorem wharfagelaw0_SameActs.cn_free {w : World} {b j : Nat} {cs : Array Value} {t : TypeId} (h : w.heap[b]? = some (.cells cs t (0, 0))) : w.frozen? ⟨b, j, none⟩ = false := by simp [World.frozen?, h]
theorem wharfagelaw0_SameActs.tab6 : rtab .any (opsOf Tryd.f13 6) = rtab .any (opsOf Tryd.f13 6) := rfl
def wharfagelaw0_SameActs.B6 : List Nat := [0, 0, 3, 7, 0, 0, 48, 112, 0, 0, 783, 2047]
theorem wharfagelaw0_SameActs.bits6 : waitsOk (rtab .any (opsOf Tryd.f13 6)).2 wharfagelaw0_SameActs.B6 = true := by kernel_rfl
set_option maxHeartbeats 8000000 in
set_option maxRecDepth 100000 in
theorem wharfagelaw0_SameActs.calls (k : Nat) (A0 : Option Addr) (c0 : Nat) (l : List S40) (A1 : Option Addr) (c1 : Nat) (l1 : List S40) (r : Bool) (w : World) (hr0 : Kd.C k40 w A0 l.length l) (hc0 : l.length ≤ c0) (hr1 : Kd.C k40 w A1 l1.length l1) (hc1 : l1.length ≤ c1) (h : wharfagelaw0_SameActs.f k l l1 = some r) :
    Calls Tryd.prog 13 #[.slice A0 l.length c0, .slice A1 l1.length c1] w fun e w' => e = .returned (.bool r) ∧ Below w.heap.size w w' := by
  unfold wharfagelaw0_SameActs.f at h
  by_cases hh : l = l1 ∧ l.length < 2000000000000 ∧ (∀ x ∈ l, x.f8.f1.length < 2932031007402 ∧ ∀ s ∈ x.f8.f1, s.f3.length < k ∧ s.f3.length < 8796093022208)
  case neg => rw [if_neg hh] at h; cases h
  rw [if_pos hh] at h
  obtain rfl : true = r := Option.some.inj h
  obtain ⟨rfl, hll, hk⟩ := hh
  have hu := Tryd.underlying40
  have hu2 := Tryd.underlying38
  have HLL := Aside0.mk hll
  have HR0 := Aside0.mk hr0
  have HR1 := Aside0.mk hr1
  have HK := Aside0.mk hk
  clear hr0 hr1 h hk hc0 hc1 hll
  have ec : ((l.length : Int) != (l.length : Int)) = false := bne_self_eq_false _
  have ed : ((l.length : Int) == (l.length : Int)) = true := beq_self_eq_true _
  go_enter Tryd.func13, Tryd.ntmps13
  go_wp2_with fail
  go_loopg [5] (l.length + 1) (fun kq v5 w' => ∃ (i : Nat), v5 = .int .i64 (i : Int) ∧ Aside0 (i ≤ l.length ∧ (kq : Int) + i = l.length + 1) ∧ Aside0 (Below w.heap.size w w'))
  case atStart => exact ⟨0, rfl, ⟨by omega⟩, ⟨Below.refl _ _⟩⟩
  case round =>
    obtain ⟨i, rfl, HX, HBW⟩ := hrel
    cases gk with
    | zero => have := HX.out; omega
    | succ k1 =>
      by_cases c3 : (i : Int) < (l.length : Int)
      · have c3b := decide_eq_true c3
        have p1 : (0 : Int) ≤ (i : Int) := by omega
        have p1b := decide_eq_true p1
        obtain ⟨ad, A9, c9, ea, hx0, hx1, hx2, hx3, hx4, hx5, hx6, hx7, hx8, hx9, hlx, hix⟩ := at_T40 (Kd.C_below HR0.out HBW.out) (i : Int) p1 c3
        obtain ⟨bd, B9, d9, eb, hy0, hy1, hy2, hy3, hy4, hy5, hy6, hy7, hy8, hy9, hly, hiy⟩ := at_T40 (Kd.C_below HR1.out HBW.out) (i : Int) p1 c3
        cases ea
        cases eb
        obtain ⟨x, hx⟩ : ∃ x, rd_T40 l (i : Int) = x := ⟨_, rfl⟩
        have HXK := Aside0.mk (show x.f8.f1.length < 2932031007402 ∧ ∀ s ∈ x.f8.f1, s.f3.length < k ∧ s.f3.length < 8796093022208 by
          have hlt : i < l.length := by omega
          have e9 : rd_T40 l (i : Int) = l[i] := by simp [rd_T40, hlt]
          rw [← hx, e9]
          exact HK.out _ (List.getElem_mem hlt))
        rw [hx] at hx0 hx1 hx2 hx3 hx4 hx5 hx6 hx7 hx8 hx9 hlx hix hy0 hy1 hy2 hy3 hy4 hy5 hy6 hy7 hy8 hy9 hly hiy
        rw [Int.toNat_natCast] at hx0 hx1 hx2 hx3 hx4 hx5 hx6 hx7 hx8 hx9 hy0 hy1 hy2 hy3 hy4 hy5 hy6 hy7 hy8 hy9
        have HX0 := Aside0.mk hx0
        have HY0 := Aside0.mk hy0
        have HX1 := Aside0.mk hx1
        have HY1 := Aside0.mk hy1
        have HX2 := Aside0.mk hx2
        have HY2 := Aside0.mk hy2
        have HX3 := Aside0.mk hx3
        have HY3 := Aside0.mk hy3
        have HX4 := Aside0.mk hx4
        have HY4 := Aside0.mk hy4
        have HX5 := Aside0.mk hx5
        have HY5 := Aside0.mk hy5
        have HX6 := Aside0.mk hx6
        have HY6 := Aside0.mk hy6
        have HX7 := Aside0.mk hx7
        have HY7 := Aside0.mk hy7
        have HX8 := Aside0.mk hx8
        have HY8 := Aside0.mk hy8
        have HX9 := Aside0.mk hx9
        have HY9 := Aside0.mk hy9
        have HLX := Aside0.mk hlx
        have HIX := Aside0.mk hix
        have HLY := Aside0.mk hly
        have HIY := Aside0.mk hiy
        have c3' := eq_true c3
        have p1' := eq_true p1
        clear hx hx0 hx1 hx2 hx3 hx4 hx5 hx6 hx7 hx8 hx9 hy0 hy1 hy2 hy3 hy4 hy5 hy6 hy7 hy8 hy9 hlx hix hly hiy
        go_upto_region 6 with fail
        refine start_ (n := 12) (S := fun w' => True) (ds := []) #[false, false, false, false, false, false, false, false, false, false, false, false] (by kernel_rfl) rfl rfl trivial (fun hHeld => ?_); refine with_tabW wharfagelaw0_SameActs.tab6 wharfagelaw0_SameActs.bits6 (fun HT_ HW_ => ?_)
        refine inv_at [0, 1, 2, 3, 4, 5, 6, 7, 8, 9, 10, 11] (fun a0_ b a w' => ∃ (gx gy : Nat), a = putSel a0_ b [(0, 19, .slice (some ad) l.length c0), (1, 20, .int .i64 (i : Int)), (2, 21, .pointer (some (ad.add (i * 10)))), (3, 22, .agg #[.int .i64 x.f0, .int .i64 x.f1, .int .i64 x.f2, .int .i64 x.f3, .int .i64 x.f4, .int .i64 x.f5, .bool x.f6, .string x.f7, .int .i64 x.f8.f0, .slice A9 x.f8.f1.length c9]), (4, 23, .slice (some bd) l.length c1), (5, 24, .int .i64 (i : Int)), (6, 25, .pointer (some (bd.add (i * 10)))), (7, 26, .agg #[.int .i64 x.f0, .int .i64 x.f1, .int .i64 x.f2, .int .i64 x.f3, .int .i64 x.f4, .int .i64 x.f5, .bool x.f6, .string x.f7, .int .i64 x.f8.f0, .slice B9 x.f8.f1.length d9]), (8, 6, .pointer (some ⟨gx, 0, none⟩)), (9, 7, .pointer (some ⟨gy, 0, none⟩))] ∧ Below wr.heap.size wr w' ∧ (b 8 = true → wr.heap.size ≤ gx) ∧ (b 9 = true → wr.heap.size ≤ gy) ∧ (b 8 = true → b 9 = true → gx ≠ gy) ∧ (b 8 = true → b 10 = false → w'.heap[gx]? = some (.cells #[.int .i64 0, .int .i64 0, .int .i64 0, .int .i64 0, .int .i64 0, .int .i64 0, .bool false, .string ⟨#[]⟩, .int .i64 0, .slice none 0 0] 40 (0, 0))) ∧ (b 10 = true → w'.heap[gx]? = some (.cells #[.int .i64 x.f0, .int .i64 x.f1, .int .i64 x.f2, .int .i64 x.f3, .int .i64 x.f4, .int .i64 x.f5, .bool x.f6, .string x.f7, .int .i64 x.f8.f0, .slice A9 x.f8.f1.length c9] 40 (0, 0))) ∧ (b 9 = true → b 11 = false → w'.heap[gy]? = some (.cells #[.int .i64 0, .int .i64 0, .int .i64 0, .int .i64 0, .int .i64 0, .int .i64 0, .bool false, .string ⟨#[]⟩, .int .i64 0, .slice none 0 0] 40 (0, 0))) ∧ (b 11 = true → w'.heap[gy]? = some (.cells #[.int .i64 x.f0, .int .i64 x.f1, .int .i64 x.f2, .int .i64 x.f3, .int .i64 x.f4, .int .i64 x.f5, .bool x.f6, .string x.f7, .int .i64 x.f8.f0, .slice B9 x.f8.f1.length d9] 40 (0, 0)))) HT_.out HW_.out (by kernel_rfl) (by kernel_rfl) ?_ ?_ ?_
        · exact ⟨0, 0, by simp only [putSel, Bool.false_eq_true, if_false], below_drew1 (Below.refl _ _), fun h_ => absurd h_ (by decide), fun h_ => absurd h_ (by decide), fun h_ => absurd h_ (by decide), fun h_ => absurd h_ (by decide), fun h_ => absurd h_ (by decide), fun h_ => absurd h_ (by decide), fun h_ => absurd h_ (by decide)⟩
        · skip
          refine steps_cons ?_ ?_
          · rintro b a w' ⟨gx, gy, ha, QB, GX, GY, NE, X0, X1, Y0, Y1⟩ hb_ hon hoff
            refine ⟨_, rfl, fun K hK => ?_⟩
            have e0 : a.tmps[0]? = some (.slice (some ad) l.length c0) := by rw [ha]; exact (putSel_off rfl).trans rfl
            replace ha := Aside0.mk ha
            refine value_ (w1 := w') (v := .slice (some ad) l.length c0) (by rfl) rfl ?_ ?_
            · go_simp
              try rfl
            exact hK.out _ _ ⟨gx, gy, (by rw [ha.out]; exact putSel_upk 0 hb_ rfl rfl rfl), QB, GX, GY, NE, X0, X1, Y0, Y1⟩
          refine steps_cons ?_ ?_
          · rintro b a w' ⟨gx, gy, ha, QB, GX, GY, NE, X0, X1, Y0, Y1⟩ hb_ hon hoff
            refine ⟨_, rfl, fun K hK => ?_⟩
            have e5 : a.tmps[5]? = some (.int .i64 (i : Int)) := by rw [ha]; exact (putSel_off rfl).trans rfl
            replace ha := Aside0.mk ha
            refine value_ (w1 := w') (v := .int .i64 (i : Int)) (by rfl) rfl ?_ ?_
            · go_simp
              try rfl
            exact hK.out _ _ ⟨gx, gy, (by rw [ha.out]; exact putSel_upk 1 hb_ rfl rfl rfl), QB, GX, GY, NE, X0, X1, Y0, Y1⟩
          refine steps_cons ?_ ?_
          · rintro b a w' ⟨gx, gy, ha, QB, GX, GY, NE, X0, X1, Y0, Y1⟩ hb_ hon hoff
            refine ⟨_, rfl, fun K hK => ?_⟩
            have e19 : a.tmps[19]? = some (.slice (some ad) l.length c0) := by rw [ha]; exact putSel_on (e := (0, 19, .slice (some ad) l.length c0)) 0 rfl rfl (hon 0 (by kernel_rfl)) rfl
            have e20 : a.tmps[20]? = some (.int .i64 (i : Int)) := by rw [ha]; exact putSel_on (e := (1, 20, .int .i64 (i : Int))) 1 rfl rfl (hon 1 (by kernel_rfl)) rfl
            replace ha := Aside0.mk ha
            refine value_ (w1 := w') (v := .pointer (some (ad.add (i * 10)))) (by rfl) rfl ?_ ?_
            · go_simp
              try rfl
            exact hK.out _ _ ⟨gx, gy, (by rw [ha.out]; exact putSel_upk 2 hb_ rfl rfl rfl), QB, GX, GY, NE, X0, X1, Y0, Y1⟩
          refine steps_cons ?_ ?_
          · rintro b a w' ⟨gx, gy, ha, QB, GX, GY, NE, X0, X1, Y0, Y1⟩ hb_ hon hoff
            refine ⟨_, rfl, fun K hK => ?_⟩
            have e21 : a.tmps[21]? = some (.pointer (some (ad.add (i * 10)))) := by rw [ha]; exact putSel_on (e := (2, 21, .pointer (some (ad.add (i * 10))))) 2 rfl rfl (hon 2 (by kernel_rfl)) rfl
            have hx0 := pw_cell_below QB HX0.out
            have hx1 := pw_cell_below QB HX1.out
            have hx2 := pw_cell_below QB HX2.out
            have hx3 := pw_cell_below QB HX3.out
            have hx4 := pw_cell_below QB HX4.out
            have hx5 := pw_cell_below QB HX5.out
            have hx6 := pw_cell_below QB HX6.out
            have hx7 := pw_cell_below QB HX7.out
            have hx8 := pw_cell_below QB HX8.out
            have hx9 := pw_cell_below QB HX9.out
            replace ha := Aside0.mk ha
            refine value_ (w1 := w') (v := .agg #[.int .i64 x.f0, .int .i64 x.f1, .int .i64 x.f2, .int .i64 x.f3, .int .i64 x.f4, .int .i64 x.f5, .bool x.f6, .string x.f7, .int .i64 x.f8.f0, .slice A9 x.f8.f1.length c9]) (by rfl) rfl ?_ ?_
            · go_simp
              try rfl
            exact hK.out _ _ ⟨gx, gy, (by rw [ha.out]; exact putSel_upk 3 hb_ rfl rfl rfl), QB, GX, GY, NE, X0, X1, Y0, Y1⟩
          refine steps_cons ?_ ?_
          · rintro b a w' ⟨gx, gy, ha, QB, GX, GY, NE, X0, X1, Y0, Y1⟩ hb_ hon hoff
            refine ⟨_, rfl, fun K hK => ?_⟩
            have e1 : a.tmps[1]? = some (.slice (some bd) l.length c1) := by rw [ha]; exact (putSel_off rfl).trans rfl
            replace ha := Aside0.mk ha
            refine value_ (w1 := w') (v := .slice (some bd) l.length c1) (by rfl) rfl ?_ ?_
            · go_simp
              try rfl
            exact hK.out _ _ ⟨gx, gy, (by rw [ha.out]; exact putSel_upk 4 hb_ rfl rfl rfl), QB, GX, GY, NE, X0, X1, Y0, Y1⟩
          refine steps_cons ?_ ?_
          · rintro b a w' ⟨gx, gy, ha, QB, GX, GY, NE, X0, X1, Y0, Y1⟩ hb_ hon hoff
            refine ⟨_, rfl, fun K hK => ?_⟩
            have e5 : a.tmps[5]? = some (.int .i64 (i : Int)) := by rw [ha]; exact (putSel_off rfl).trans rfl
            replace ha := Aside0.mk ha
            refine value_ (w1 := w') (v := .int .i64 (i : Int)) (by rfl) rfl ?_ ?_
            · go_simp
              try rfl
            exact hK.out _ _ ⟨gx, gy, (by rw [ha.out]; exact putSel_upk 5 hb_ rfl rfl rfl), QB, GX, GY, NE, X0, X1, Y0, Y1⟩
          refine steps_cons ?_ ?_
          · rintro b a w' ⟨gx, gy, ha, QB, GX, GY, NE, X0, X1, Y0, Y1⟩ hb_ hon hoff
            refine ⟨_, rfl, fun K hK => ?_⟩
            have e23 : a.tmps[23]? = some (.slice (some bd) l.length c1) := by rw [ha]; exact putSel_on (e := (4, 23, .slice (some bd) l.length c1)) 4 rfl rfl (hon 4 (by kernel_rfl)) rfl
            have e24 : a.tmps[24]? = some (.int .i64 (i : Int)) := by rw [ha]; exact putSel_on (e := (5, 24, .int .i64 (i : Int))) 5 rfl rfl (hon 5 (by kernel_rfl)) rfl
            replace ha := Aside0.mk ha
            refine value_ (w1 := w') (v := .pointer (some (bd.add (i * 10)))) (by rfl) rfl ?_ ?_
            · go_simp
              try rfl
            exact hK.out _ _ ⟨gx, gy, (by rw [ha.out]; exact putSel_upk 6 hb_ rfl rfl rfl), QB, GX, GY, NE, X0, X1, Y0, Y1⟩
          refine steps_cons ?_ ?_
          · rintro b a w' ⟨gx, gy, ha, QB, GX, GY, NE, X0, X1, Y0, Y1⟩ hb_ hon hoff
            refine ⟨_, rfl, fun K hK => ?_⟩
            have e25 : a.tmps[25]? = some (.pointer (some (bd.add (i * 10)))) := by rw [ha]; exact putSel_on (e := (6, 25, .pointer (some (bd.add (i * 10))))) 6 rfl rfl (hon 6 (by kernel_rfl)) rfl
            have hx0 := pw_cell_below QB HY0.out
            have hx1 := pw_cell_below QB HY1.out
            have hx2 := pw_cell_below QB HY2.out
            have hx3 := pw_cell_below QB HY3.out
            have hx4 := pw_cell_below QB HY4.out
            have hx5 := pw_cell_below QB HY5.out
            have hx6 := pw_cell_below QB HY6.out
            have hx7 := pw_cell_below QB HY7.out
            have hx8 := pw_cell_below QB HY8.out
            have hx9 := pw_cell_below QB HY9.out
            replace ha := Aside0.mk ha
            refine value_ (w1 := w') (v := .agg #[.int .i64 x.f0, .int .i64 x.f1, .int .i64 x.f2, .int .i64 x.f3, .int .i64 x.f4, .int .i64 x.f5, .bool x.f6, .string x.f7, .int .i64 x.f8.f0, .slice B9 x.f8.f1.length d9]) (by rfl) rfl ?_ ?_
            · go_simp
              try rfl
            exact hK.out _ _ ⟨gx, gy, (by rw [ha.out]; exact putSel_upk 7 hb_ rfl rfl rfl), QB, GX, GY, NE, X0, X1, Y0, Y1⟩
          refine steps_cons ?_ ?_
          · rintro b a w' ⟨gx, gy, ha, QB, GX, GY, NE, X0, X1, Y0, Y1⟩ hb_ hon hoff
            refine ⟨_, rfl, fun K hK => ?_⟩
            replace ha := Aside0.mk ha
            refine value_ (w1 := w'.alloc (.cells #[.int .i64 0, .int .i64 0, .int .i64 0, .int .i64 0, .int .i64 0, .int .i64 0, .bool false, .string ⟨#[]⟩, .int .i64 0, .slice none 0 0] 40)) (v := .pointer (some ⟨w'.heap.size, 0, none⟩)) (by rfl) rfl ?_ ?_
            · go_simp
              try rfl
            exact hK.out _ _ ⟨w'.heap.size, gy, (by rw [ha.out]; exact putSel_upk 8 hb_ rfl rfl rfl), below_alloc QB _, fun _ => below_size QB, GY, fun _ h2_ => Nat.ne_of_gt (wharfagelaw0_SameActs.cn_lt (Y0 h2_ (hoff 11 (by kernel_rfl)))), fun _ _ => heap_alloc_new w' _, fun h_ => absurd ((hoff 10 (by kernel_rfl)).symm.trans h_) (by decide), fun h1_ h2_ => wharfagelaw0_SameActs.cn_alloc (Y0 h1_ h2_) _, fun h_ => absurd ((hoff 11 (by kernel_rfl)).symm.trans h_) (by decide)⟩
          refine steps_cons ?_ ?_
          · rintro b a w' ⟨gx, gy, ha, QB, GX, GY, NE, X0, X1, Y0, Y1⟩ hb_ hon hoff
            refine ⟨_, rfl, fun K hK => ?_⟩
            replace ha := Aside0.mk ha
            refine value_ (w1 := w'.alloc (.cells #[.int .i64 0, .int .i64 0, .int .i64 0, .int .i64 0, .int .i64 0, .int .i64 0, .bool false, .string ⟨#[]⟩, .int .i64 0, .slice none 0 0] 40)) (v := .pointer (some ⟨w'.heap.size, 0, none⟩)) (by rfl) rfl ?_ ?_
            · go_simp
              try rfl
            exact hK.out _ _ ⟨gx, w'.heap.size, (by rw [ha.out]; exact putSel_upk 9 hb_ rfl rfl rfl), below_alloc QB _, GX, fun _ => below_size QB, fun h1_ _ => Nat.ne_of_lt (wharfagelaw0_SameActs.cn_lt (X0 h1_ (hoff 10 (by kernel_rfl)))), fun h1_ h2_ => wharfagelaw0_SameActs.cn_alloc (X0 h1_ h2_) _, fun h_ => absurd ((hoff 10 (by kernel_rfl)).symm.trans h_) (by decide), fun _ _ => heap_alloc_new w' _, fun h_ => absurd ((hoff 11 (by kernel_rfl)).symm.trans h_) (by decide)⟩
          refine steps_cons ?_ ?_
          · rintro b a w' ⟨gx, gy, ha, QB, GX, GY, NE, X0, X1, Y0, Y1⟩ hb_ hon hoff
            refine ⟨_, rfl, fun K hK => ?_⟩
            have e22 : a.tmps[22]? = some (.agg #[.int .i64 x.f0, .int .i64 x.f1, .int .i64 x.f2, .int .i64 x.f3, .int .i64 x.f4, .int .i64 x.f5, .bool x.f6, .string x.f7, .int .i64 x.f8.f0, .slice A9 x.f8.f1.length c9]) := by rw [ha]; exact putSel_on (e := (3, 22, .agg #[.int .i64 x.f0, .int .i64 x.f1, .int .i64 x.f2, .int .i64 x.f3, .int .i64 x.f4, .int .i64 x.f5, .bool x.f6, .string x.f7, .int .i64 x.f8.f0, .slice A9 x.f8.f1.length c9])) 3 rfl rfl (hon 3 (by kernel_rfl)) rfl
            have e6 : a.tmps[6]? = some (.pointer (some ⟨gx, 0, none⟩)) := by rw [ha]; exact putSel_on (e := (8, 6, .pointer (some ⟨gx, 0, none⟩))) 8 rfl rfl (hon 8 (by kernel_rfl)) rfl
            replace ha := Aside0.mk ha
            have g0 := X0 (hon 8 (by kernel_rfl)) hb_
            have o0 := Y0 (hon 9 (by kernel_rfl)) (hoff 11 (by kernel_rfl))
            have ne := NE (hon 8 (by kernel_rfl)) (hon 9 (by kernel_rfl))
            have ge := GX (hon 8 (by kernel_rfl))
            have z0 : w'.cell? ⟨gx, 0, none⟩ = some (.int .i64 0) := (wharfagelaw0_SameActs.cn_cell g0).trans rfl
            have y0 : w'.frozen? ⟨gx, 0, none⟩ = false := wharfagelaw0_SameActs.cn_free g0
            have z1 : w'.cell? ⟨gx, 1, none⟩ = some (.int .i64 0) := (wharfagelaw0_SameActs.cn_cell g0).trans rfl
            have y1 : w'.frozen? ⟨gx, 1, none⟩ = false := wharfagelaw0_SameActs.cn_free g0
            have z2 : w'.cell? ⟨gx, 2, none⟩ = some (.int .i64 0) := (wharfagelaw0_SameActs.cn_cell g0).trans rfl
            have y2 : w'.frozen? ⟨gx, 2, none⟩ = false := wharfagelaw0_SameActs.cn_free g0
            have z3 : w'.cell? ⟨gx, 3, none⟩ = some (.int .i64 0) := (wharfagelaw0_SameActs.cn_cell g0).trans rfl
            have y3 : w'.frozen? ⟨gx, 3, none⟩ = false := wharfagelaw0_SameActs.cn_free g0
            have z4 : w'.cell? ⟨gx, 4, none⟩ = some (.int .i64 0) := (wharfagelaw0_SameActs.cn_cell g0).trans rfl
            have y4 : w'.frozen? ⟨gx, 4, none⟩ = false := wharfagelaw0_SameActs.cn_free g0
            have z5 : w'.cell? ⟨gx, 5, none⟩ = some (.int .i64 0) := (wharfagelaw0_SameActs.cn_cell g0).trans rfl
            have y5 : w'.frozen? ⟨gx, 5, none⟩ = false := wharfagelaw0_SameActs.cn_free g0
            have z6 : w'.cell? ⟨gx, 6, none⟩ = some (.bool false) := (wharfagelaw0_SameActs.cn_cell g0).trans rfl
            have y6 : w'.frozen? ⟨gx, 6, none⟩ = false := wharfagelaw0_SameActs.cn_free g0
            have z7 : w'.cell? ⟨gx, 7, none⟩ = some (.string ⟨#[]⟩) := (wharfagelaw0_SameActs.cn_cell g0).trans rfl
            have y7 : w'.frozen? ⟨gx, 7, none⟩ = false := wharfagelaw0_SameActs.cn_free g0
            have z8 : w'.cell? ⟨gx, 8, none⟩ = some (.int .i64 0) := (wharfagelaw0_SameActs.cn_cell g0).trans rfl
            have y8 : w'.frozen? ⟨gx, 8, none⟩ = false := wharfagelaw0_SameActs.cn_free g0
            have z9 : w'.cell? ⟨gx, 9, none⟩ = some (.slice none 0 0) := (wharfagelaw0_SameActs.cn_cell g0).trans rfl
            have y9 : w'.frozen? ⟨gx, 9, none⟩ = false := wharfagelaw0_SameActs.cn_free g0
            have hgo := Aside0.mk (And.intro g0 (And.intro o0 (And.intro ne ge)))
            clear g0 o0 ne ge
            refine skip_ (w1 := ((((((((((w'.setCell ⟨gx, 0, none⟩ (.int .i64 x.f0)).setCell ⟨gx, 1, none⟩ (.int .i64 x.f1)).setCell ⟨gx, 2, none⟩ (.int .i64 x.f2)).setCell ⟨gx, 3, none⟩ (.int .i64 x.f3)).setCell ⟨gx, 4, none⟩ (.int .i64 x.f4)).setCell ⟨gx, 5, none⟩ (.int .i64 x.f5)).setCell ⟨gx, 6, none⟩ (.bool x.f6)).setCell ⟨gx, 7, none⟩ (.string x.f7)).setCell ⟨gx, 8, none⟩ (.int .i64 x.f8.f0)).setCell ⟨gx, 9, none⟩ (.slice A9 x.f8.f1.length c9))) (by rfl) rfl ?_ ?_
            · go_simp
              try rfl
            obtain ⟨g0, o0, ne, ge⟩ := hgo.out
            exact hK.out _ _ ⟨gx, gy, (by rw [ha.out]; exact (putSel_same rfl).symm), (below_set (below_set (below_set (below_set (below_set (below_set (below_set (below_set (below_set (below_set QB ge) ge) ge) ge) ge) ge) ge) ge) ge) ge), GX, GY, NE, fun _ h_ => absurd ((up_self b 10).symm.trans h_) (by decide), fun _ => (by refine blk_put (cs := #[.int .i64 x.f0, .int .i64 x.f1, .int .i64 x.f2, .int .i64 x.f3, .int .i64 x.f4, .int .i64 x.f5, .bool x.f6, .string x.f7, .int .i64 x.f8.f0, .slice none 0 0]) ?_ 9 _ rfl; refine blk_put (cs := #[.int .i64 x.f0, .int .i64 x.f1, .int .i64 x.f2, .int .i64 x.f3, .int .i64 x.f4, .int .i64 x.f5, .bool x.f6, .string x.f7, .int .i64 0, .slice none 0 0]) ?_ 8 _ rfl; refine blk_put (cs := #[.int .i64 x.f0, .int .i64 x.f1, .int .i64 x.f2, .int .i64 x.f3, .int .i64 x.f4, .int .i64 x.f5, .bool x.f6, .string ⟨#[]⟩, .int .i64 0, .slice none 0 0]) ?_ 7 _ rfl; refine blk_put (cs := #[.int .i64 x.f0, .int .i64 x.f1, .int .i64 x.f2, .int .i64 x.f3, .int .i64 x.f4, .int .i64 x.f5, .bool false, .string ⟨#[]⟩, .int .i64 0, .slice none 0 0]) ?_ 6 _ rfl; refine blk_put (cs := #[.int .i64 x.f0, .int .i64 x.f1, .int .i64 x.f2, .int .i64 x.f3, .int .i64 x.f4, .int .i64 0, .bool false, .string ⟨#[]⟩, .int .i64 0, .slice none 0 0]) ?_ 5 _ rfl; refine blk_put (cs := #[.int .i64 x.f0, .int .i64 x.f1, .int .i64 x.f2, .int .i64 x.f3, .int .i64 0, .int .i64 0, .bool false, .string ⟨#[]⟩, .int .i64 0, .slice none 0 0]) ?_ 4 _ rfl; refine blk_put (cs := #[.int .i64 x.f0, .int .i64 x.f1, .int .i64 x.f2, .int .i64 0, .int .i64 0, .int .i64 0, .bool false, .string ⟨#[]⟩, .int .i64 0, .slice none 0 0]) ?_ 3 _ rfl; refine blk_put (cs := #[.int .i64 x.f0, .int .i64 x.f1, .int .i64 0, .int .i64 0, .int .i64 0, .int .i64 0, .bool false, .string ⟨#[]⟩, .int .i64 0, .slice none 0 0]) ?_ 2 _ rfl; refine blk_put (cs := #[.int .i64 x.f0, .int .i64 0, .int .i64 0, .int .i64 0, .int .i64 0, .int .i64 0, .bool false, .string ⟨#[]⟩, .int .i64 0, .slice none 0 0]) ?_ 1 _ rfl; refine blk_put (cs := #[.int .i64 0, .int .i64 0, .int .i64 0, .int .i64 0, .int .i64 0, .int .i64 0, .bool false, .string ⟨#[]⟩, .int .i64 0, .slice none 0 0]) ?_ 0 _ rfl; exact g0), fun _ _ => (blk_far (blk_far (blk_far (blk_far (blk_far (blk_far (blk_far (blk_far (blk_far (blk_far o0 (Ne.symm ne) _) (Ne.symm ne) _) (Ne.symm ne) _) (Ne.symm ne) _) (Ne.symm ne) _) (Ne.symm ne) _) (Ne.symm ne) _) (Ne.symm ne) _) (Ne.symm ne) _) (Ne.symm ne) _), fun h_ => absurd ((hoff 11 (by kernel_rfl)).symm.trans h_) (by decide)⟩
          refine steps_cons ?_ ?_
          · rintro b a w' ⟨gx, gy, ha, QB, GX, GY, NE, X0, X1, Y0, Y1⟩ hb_ hon hoff
            refine ⟨_, rfl, fun K hK => ?_⟩
            have e26 : a.tmps[26]? = some (.agg #[.int .i64 x.f0, .int .i64 x.f1, .int .i64 x.f2, .int .i64 x.f3, .int .i64 x.f4, .int .i64 x.f5, .bool x.f6, .string x.f7, .int .i64 x.f8.f0, .slice B9 x.f8.f1.length d9]) := by rw [ha]; exact putSel_on (e := (7, 26, .agg #[.int .i64 x.f0, .int .i64 x.f1, .int .i64 x.f2, .int .i64 x.f3, .int .i64 x.f4, .int .i64 x.f5, .bool x.f6, .string x.f7, .int .i64 x.f8.f0, .slice B9 x.f8.f1.length d9])) 7 rfl rfl (hon 7 (by kernel_rfl)) rfl
            have e7 : a.tmps[7]? = some (.pointer (some ⟨gy, 0, none⟩)) := by rw [ha]; exact putSel_on (e := (9, 7, .pointer (some ⟨gy, 0, none⟩))) 9 rfl rfl (hon 9 (by kernel_rfl)) rfl
            replace ha := Aside0.mk ha
            have g0 := Y0 (hon 9 (by kernel_rfl)) hb_
            have o0 := X1 (hon 10 (by kernel_rfl))
            have ne := NE (hon 8 (by kernel_rfl)) (hon 9 (by kernel_rfl))
            have ge := GY (hon 9 (by kernel_rfl))
            have z0 : w'.cell? ⟨gy, 0, none⟩ = some (.int .i64 0) := (wharfagelaw0_SameActs.cn_cell g0).trans rfl
            have y0 : w'.frozen? ⟨gy, 0, none⟩ = false := wharfagelaw0_SameActs.cn_free g0
            have z1 : w'.cell? ⟨gy, 1, none⟩ = some (.int .i64 0) := (wharfagelaw0_SameActs.cn_cell g0).trans rfl
            have y1 : w'.frozen? ⟨gy, 1, none⟩ = false := wharfagelaw0_SameActs.cn_free g0
            have z2 : w'.cell? ⟨gy, 2, none⟩ = some (.int .i64 0) := (wharfagelaw0_SameActs.cn_cell g0).trans rfl
            have y2 : w'.frozen? ⟨gy, 2, none⟩ = false := wharfagelaw0_SameActs.cn_free g0
            have z3 : w'.cell? ⟨gy, 3, none⟩ = some (.int .i64 0) := (wharfagelaw0_SameActs.cn_cell g0).trans rfl
            have y3 : w'.frozen? ⟨gy, 3, none⟩ = false := wharfagelaw0_SameActs.cn_free g0
            have z4 : w'.cell? ⟨gy, 4, none⟩ = some (.int .i64 0) := (wharfagelaw0_SameActs.cn_cell g0).trans rfl
            have y4 : w'.frozen? ⟨gy, 4, none⟩ = false := wharfagelaw0_SameActs.cn_free g0
            have z5 : w'.cell? ⟨gy, 5, none⟩ = some (.int .i64 0) := (wharfagelaw0_SameActs.cn_cell g0).trans rfl
            have y5 : w'.frozen? ⟨gy, 5, none⟩ = false := wharfagelaw0_SameActs.cn_free g0
            have z6 : w'.cell? ⟨gy, 6, none⟩ = some (.bool false) := (wharfagelaw0_SameActs.cn_cell g0).trans rfl
            have y6 : w'.frozen? ⟨gy, 6, none⟩ = false := wharfagelaw0_SameActs.cn_free g0
            have z7 : w'.cell? ⟨gy, 7, none⟩ = some (.string ⟨#[]⟩) := (wharfagelaw0_SameActs.cn_cell g0).trans rfl
            have y7 : w'.frozen? ⟨gy, 7, none⟩ = false := wharfagelaw0_SameActs.cn_free g0
            have z8 : w'.cell? ⟨gy, 8, none⟩ = some (.int .i64 0) := (wharfagelaw0_SameActs.cn_cell g0).trans rfl
            have y8 : w'.frozen? ⟨gy, 8, none⟩ = false := wharfagelaw0_SameActs.cn_free g0
            have z9 : w'.cell? ⟨gy, 9, none⟩ = some (.slice none 0 0) := (wharfagelaw0_SameActs.cn_cell g0).trans rfl
            have y9 : w'.frozen? ⟨gy, 9, none⟩ = false := wharfagelaw0_SameActs.cn_free g0
            have hgo := Aside0.mk (And.intro g0 (And.intro o0 (And.intro ne ge)))
            clear g0 o0 ne ge
            refine skip_ (w1 := ((((((((((w'.setCell ⟨gy, 0, none⟩ (.int .i64 x.f0)).setCell ⟨gy, 1, none⟩ (.int .i64 x.f1)).setCell ⟨gy, 2, none⟩ (.int .i64 x.f2)).setCell ⟨gy, 3, none⟩ (.int .i64 x.f3)).setCell ⟨gy, 4, none⟩ (.int .i64 x.f4)).setCell ⟨gy, 5, none⟩ (.int .i64 x.f5)).setCell ⟨gy, 6, none⟩ (.bool x.f6)).setCell ⟨gy, 7, none⟩ (.string x.f7)).setCell ⟨gy, 8, none⟩ (.int .i64 x.f8.f0)).setCell ⟨gy, 9, none⟩ (.slice B9 x.f8.f1.length d9))) (by rfl) rfl ?_ ?_
            · go_simp
              try rfl
            obtain ⟨g0, o0, ne, ge⟩ := hgo.out
            exact hK.out _ _ ⟨gx, gy, (by rw [ha.out]; exact (putSel_same rfl).symm), (below_set (below_set (below_set (below_set (below_set (below_set (below_set (below_set (below_set (below_set QB ge) ge) ge) ge) ge) ge) ge) ge) ge) ge), GX, GY, NE, fun _ h_ => absurd ((hon 10 (by kernel_rfl)).symm.trans h_) (by decide), fun _ => (blk_far (blk_far (blk_far (blk_far (blk_far (blk_far (blk_far (blk_far (blk_far (blk_far o0 ne _) ne _) ne _) ne _) ne _) ne _) ne _) ne _) ne _) ne _), fun _ h_ => absurd ((up_self b 11).symm.trans h_) (by decide), fun _ => (by refine blk_put (cs := #[.int .i64 x.f0, .int .i64 x.f1, .int .i64 x.f2, .int .i64 x.f3, .int .i64 x.f4, .int .i64 x.f5, .bool x.f6, .string x.f7, .int .i64 x.f8.f0, .slice none 0 0]) ?_ 9 _ rfl; refine blk_put (cs := #[.int .i64 x.f0, .int .i64 x.f1, .int .i64 x.f2, .int .i64 x.f3, .int .i64 x.f4, .int .i64 x.f5, .bool x.f6, .string x.f7, .int .i64 0, .slice none 0 0]) ?_ 8 _ rfl; refine blk_put (cs := #[.int .i64 x.f0, .int .i64 x.f1, .int .i64 x.f2, .int .i64 x.f3, .int .i64 x.f4, .int .i64 x.f5, .bool x.f6, .string ⟨#[]⟩, .int .i64 0, .slice none 0 0]) ?_ 7 _ rfl; refine blk_put (cs := #[.int .i64 x.f0, .int .i64 x.f1, .int .i64 x.f2, .int .i64 x.f3, .int .i64 x.f4, .int .i64 x.f5, .bool false, .string ⟨#[]⟩, .int .i64 0, .slice none 0 0]) ?_ 6 _ rfl; refine blk_put (cs := #[.int .i64 x.f0, .int .i64 x.f1, .int .i64 x.f2, .int .i64 x.f3, .int .i64 x.f4, .int .i64 0, .bool false, .string ⟨#[]⟩, .int .i64 0, .slice none 0 0]) ?_ 5 _ rfl; refine blk_put (cs := #[.int .i64 x.f0, .int .i64 x.f1, .int .i64 x.f2, .int .i64 x.f3, .int .i64 0, .int .i64 0, .bool false, .string ⟨#[]⟩, .int .i64 0, .slice none 0 0]) ?_ 4 _ rfl; refine blk_put (cs := #[.int .i64 x.f0, .int .i64 x.f1, .int .i64 x.f2, .int .i64 0, .int .i64 0, .int .i64 0, .bool false, .string ⟨#[]⟩, .int .i64 0, .slice none 0 0]) ?_ 3 _ rfl; refine blk_put (cs := #[.int .i64 x.f0, .int .i64 x.f1, .int .i64 0, .int .i64 0, .int .i64 0, .int .i64 0, .bool false, .string ⟨#[]⟩, .int .i64 0, .slice none 0 0]) ?_ 2 _ rfl; refine blk_put (cs := #[.int .i64 x.f0, .int .i64 0, .int .i64 0, .int .i64 0, .int .i64 0, .int .i64 0, .bool false, .string ⟨#[]⟩, .int .i64 0, .slice none 0 0]) ?_ 1 _ rfl; refine blk_put (cs := #[.int .i64 0, .int .i64 0, .int .i64 0, .int .i64 0, .int .i64 0, .int .i64 0, .bool false, .string ⟨#[]⟩, .int .i64 0, .slice none 0 0]) ?_ 0 _ rfl; exact g0)⟩
          exact steps_nil
        rintro b a wx hall ⟨gx, gy, ha, QB, GX, GY, NE, X0, X1, Y0, Y1⟩
        have hb0_ := hall 0 (by kernel_rfl)
        have hb1_ := hall 1 (by kernel_rfl)
        have hb2_ := hall 2 (by kernel_rfl)
        have hb3_ := hall 3 (by kernel_rfl)
        have hb4_ := hall 4 (by kernel_rfl)
        have hb5_ := hall 5 (by kernel_rfl)
        have hb6_ := hall 6 (by kernel_rfl)
        have hb7_ := hall 7 (by kernel_rfl)
        have hb8_ := hall 8 (by kernel_rfl)
        have hb9_ := hall 9 (by kernel_rfl)
        have hb10_ := hall 10 (by kernel_rfl)
        have hb11_ := hall 11 (by kernel_rfl)
        subst ha
        simp only [putSel, hb0_, hb1_, hb2_, hb3_, hb4_, hb5_, hb6_, hb7_, hb8_, hb9_, if_true, Act.put, List.setIfInBounds_toArray, List.set_cons_zero, List.set_cons_succ]
        have BXX := Aside0.mk (X1 hb10_)
        have BYY := Aside0.mk (Y1 hb11_)
        have HBX := Aside0.mk (below_step HBW.out QB)
        have u0 : wx.cell? ⟨gx, 0, none⟩ = some (.int .i64 x.f0) := (blk_cell BXX.out 0).trans rfl
        have v0 : wx.cell? ⟨gy, 0, none⟩ = some (.int .i64 x.f0) := (blk_cell BYY.out 0).trans rfl
        have u1 : wx.cell? ⟨gx, 1, none⟩ = some (.int .i64 x.f1) := (blk_cell BXX.out 1).trans rfl
        have v1 : wx.cell? ⟨gy, 1, none⟩ = some (.int .i64 x.f1) := (blk_cell BYY.out 1).trans rfl
        have u2 : wx.cell? ⟨gx, 2, none⟩ = some (.int .i64 x.f2) := (blk_cell BXX.out 2).trans rfl
        have v2 : wx.cell? ⟨gy, 2, none⟩ = some (.int .i64 x.f2) := (blk_cell BYY.out 2).trans rfl
        have u3 : wx.cell? ⟨gx, 3, none⟩ = some (.int .i64 x.f3) := (blk_cell BXX.out 3).trans rfl
        have v3 : wx.cell? ⟨gy, 3, none⟩ = some (.int .i64 x.f3) := (blk_cell BYY.out 3).trans rfl
        have u4 : wx.cell? ⟨gx, 4, none⟩ = some (.int .i64 x.f4) := (blk_cell BXX.out 4).trans rfl
        have v4 : wx.cell? ⟨gy, 4, none⟩ = some (.int .i64 x.f4) := (blk_cell BYY.out 4).trans rfl
        have u5 : wx.cell? ⟨gx, 5, none⟩ = some (.int .i64 x.f5) := (blk_cell BXX.out 5).trans rfl
        have v5 : wx.cell? ⟨gy, 5, none⟩ = some (.int .i64 x.f5) := (blk_cell BYY.out 5).trans rfl
        have u6 : wx.cell? ⟨gx, 6, none⟩ = some (.bool x.f6) := (blk_cell BXX.out 6).trans rfl
        have v6 : wx.cell? ⟨gy, 6, none⟩ = some (.bool x.f6) := (blk_cell BYY.out 6).trans rfl
        have u7 : wx.cell? ⟨gx, 7, none⟩ = some (.string x.f7) := (blk_cell BXX.out 7).trans rfl
        have v7 : wx.cell? ⟨gy, 7, none⟩ = some (.string x.f7) := (blk_cell BYY.out 7).trans rfl
        have u8 : wx.cell? ⟨gx, 8, none⟩ = some (.int .i64 x.f8.f0) := (blk_cell BXX.out 8).trans rfl
        have v8 : wx.cell? ⟨gy, 8, none⟩ = some (.int .i64 x.f8.f0) := (blk_cell BYY.out 8).trans rfl
        have u9 : wx.cell? ⟨gx, 9, none⟩ = some (.slice A9 x.f8.f1.length c9) := (blk_cell BXX.out 9).trans rfl
        have v9 : wx.cell? ⟨gy, 9, none⟩ = some (.slice B9 x.f8.f1.length d9) := (blk_cell BYY.out 9).trans rfl
        have q0 : (x.f0 != x.f0) = false := bne_self_eq_false _
        have s0 : (x.f0 == x.f0) = true := beq_self_eq_true _
        have q1 : (x.f1 != x.f1) = false := bne_self_eq_false _
        have s1 : (x.f1 == x.f1) = true := beq_self_eq_true _
        have q2 : (x.f2 != x.f2) = false := bne_self_eq_false _
        have s2 : (x.f2 == x.f2) = true := beq_self_eq_true _
        have q3 : (x.f3 != x.f3) = false := bne_self_eq_false _
        have s3 : (x.f3 == x.f3) = true := beq_self_eq_true _
        have q4 : (x.f4 != x.f4) = false := bne_self_eq_false _
        have s4 : (x.f4 == x.f4) = true := beq_self_eq_true _
        have q5 : (x.f5 != x.f5) = false := bne_self_eq_false _
        have s5 : (x.f5 == x.f5) = true := beq_self_eq_true _
        have q6 : (x.f6 != x.f6) = false := bne_self_eq_false _
        have s6 : (x.f6 == x.f6) = true := beq_self_eq_true _
        have s7 : (x.f7.toList == x.f7.toList) = true := beq_self_eq_true _
        have HQB := Aside0.mk QB
        have HSM := Aside0.mk (show wharfagelaw0_SameConfig.f k x.f8.f0 x.f8.f1 x.f8.f0 x.f8.f1 = some true by unfold wharfagelaw0_SameConfig.f; rw [if_pos ⟨rfl, rfl, HXK.out.1, HXK.out.2⟩])
        clear GX GY NE X0 X1 Y0 Y1 QB
        go_wp2_with (go_at_call 29; refine (wharfagelaw0_SameConfig.calls k x.f8.f0 A9 c9 x.f8.f1 x.f8.f0 B9 d9 x.f8.f1 true _ (Kd.C_below HIX.out HQB.out) HLX.out (Kd.C_below HIY.out HQB.out) HLY.out HSM.out).mono ?_; rintro e w5 ⟨rfl, hb⟩; replace HBX := Aside0.mk (below_step HBX.out hb); clear hb u0 v0 u1 v1 u2 v2 u3 v3 u4 v4 u5 v5 u6 v6 u7 v7 u8 v8 u9 v9)
        go_roundg k1
        case measure => have := HX.out; omega
        case rel =>
          have h1 := HX.out
          have h2 := HLL.out
          exact ⟨i + 1, by rw [show wrap64 ((i : Int) + 1) = ((i + 1 : Nat) : Int) by unfold wrap64; omega], ⟨by omega⟩, HBX⟩
      · have c3b := decide_eq_false c3
        go_wp2_with fail
        go_ret
        exact ⟨rfl, HBW.out⟩


end Go.Proofs.YtnojgkiaolmoeaaDoor.PSc
end
section
/- Contracts: what calls of these functions of the program do, each as a plain function; written by a program of this session. -/
namespace Go.Proofs.YtnojgkiaolmoeaaDoor.PSc
open Go.RowKit Go.Proofs.YtnojgkiaolmoeaaDoorW.PrintWords Go.Proofs.YtnojgkiaolmoeaaDoorW.PrintLast Go.Proofs.YtnojgkiaolmoeaaDoorW.PrintMore
attribute [local go_sem] max2_int min2_int max_two min_two max_three min_three max_four min_four   -- for this text's walks alone
set_option linter.unusedVariables false
set_option linter.unusedSimpArgs false

/-! ### wharfagelaw23_awake: function 17 -/
def wharfagelaw23_awake.f (k : Nat)  : Option (Bool) := (some (([(⟨0, 1, 2, 0, 0, 0, false, (⟨#[49, 58, 120]⟩ : ByteArray), (⟨0, ([] : List (S63))⟩ : S38)⟩ : S40), (⟨5, 0, 0, 0, 3, 0, true, (⟨#[]⟩ : ByteArray), (⟨0, ([] : List (S63))⟩ : S38)⟩ : S40), (⟨9, 0, 0, 0, 0, 0, false, (⟨#[]⟩ : ByteArray), (⟨9, (([(⟨2, true, 1, (([(⟨5, false⟩ : S65)] : List (S65)))⟩ : S63)] : List (S63)))⟩ : S38)⟩ : S40)] : List (S40)) : List (S40))).bind fun y240 => ((script_Show.f k y240).bind fun bt243 => ((script_Parse.f k bt243.1).bind fun bt245 => ((script_Parse.f k (⟨#[48, 32]⟩ : ByteArray)).bind fun bt249 => ((script_Show.f k (([(⟨4, 0, 0, 0, 0, 1, false, (⟨#[]⟩ : ByteArray), (⟨0, ([] : List (S63))⟩ : S38)⟩ : S40)] : List (S40)))).bind fun bt256 => (if bt243.1.toList = ([48, 32, 49, 32, 50, 32, 48, 32, 48, 32, 48, 32, 98, 51, 58, 49, 58, 120, 53, 32, 48, 32, 48, 32, 48, 32, 51, 32, 48, 32, 103, 48, 58, 57, 32, 48, 32, 48, 32, 48, 32, 48, 32, 48, 32, 98, 48, 58, 57, 32, 49, 32, 50, 32, 100, 49, 32, 49, 32, 53, 32, 117] : List UInt8) then ((wharfagelaw0_Num.f bt243.2).bind fun t258 => (if t258 = 0 then ((wharfagelaw0_SameActs.f k y240 bt245.1).bind fun t259 => (if t259 = true then ((wharfagelaw0_Num.f bt245.2).bind fun t260 => (if t260 = 0 then ((wharfagelaw0_Num.f bt249.2).bind fun t261 => (if t261 = 2300 then ((wharfagelaw0_Num.f bt256.2).bind fun t262 => (if t262 = 2300 then (if 0 < (y240.length : Int) then ((script_May.f k ((rd_T40 y240 0).f0) ((rd_T40 y240 0).f1) ((rd_T40 y240 0).f2) ((rd_T40 y240 0).f3) ((rd_T40 y240 0).f4) ((rd_T40 y240 0).f5) ((rd_T40 y240 0).f6) ((rd_T40 y240 0).f7) ((rd_T40 y240 0).f8.f0) ((rd_T40 y240 0).f8.f1)).bind fun t264 => (some t264)) else (none)) else (none))) else (none))) else (none))) else (none))) else (none))) else (none))))))
theorem wharfagelaw23_awake.mono : ∀ k, LeO (wharfagelaw23_awake.f k ) (wharfagelaw23_awake.f (k + 1) ) := by
 intro  k
 unfold wharfagelaw23_awake.f
 repeat' first
   | (with_reducible exact script_May.mono _ _ _ _ _ _ _ _ _ _ _)
   | (with_reducible exact script_Parse.mono _ _)
   | (with_reducible exact script_Show.mono _ _)
   | (with_reducible exact wharfagelaw0_SameActs.mono _ _ _)
   | (with_reducible exact LeO.refl _)
   | (with_reducible exact LeO.none _)
   | (with_reducible refine LeO.ite ?_ ?_)
   | (with_reducible refine LeO.bind ?_ (fun _ => ?_))
   | exact script_May.mono _ _ _ _ _ _ _ _ _ _ _
   | exact script_Parse.mono _ _
   | exact script_Show.mono _ _
   | exact wharfagelaw0_SameActs.mono _ _ _
   | exact LeO.none _
   | refine LeO.ite ?_ ?_
   | refine LeO.bind ?_ (fun _ => ?_)
set_option maxHeartbeats 8000000 in
set_option maxRecDepth 100000 in
theorem wharfagelaw23_awake.calls (k : Nat)  (r : Bool) (w : World) (ht : Take.Laid w) (h : wharfagelaw23_awake.f k  = some r) :
  Calls Tryd.prog 17 #[] w fun e w' => e = .returned (.bool r) ∧ Below w.heap.size w w' := by
 have HT := Aside0.mk (show ∀ w_ : World, Below w.heap.size w w_ → Take.Laid w_ from fun w_ hb_ => ht.below hb_)
 clear ht
 have hu40 := Tryd.underlying40
 have hu65 := Tryd.underlying65
 have hu63 := Tryd.underlying63
 have hu38 := Tryd.underlying38
 have HB := Aside0.mk (Below.refl w.heap.size w)
 have H : ((some (([(⟨0, 1, 2, 0, 0, 0, false, (⟨#[49, 58, 120]⟩ : ByteArray), (⟨0, ([] : List (S63))⟩ : S38)⟩ : S40), (⟨5, 0, 0, 0, 3, 0, true, (⟨#[]⟩ : ByteArray), (⟨0, ([] : List (S63))⟩ : S38)⟩ : S40), (⟨9, 0, 0, 0, 0, 0, false, (⟨#[]⟩ : ByteArray), (⟨9, (([(⟨2, true, 1, (([(⟨5, false⟩ : S65)] : List (S65)))⟩ : S63)] : List (S63)))⟩ : S38)⟩ : S40)] : List (S40)) : List (S40))).bind fun y240 => ((script_Show.f k y240).bind fun bt243 => ((script_Parse.f k bt243.1).bind fun bt245 => ((script_Parse.f k (⟨#[48, 32]⟩ : ByteArray)).bind fun bt249 => ((script_Show.f k (([(⟨4, 0, 0, 0, 0, 1, false, (⟨#[]⟩ : ByteArray), (⟨0, ([] : List (S63))⟩ : S38)⟩ : S40)] : List (S40)))).bind fun bt256 => (if bt243.1.toList = ([48, 32, 49, 32, 50, 32, 48, 32, 48, 32, 48, 32, 98, 51, 58, 49, 58, 120, 53, 32, 48, 32, 48, 32, 48, 32, 51, 32, 48, 32, 103, 48, 58, 57, 32, 48, 32, 48, 32, 48, 32, 48, 32, 48, 32, 98, 48, 58, 57, 32, 49, 32, 50, 32, 100, 49, 32, 49, 32, 53, 32, 117] : List UInt8) then ((wharfagelaw0_Num.f bt243.2).bind fun t258 => (if t258 = 0 then ((wharfagelaw0_SameActs.f k y240 bt245.1).bind fun t259 => (if t259 = true then ((wharfagelaw0_Num.f bt245.2).bind fun t260 => (if t260 = 0 then ((wharfagelaw0_Num.f bt249.2).bind fun t261 => (if t261 = 2300 then ((wharfagelaw0_Num.f bt256.2).bind fun t262 => (if t262 = 2300 then (if 0 < (y240.length : Int) then ((script_May.f k ((rd_T40 y240 0).f0) ((rd_T40 y240 0).f1) ((rd_T40 y240 0).f2) ((rd_T40 y240 0).f3) ((rd_T40 y240 0).f4) ((rd_T40 y240 0).f5) ((rd_T40 y240 0).f6) ((rd_T40 y240 0).f7) ((rd_T40 y240 0).f8.f0) ((rd_T40 y240 0).f8.f1)).bind fun t264 => (some t264)) else (none)) else (none))) else (none))) else (none))) else (none))) else (none))) else (none))))))) = some r := h
 clear h
 obtain ⟨y234, hy234⟩ : ∃ y_ : List (S65), y_ = (([(⟨5, false⟩ : S65)] : List (S65))) := ⟨_, rfl⟩
 replace H : ((some (([(⟨0, 1, 2, 0, 0, 0, false, (⟨#[49, 58, 120]⟩ : ByteArray), (⟨0, ([] : List (S63))⟩ : S38)⟩ : S40), (⟨5, 0, 0, 0, 3, 0, true, (⟨#[]⟩ : ByteArray), (⟨0, ([] : List (S63))⟩ : S38)⟩ : S40), (⟨9, 0, 0, 0, 0, 0, false, (⟨#[]⟩ : ByteArray), (⟨9, (([(⟨2, true, 1, y234⟩ : S63)] : List (S63)))⟩ : S38)⟩ : S40)] : List (S40)) : List (S40))).bind fun y240 => ((script_Show.f k y240).bind fun bt243 => ((script_Parse.f k bt243.1).bind fun bt245 => ((script_Parse.f k (⟨#[48, 32]⟩ : ByteArray)).bind fun bt249 => ((script_Show.f k (([(⟨4, 0, 0, 0, 0, 1, false, (⟨#[]⟩ : ByteArray), (⟨0, ([] : List (S63))⟩ : S38)⟩ : S40)] : List (S40)))).bind fun bt256 => (if bt243.1.toList = ([48, 32, 49, 32, 50, 32, 48, 32, 48, 32, 48, 32, 98, 51, 58, 49, 58, 120, 53, 32, 48, 32, 48, 32, 48, 32, 51, 32, 48, 32, 103, 48, 58, 57, 32, 48, 32, 48, 32, 48, 32, 48, 32, 48, 32, 98, 48, 58, 57, 32, 49, 32, 50, 32, 100, 49, 32, 49, 32, 53, 32, 117] : List UInt8) then ((wharfagelaw0_Num.f bt243.2).bind fun t258 => (if t258 = 0 then ((wharfagelaw0_SameActs.f k y240 bt245.1).bind fun t259 => (if t259 = true then ((wharfagelaw0_Num.f bt245.2).bind fun t260 => (if t260 = 0 then ((wharfagelaw0_Num.f bt249.2).bind fun t261 => (if t261 = 2300 then ((wharfagelaw0_Num.f bt256.2).bind fun t262 => (if t262 = 2300 then (if 0 < (y240.length : Int) then ((script_May.f k ((rd_T40 y240 0).f0) ((rd_T40 y240 0).f1) ((rd_T40 y240 0).f2) ((rd_T40 y240 0).f3) ((rd_T40 y240 0).f4) ((rd_T40 y240 0).f5) ((rd_T40 y240 0).f6) ((rd_T40 y240 0).f7) ((rd_T40 y240 0).f8.f0) ((rd_T40 y240 0).f8.f1)).bind fun t264 => (some t264)) else (none)) else (none))) else (none))) else (none))) else (none))) else (none))) else (none))))))) = some r := by first | (rw [hy234]; with_reducible exact H) | (have H2_ := (Option.bind_some _ _).symm.trans H; rw [hy234]; with_reducible exact H2_) | (have H2_ := (Option.bind_some _ _).symm.trans H; with_reducible exact H2_) | with_reducible exact H | (rw [hy234]; exact H) | exact H
 have Ny234 := Aside0.mk hy234
 clear hy234
 obtain ⟨y237, hy237⟩ : ∃ y_ : List (S63), y_ = (([(⟨2, true, 1, y234⟩ : S63)] : List (S63))) := ⟨_, rfl⟩
 replace H : ((some (([(⟨0, 1, 2, 0, 0, 0, false, (⟨#[49, 58, 120]⟩ : ByteArray), (⟨0, ([] : List (S63))⟩ : S38)⟩ : S40), (⟨5, 0, 0, 0, 3, 0, true, (⟨#[]⟩ : ByteArray), (⟨0, ([] : List (S63))⟩ : S38)⟩ : S40), (⟨9, 0, 0, 0, 0, 0, false, (⟨#[]⟩ : ByteArray), (⟨9, y237⟩ : S38)⟩ : S40)] : List (S40)) : List (S40))).bind fun y240 => ((script_Show.f k y240).bind fun bt243 => ((script_Parse.f k bt243.1).bind fun bt245 => ((script_Parse.f k (⟨#[48, 32]⟩ : ByteArray)).bind fun bt249 => ((script_Show.f k (([(⟨4, 0, 0, 0, 0, 1, false, (⟨#[]⟩ : ByteArray), (⟨0, ([] : List (S63))⟩ : S38)⟩ : S40)] : List (S40)))).bind fun bt256 => (if bt243.1.toList = ([48, 32, 49, 32, 50, 32, 48, 32, 48, 32, 48, 32, 98, 51, 58, 49, 58, 120, 53, 32, 48, 32, 48, 32, 48, 32, 51, 32, 48, 32, 103, 48, 58, 57, 32, 48, 32, 48, 32, 48, 32, 48, 32, 48, 32, 98, 48, 58, 57, 32, 49, 32, 50, 32, 100, 49, 32, 49, 32, 53, 32, 117] : List UInt8) then ((wharfagelaw0_Num.f bt243.2).bind fun t258 => (if t258 = 0 then ((wharfagelaw0_SameActs.f k y240 bt245.1).bind fun t259 => (if t259 = true then ((wharfagelaw0_Num.f bt245.2).bind fun t260 => (if t260 = 0 then ((wharfagelaw0_Num.f bt249.2).bind fun t261 => (if t261 = 2300 then ((wharfagelaw0_Num.f bt256.2).bind fun t262 => (if t262 = 2300 then (if 0 < (y240.length : Int) then ((script_May.f k ((rd_T40 y240 0).f0) ((rd_T40 y240 0).f1) ((rd_T40 y240 0).f2) ((rd_T40 y240 0).f3) ((rd_T40 y240 0).f4) ((rd_T40 y240 0).f5) ((rd_T40 y240 0).f6) ((rd_T40 y240 0).f7) ((rd_T40 y240 0).f8.f0) ((rd_T40 y240 0).f8.f1)).bind fun t264 => (some t264)) else (none)) else (none))) else (none))) else (none))) else (none))) else (none))) else (none))))))) = some r := by first | (rw [hy237]; with_reducible exact H) | (have H2_ := (Option.bind_some _ _).symm.trans H; rw [hy237]; with_reducible exact H2_) | (have H2_ := (Option.bind_some _ _).symm.trans H; with_reducible exact H2_) | with_reducible exact H | (rw [hy237]; exact H) | exact H
 have Ny237 := Aside0.mk hy237
 clear hy237
 obtain ⟨y240, hy240⟩ : ∃ y_ : List (S40), y_ = (([(⟨0, 1, 2, 0, 0, 0, false, (⟨#[49, 58, 120]⟩ : ByteArray), (⟨0, ([] : List (S63))⟩ : S38)⟩ : S40), (⟨5, 0, 0, 0, 3, 0, true, (⟨#[]⟩ : ByteArray), (⟨0, ([] : List (S63))⟩ : S38)⟩ : S40), (⟨9, 0, 0, 0, 0, 0, false, (⟨#[]⟩ : ByteArray), (⟨9, y237⟩ : S38)⟩ : S40)] : List (S40))) := ⟨_, rfl⟩
 replace H : ((script_Show.f k y240).bind fun bt243 => ((script_Parse.f k bt243.1).bind fun bt245 => ((script_Parse.f k (⟨#[48, 32]⟩ : ByteArray)).bind fun bt249 => ((script_Show.f k (([(⟨4, 0, 0, 0, 0, 1, false, (⟨#[]⟩ : ByteArray), (⟨0, ([] : List (S63))⟩ : S38)⟩ : S40)] : List (S40)))).bind fun bt256 => (if bt243.1.toList = ([48, 32, 49, 32, 50, 32, 48, 32, 48, 32, 48, 32, 98, 51, 58, 49, 58, 120, 53, 32, 48, 32, 48, 32, 48, 32, 51, 32, 48, 32, 103, 48, 58, 57, 32, 48, 32, 48, 32, 48, 32, 48, 32, 48, 32, 98, 48, 58, 57, 32, 49, 32, 50, 32, 100, 49, 32, 49, 32, 53, 32, 117] : List UInt8) then ((wharfagelaw0_Num.f bt243.2).bind fun t258 => (if t258 = 0 then ((wharfagelaw0_SameActs.f k y240 bt245.1).bind fun t259 => (if t259 = true then ((wharfagelaw0_Num.f bt245.2).bind fun t260 => (if t260 = 0 then ((wharfagelaw0_Num.f bt249.2).bind fun t261 => (if t261 = 2300 then ((wharfagelaw0_Num.f bt256.2).bind fun t262 => (if t262 = 2300 then (if 0 < (y240.length : Int) then ((script_May.f k ((rd_T40 y240 0).f0) ((rd_T40 y240 0).f1) ((rd_T40 y240 0).f2) ((rd_T40 y240 0).f3) ((rd_T40 y240 0).f4) ((rd_T40 y240 0).f5) ((rd_T40 y240 0).f6) ((rd_T40 y240 0).f7) ((rd_T40 y240 0).f8.f0) ((rd_T40 y240 0).f8.f1)).bind fun t264 => (some t264)) else (none)) else (none))) else (none))) else (none))) else (none))) else (none))) else (none)))))) = some r := by first | (rw [hy240]; with_reducible exact H) | (have H2_ := (Option.bind_some _ _).symm.trans H; rw [hy240]; with_reducible exact H2_) | (have H2_ := (Option.bind_some _ _).symm.trans H; with_reducible exact H2_) | with_reducible exact H | (rw [hy240]; exact H) | exact H
 have Ny240 := Aside0.mk hy240
 clear hy240
 replace H := Option.bind_eq_some_iff.mp H
 obtain ⟨⟨t243, t244⟩, A10, H⟩ := H
 replace H : ((script_Parse.f k t243).bind fun bt245 => ((script_Parse.f k (⟨#[48, 32]⟩ : ByteArray)).bind fun bt249 => ((script_Show.f k (([(⟨4, 0, 0, 0, 0, 1, false, (⟨#[]⟩ : ByteArray), (⟨0, ([] : List (S63))⟩ : S38)⟩ : S40)] : List (S40)))).bind fun bt256 => (if t243.toList = ([48, 32, 49, 32, 50, 32, 48, 32, 48, 32, 48, 32, 98, 51, 58, 49, 58, 120, 53, 32, 48, 32, 48, 32, 48, 32, 51, 32, 48, 32, 103, 48, 58, 57, 32, 48, 32, 48, 32, 48, 32, 48, 32, 48, 32, 98, 48, 58, 57, 32, 49, 32, 50, 32, 100, 49, 32, 49, 32, 53, 32, 117] : List UInt8) then ((wharfagelaw0_Num.f t244).bind fun t258 => (if t258 = 0 then ((wharfagelaw0_SameActs.f k y240 bt245.1).bind fun t259 => (if t259 = true then ((wharfagelaw0_Num.f bt245.2).bind fun t260 => (if t260 = 0 then ((wharfagelaw0_Num.f bt249.2).bind fun t261 => (if t261 = 2300 then ((wharfagelaw0_Num.f bt256.2).bind fun t262 => (if t262 = 2300 then (if 0 < (y240.length : Int) then ((script_May.f k ((rd_T40 y240 0).f0) ((rd_T40 y240 0).f1) ((rd_T40 y240 0).f2) ((rd_T40 y240 0).f3) ((rd_T40 y240 0).f4) ((rd_T40 y240 0).f5) ((rd_T40 y240 0).f6) ((rd_T40 y240 0).f7) ((rd_T40 y240 0).f8.f0) ((rd_T40 y240 0).f8.f1)).bind fun t264 => (some t264)) else (none)) else (none))) else (none))) else (none))) else (none))) else (none))) else (none))))) = some r := H
 have A1 := Aside0.mk A10
 clear A10
 replace H := Option.bind_eq_some_iff.mp H
 obtain ⟨⟨t245, t246⟩, A20, H⟩ := H
 replace H : ((script_Parse.f k (⟨#[48, 32]⟩ : ByteArray)).bind fun bt249 => ((script_Show.f k (([(⟨4, 0, 0, 0, 0, 1, false, (⟨#[]⟩ : ByteArray), (⟨0, ([] : List (S63))⟩ : S38)⟩ : S40)] : List (S40)))).bind fun bt256 => (if t243.toList = ([48, 32, 49, 32, 50, 32, 48, 32, 48, 32, 48, 32, 98, 51, 58, 49, 58, 120, 53, 32, 48, 32, 48, 32, 48, 32, 51, 32, 48, 32, 103, 48, 58, 57, 32, 48, 32, 48, 32, 48, 32, 48, 32, 48, 32, 98, 48, 58, 57, 32, 49, 32, 50, 32, 100, 49, 32, 49, 32, 53, 32, 117] : List UInt8) then ((wharfagelaw0_Num.f t244).bind fun t258 => (if t258 = 0 then ((wharfagelaw0_SameActs.f k y240 t245).bind fun t259 => (if t259 = true then ((wharfagelaw0_Num.f t246).bind fun t260 => (if t260 = 0 then ((wharfagelaw0_Num.f bt249.2).bind fun t261 => (if t261 = 2300 then ((wharfagelaw0_Num.f bt256.2).bind fun t262 => (if t262 = 2300 then (if 0 < (y240.length : Int) then ((script_May.f k ((rd_T40 y240 0).f0) ((rd_T40 y240 0).f1) ((rd_T40 y240 0).f2) ((rd_T40 y240 0).f3) ((rd_T40 y240 0).f4) ((rd_T40 y240 0).f5) ((rd_T40 y240 0).f6) ((rd_T40 y240 0).f7) ((rd_T40 y240 0).f8.f0) ((rd_T40 y240 0).f8.f1)).bind fun t264 => (some t264)) else (none)) else (none))) else (none))) else (none))) else (none))) else (none))) else (none)))) = some r := H
 have A2 := Aside0.mk A20
 clear A20
 replace H := Option.bind_eq_some_iff.mp H
 obtain ⟨⟨t249, t250⟩, A30, H⟩ := H
 replace H : ((script_Show.f k (([(⟨4, 0, 0, 0, 0, 1, false, (⟨#[]⟩ : ByteArray), (⟨0, ([] : List (S63))⟩ : S38)⟩ : S40)] : List (S40)))).bind fun bt256 => (if t243.toList = ([48, 32, 49, 32, 50, 32, 48, 32, 48, 32, 48, 32, 98, 51, 58, 49, 58, 120, 53, 32, 48, 32, 48, 32, 48, 32, 51, 32, 48, 32, 103, 48, 58, 57, 32, 48, 32, 48, 32, 48, 32, 48, 32, 48, 32, 98, 48, 58, 57, 32, 49, 32, 50, 32, 100, 49, 32, 49, 32, 53, 32, 117] : List UInt8) then ((wharfagelaw0_Num.f t244).bind fun t258 => (if t258 = 0 then ((wharfagelaw0_SameActs.f k y240 t245).bind fun t259 => (if t259 = true then ((wharfagelaw0_Num.f t246).bind fun t260 => (if t260 = 0 then ((wharfagelaw0_Num.f t250).bind fun t261 => (if t261 = 2300 then ((wharfagelaw0_Num.f bt256.2).bind fun t262 => (if t262 = 2300 then (if 0 < (y240.length : Int) then ((script_May.f k ((rd_T40 y240 0).f0) ((rd_T40 y240 0).f1) ((rd_T40 y240 0).f2) ((rd_T40 y240 0).f3) ((rd_T40 y240 0).f4) ((rd_T40 y240 0).f5) ((rd_T40 y240 0).f6) ((rd_T40 y240 0).f7) ((rd_T40 y240 0).f8.f0) ((rd_T40 y240 0).f8.f1)).bind fun t264 => (some t264)) else (none)) else (none))) else (none))) else (none))) else (none))) else (none))) else (none))) = some r := H
 have A3 := Aside0.mk A30
 clear A30
 obtain ⟨y253, hy253⟩ : ∃ y_ : List (S40), y_ = (([(⟨4, 0, 0, 0, 0, 1, false, (⟨#[]⟩ : ByteArray), (⟨0, ([] : List (S63))⟩ : S38)⟩ : S40)] : List (S40))) := ⟨_, rfl⟩
 replace H : ((script_Show.f k y253).bind fun bt256 => (if t243.toList = ([48, 32, 49, 32, 50, 32, 48, 32, 48, 32, 48, 32, 98, 51, 58, 49, 58, 120, 53, 32, 48, 32, 48, 32, 48, 32, 51, 32, 48, 32, 103, 48, 58, 57, 32, 48, 32, 48, 32, 48, 32, 48, 32, 48, 32, 98, 48, 58, 57, 32, 49, 32, 50, 32, 100, 49, 32, 49, 32, 53, 32, 117] : List UInt8) then ((wharfagelaw0_Num.f t244).bind fun t258 => (if t258 = 0 then ((wharfagelaw0_SameActs.f k y240 t245).bind fun t259 => (if t259 = true then ((wharfagelaw0_Num.f t246).bind fun t260 => (if t260 = 0 then ((wharfagelaw0_Num.f t250).bind fun t261 => (if t261 = 2300 then ((wharfagelaw0_Num.f bt256.2).bind fun t262 => (if t262 = 2300 then (if 0 < (y240.length : Int) then ((script_May.f k ((rd_T40 y240 0).f0) ((rd_T40 y240 0).f1) ((rd_T40 y240 0).f2) ((rd_T40 y240 0).f3) ((rd_T40 y240 0).f4) ((rd_T40 y240 0).f5) ((rd_T40 y240 0).f6) ((rd_T40 y240 0).f7) ((rd_T40 y240 0).f8.f0) ((rd_T40 y240 0).f8.f1)).bind fun t264 => (some t264)) else (none)) else (none))) else (none))) else (none))) else (none))) else (none))) else (none))) = some r := by first | (rw [hy253]; with_reducible exact H) | (have H2_ := (Option.bind_some _ _).symm.trans H; rw [hy253]; with_reducible exact H2_) | (have H2_ := (Option.bind_some _ _).symm.trans H; with_reducible exact H2_) | with_reducible exact H | (rw [hy253]; exact H) | exact H
 have Ny253 := Aside0.mk hy253
 clear hy253
 replace H := Option.bind_eq_some_iff.mp H
 obtain ⟨⟨t256, t257⟩, A40, H⟩ := H
 replace H : (if t243.toList = ([48, 32, 49, 32, 50, 32, 48, 32, 48, 32, 48, 32, 98, 51, 58, 49, 58, 120, 53, 32, 48, 32, 48, 32, 48, 32, 51, 32, 48, 32, 103, 48, 58, 57, 32, 48, 32, 48, 32, 48, 32, 48, 32, 48, 32, 98, 48, 58, 57, 32, 49, 32, 50, 32, 100, 49, 32, 49, 32, 53, 32, 117] : List UInt8) then ((wharfagelaw0_Num.f t244).bind fun t258 => (if t258 = 0 then ((wharfagelaw0_SameActs.f k y240 t245).bind fun t259 => (if t259 = true then ((wharfagelaw0_Num.f t246).bind fun t260 => (if t260 = 0 then ((wharfagelaw0_Num.f t250).bind fun t261 => (if t261 = 2300 then ((wharfagelaw0_Num.f t257).bind fun t262 => (if t262 = 2300 then (if 0 < (y240.length : Int) then ((script_May.f k ((rd_T40 y240 0).f0) ((rd_T40 y240 0).f1) ((rd_T40 y240 0).f2) ((rd_T40 y240 0).f3) ((rd_T40 y240 0).f4) ((rd_T40 y240 0).f5) ((rd_T40 y240 0).f6) ((rd_T40 y240 0).f7) ((rd_T40 y240 0).f8.f0) ((rd_T40 y240 0).f8.f1)).bind fun t264 => (some t264)) else (none)) else (none))) else (none))) else (none))) else (none))) else (none))) else (none)) = some r := H
 have A4 := Aside0.mk A40
 clear A40
 by_cases c5 : t243.toList = ([48, 32, 49, 32, 50, 32, 48, 32, 48, 32, 48, 32, 98, 51, 58, 49, 58, 120, 53, 32, 48, 32, 48, 32, 48, 32, 51, 32, 48, 32, 103, 48, 58, 57, 32, 48, 32, 48, 32, 48, 32, 48, 32, 48, 32, 98, 48, 58, 57, 32, 49, 32, 50, 32, 100, 49, 32, 49, 32, 53, 32, 117] : List UInt8)
 ·rw [if_pos c5] at H
  have c5b0 : (t243.toList == ([48, 32, 49, 32, 50, 32, 48, 32, 48, 32, 48, 32, 98, 51, 58, 49, 58, 120, 53, 32, 48, 32, 48, 32, 48, 32, 51, 32, 48, 32, 103, 48, 58, 57, 32, 48, 32, 48, 32, 48, 32, 48, 32, 48, 32, 98, 48, 58, 57, 32, 49, 32, 50, 32, 100, 49, 32, 49, 32, 53, 32, 117] : List UInt8)) = true := beq_iff_eq.mpr c5
  have c5b1 : (t243.toList != ([48, 32, 49, 32, 50, 32, 48, 32, 48, 32, 48, 32, 98, 51, 58, 49, 58, 120, 53, 32, 48, 32, 48, 32, 48, 32, 51, 32, 48, 32, 103, 48, 58, 57, 32, 48, 32, 48, 32, 48, 32, 48, 32, 48, 32, 98, 48, 58, 57, 32, 49, 32, 50, 32, 100, 49, 32, 49, 32, 53, 32, 117] : List UInt8)) = false := bne_eq_false_iff_eq.mpr c5
  clear c5
  replace H := Option.bind_eq_some_iff.mp H
  obtain ⟨t258, A60, H⟩ := H
  replace H : (if t258 = 0 then ((wharfagelaw0_SameActs.f k y240 t245).bind fun t259 => (if t259 = true then ((wharfagelaw0_Num.f t246).bind fun t260 => (if t260 = 0 then ((wharfagelaw0_Num.f t250).bind fun t261 => (if t261 = 2300 then ((wharfagelaw0_Num.f t257).bind fun t262 => (if t262 = 2300 then (if 0 < (y240.length : Int) then ((script_May.f k ((rd_T40 y240 0).f0) ((rd_T40 y240 0).f1) ((rd_T40 y240 0).f2) ((rd_T40 y240 0).f3) ((rd_T40 y240 0).f4) ((rd_T40 y240 0).f5) ((rd_T40 y240 0).f6) ((rd_T40 y240 0).f7) ((rd_T40 y240 0).f8.f0) ((rd_T40 y240 0).f8.f1)).bind fun t264 => (some t264)) else (none)) else (none))) else (none))) else (none))) else (none))) else (none)) = some r := H
  have A6 := Aside0.mk A60
  clear A60
  by_cases c7 : t258 = 0
  ·rw [if_pos c7] at H
   have c7b0 : (t258 == 0) = true := beq_iff_eq.mpr c7
   have c7b1 : (t258 != 0) = false := bne_eq_false_iff_eq.mpr c7
   clear c7
   replace H := Option.bind_eq_some_iff.mp H
   obtain ⟨t259, A80, H⟩ := H
   replace H : (if t259 = true then ((wharfagelaw0_Num.f t246).bind fun t260 => (if t260 = 0 then ((wharfagelaw0_Num.f t250).bind fun t261 => (if t261 = 2300 then ((wharfagelaw0_Num.f t257).bind fun t262 => (if t262 = 2300 then (if 0 < (y240.length : Int) then ((script_May.f k ((rd_T40 y240 0).f0) ((rd_T40 y240 0).f1) ((rd_T40 y240 0).f2) ((rd_T40 y240 0).f3) ((rd_T40 y240 0).f4) ((rd_T40 y240 0).f5) ((rd_T40 y240 0).f6) ((rd_T40 y240 0).f7) ((rd_T40 y240 0).f8.f0) ((rd_T40 y240 0).f8.f1)).bind fun t264 => (some t264)) else (none)) else (none))) else (none))) else (none))) else (none)) = some r := H
   have A8 := Aside0.mk A80
   clear A80
   by_cases c9 : t259 = true
   ·subst c9
    have H1 : ((wharfagelaw0_Num.f t246).bind fun t260 => (if t260 = 0 then ((wharfagelaw0_Num.f t250).bind fun t261 => (if t261 = 2300 then ((wharfagelaw0_Num.f t257).bind fun t262 => (if t262 = 2300 then (if 0 < (y240.length : Int) then ((script_May.f k ((rd_T40 y240 0).f0) ((rd_T40 y240 0).f1) ((rd_T40 y240 0).f2) ((rd_T40 y240 0).f3) ((rd_T40 y240 0).f4) ((rd_T40 y240 0).f5) ((rd_T40 y240 0).f6) ((rd_T40 y240 0).f7) ((rd_T40 y240 0).f8.f0) ((rd_T40 y240 0).f8.f1)).bind fun t264 => (some t264)) else (none)) else (none))) else (none))) else (none))) = some r := by rw [if_pos rfl] at H; exact H
    clear H
    have H := H1
    clear H1
    replace H := Option.bind_eq_some_iff.mp H
    obtain ⟨t260, A100, H⟩ := H
    replace H : (if t260 = 0 then ((wharfagelaw0_Num.f t250).bind fun t261 => (if t261 = 2300 then ((wharfagelaw0_Num.f t257).bind fun t262 => (if t262 = 2300 then (if 0 < (y240.length : Int) then ((script_May.f k ((rd_T40 y240 0).f0) ((rd_T40 y240 0).f1) ((rd_T40 y240 0).f2) ((rd_T40 y240 0).f3) ((rd_T40 y240 0).f4) ((rd_T40 y240 0).f5) ((rd_T40 y240 0).f6) ((rd_T40 y240 0).f7) ((rd_T40 y240 0).f8.f0) ((rd_T40 y240 0).f8.f1)).bind fun t264 => (some t264)) else (none)) else (none))) else (none))) else (none)) = some r := H
    have A10 := Aside0.mk A100
    clear A100
    by_cases c11 : t260 = 0
    ·rw [if_pos c11] at H
     have c11b0 : (t260 == 0) = true := beq_iff_eq.mpr c11
     have c11b1 : (t260 != 0) = false := bne_eq_false_iff_eq.mpr c11
     clear c11
     replace H := Option.bind_eq_some_iff.mp H
     obtain ⟨t261, A120, H⟩ := H
     replace H : (if t261 = 2300 then ((wharfagelaw0_Num.f t257).bind fun t262 => (if t262 = 2300 then (if 0 < (y240.length : Int) then ((script_May.f k ((rd_T40 y240 0).f0) ((rd_T40 y240 0).f1) ((rd_T40 y240 0).f2) ((rd_T40 y240 0).f3) ((rd_T40 y240 0).f4) ((rd_T40 y240 0).f5) ((rd_T40 y240 0).f6) ((rd_T40 y240 0).f7) ((rd_T40 y240 0).f8.f0) ((rd_T40 y240 0).f8.f1)).bind fun t264 => (some t264)) else (none)) else (none))) else (none)) = some r := H
     have A12 := Aside0.mk A120
     clear A120
     by_cases c13 : t261 = 2300
     ·rw [if_pos c13] at H
      have c13b0 : (t261 == 2300) = true := beq_iff_eq.mpr c13
      have c13b1 : (t261 != 2300) = false := bne_eq_false_iff_eq.mpr c13
      clear c13
      replace H := Option.bind_eq_some_iff.mp H
      obtain ⟨t262, A140, H⟩ := H
      replace H : (if t262 = 2300 then (if 0 < (y240.length : Int) then ((script_May.f k ((rd_T40 y240 0).f0) ((rd_T40 y240 0).f1) ((rd_T40 y240 0).f2) ((rd_T40 y240 0).f3) ((rd_T40 y240 0).f4) ((rd_T40 y240 0).f5) ((rd_T40 y240 0).f6) ((rd_T40 y240 0).f7) ((rd_T40 y240 0).f8.f0) ((rd_T40 y240 0).f8.f1)).bind fun t264 => (some t264)) else (none)) else (none)) = some r := H
      have A14 := Aside0.mk A140
      clear A140
      by_cases c15 : t262 = 2300
      ·rw [if_pos c15] at H
       have c15b0 : (t262 == 2300) = true := beq_iff_eq.mpr c15
       have c15b1 : (t262 != 2300) = false := bne_eq_false_iff_eq.mpr c15
       clear c15
       by_cases c16 : 0 < (y240.length : Int)
       ·rw [if_pos c16] at H
        have c16b0 : decide (0 < (y240.length : Int)) = true := decide_eq_true c16
        have c16b1 : decide (0 < y240.length) = true := decide_eq_true (by omega)
        clear c16
        replace H := Option.bind_eq_some_iff.mp H
        obtain ⟨t264, A170, H⟩ := H
        replace H : (some t264) = some r := H
        have A17 := Aside0.mk A170
        clear A170
        obtain rfl := Option.some.inj H
        go_enter Tryd.func17, Tryd.ntmps17
        go_wp2_with (first | ((with_reducible refine gate_dst (N := 13) rfl ?_); refine Kd.R_lit k65 _ 65 ?hg (N := 13) ?hd (xs := ([(⟨5, false⟩ : S65)] : List (S65))) (inner := [.int .i64 5, .bool false]) (ok := fun _ => True) (okp := fun _ => True) ?hr ?hp (fun _ hk => hk) trivial (Below.refl _ _) (Nat.le_refl _) (by simp) ?_; (case hd => rfl); (case hg => rfl); (case hr => first | (go_simp; done) | (go_simp; rfl)); (case hp => exact (Reps.c2 (show Kd.M k65 _ _ _ (⟨5, false⟩ : S65) [.int .i64 5, .bool false] from (k65_mkM _ _ _ (⟨5, false⟩ : S65) )) (Reps.none _ _))); intro v235 w18 ho19 hb hg_ hnew_; clear hg_ hnew_; (first | rw [← Ny234.out] at ho19 | (simp only [Int.reduceToNat] at ho19; rw [← Ny234.out] at ho19)); have n0_ := Aside0.mk (Kd.R_lower ho19 (below_size (by repeat (first | (with_reducible first | exact HB.out | apply below_alloc | apply pw_below_drewN | apply below_drew1) | exact HB.out)))); have n1_ := Aside0.mk (below_step (by repeat (first | (with_reducible first | exact HB.out | apply below_alloc | apply pw_below_drewN | apply below_drew1) | exact HB.out)) hb); clear HB; have O4 := n0_; have HB := n1_; clear n0_ n1_; clear hb ho19; obtain ⟨Ao20, co20, eo20⟩ := Kd.R_slice O4.out; subst eo20) | ((with_reducible refine gate_dst (N := 15) rfl ?_); refine Kd.N_lit k63 _ 63 ?hg (N' := 15) ?hd (xs := ([(⟨2, true, 1, y234⟩ : S63)] : List (S63))) (inner := [.int .i64 2, .bool true, .int .i64 1, .slice Ao20 y234.length co20]) (ok := (fun _ => True)) (okp := (fun _ => True)) ?hr ?hp (fun _ hk => hk) ((show ∀ k_, w18.heap.size ≤ k_ → (fun _ => True) k_ from fun k_ hk => trivial) _ (Nat.le_refl _)) (Below.refl _ _) (Nat.le_refl _) (by simp) ?_; (case hd => rfl); (case hg => rfl); (case hr => first | (go_simp; done) | (go_simp; rfl)); (case hp => exact (Reps.c4 (show Kd.FK k63 _ _ (⟨2, true, 1, y234⟩ : S63) [.int .i64 2, .bool true, .int .i64 1, .slice Ao20 y234.length co20] from (k63_mkF _ _ (⟨2, true, 1, y234⟩ : S63) (Kd.R_reads' (Kd.R_mono (ok' := (fun _ => True)) (O4.out) (fun k_ hk => trivial))).2.1 (Kd.R_F (Kd.R_mono (ok' := (fun _ => True)) (O4.out) (fun k_ hk => trivial))))) (Reps.none _ _))); intro v238 w21 ho22 hb hg_ hnew_; clear hg_ hnew_; (first | rw [← Ny237.out] at ho22 | (simp only [Int.reduceToNat] at ho22; rw [← Ny237.out] at ho22)); have n0_ := Aside0.mk (Kd.N_lower ho22 (below_size (by repeat (first | (with_reducible first | exact HB.out | apply below_alloc | apply pw_below_drewN | apply below_drew1) | exact HB.out)))); have n1_ := Aside0.mk (below_step (by repeat (first | (with_reducible first | exact HB.out | apply below_alloc | apply pw_below_drewN | apply below_drew1) | exact HB.out)) hb); clear HB; clear O4; have O5 := n0_; have HB := n1_; clear n0_ n1_; clear hb ho22; obtain ⟨Ao23, co23, eo23⟩ := Kd.N_slice O5.out; subst eo23) | ((with_reducible refine gate_dst (N := 18) rfl ?_); refine Kd.N_lit k40 _ 40 ?hg (N' := 18) ?hd (xs := ([(⟨0, 1, 2, 0, 0, 0, false, (⟨#[49, 58, 120]⟩ : ByteArray), (⟨0, ([] : List (S63))⟩ : S38)⟩ : S40), (⟨5, 0, 0, 0, 3, 0, true, (⟨#[]⟩ : ByteArray), (⟨0, ([] : List (S63))⟩ : S38)⟩ : S40), (⟨9, 0, 0, 0, 0, 0, false, (⟨#[]⟩ : ByteArray), (⟨9, y237⟩ : S38)⟩ : S40)] : List (S40))) (inner := [.int .i64 0, .int .i64 1, .int .i64 2, .int .i64 0, .int .i64 0, .int .i64 0, .bool false, .string (⟨#[49, 58, 120]⟩ : ByteArray), .int .i64 0, .slice none 0 0, .int .i64 5, .int .i64 0, .int .i64 0, .int .i64 0, .int .i64 3, .int .i64 0, .bool true, .string (⟨#[]⟩ : ByteArray), .int .i64 0, .slice none 0 0, .int .i64 9, .int .i64 0, .int .i64 0, .int .i64 0, .int .i64 0, .int .i64 0, .bool false, .string (⟨#[]⟩ : ByteArray), .int .i64 9, .slice Ao23 y237.length co23]) (ok := (fun _ => True)) (okp := (fun _ => True)) ?hr ?hp (fun _ hk => hk) ((show ∀ k_, w21.heap.size ≤ k_ → (fun _ => True) k_ from fun k_ hk => trivial) _ (Nat.le_refl _)) (Below.refl _ _) (Nat.le_refl _) (by simp) ?_; (case hd => rfl); (case hg => rfl); (case hr => first | (go_simp; done) | (go_simp; rfl)); (case hp => exact (Reps.c10 (show Kd.FK k40 _ _ (⟨0, 1, 2, 0, 0, 0, false, (⟨#[49, 58, 120]⟩ : ByteArray), (⟨0, ([] : List (S63))⟩ : S38)⟩ : S40) [.int .i64 0, .int .i64 1, .int .i64 2, .int .i64 0, .int .i64 0, .int .i64 0, .bool false, .string (⟨#[49, 58, 120]⟩ : ByteArray), .int .i64 0, .slice none 0 0] from (k40_mkF _ _ (⟨0, 1, 2, 0, 0, 0, false, (⟨#[49, 58, 120]⟩ : ByteArray), (⟨0, ([] : List (S63))⟩ : S38)⟩ : S40) (Nat.le_refl _) (Kd.F_nil _ _ _))) (Reps.c10 (show Kd.FK k40 _ _ (⟨5, 0, 0, 0, 3, 0, true, (⟨#[]⟩ : ByteArray), (⟨0, ([] : List (S63))⟩ : S38)⟩ : S40) [.int .i64 5, .int .i64 0, .int .i64 0, .int .i64 0, .int .i64 3, .int .i64 0, .bool true, .string (⟨#[]⟩ : ByteArray), .int .i64 0, .slice none 0 0] from (k40_mkF _ _ (⟨5, 0, 0, 0, 3, 0, true, (⟨#[]⟩ : ByteArray), (⟨0, ([] : List (S63))⟩ : S38)⟩ : S40) (Nat.le_refl _) (Kd.F_nil _ _ _))) (Reps.c10 (show Kd.FK k40 _ _ (⟨9, 0, 0, 0, 0, 0, false, (⟨#[]⟩ : ByteArray), (⟨9, y237⟩ : S38)⟩ : S40) [.int .i64 9, .int .i64 0, .int .i64 0, .int .i64 0, .int .i64 0, .int .i64 0, .bool false, .string (⟨#[]⟩ : ByteArray), .int .i64 9, .slice Ao23 y237.length co23] from (k40_mkF _ _ (⟨9, 0, 0, 0, 0, 0, false, (⟨#[]⟩ : ByteArray), (⟨9, y237⟩ : S38)⟩ : S40) (Kd.N_reads' (Kd.N_mono (ok' := (fun _ => True)) (O5.out) (fun k_ hk => trivial))).2.1 (Kd.N_F (Kd.N_mono (ok' := (fun _ => True)) (O5.out) (fun k_ hk => trivial))))) (Reps.none _ _))))); intro v241 w24 ho25 hb hg_ hnew_; clear hg_ hnew_; (first | rw [← Ny240.out] at ho25 | (simp only [Int.reduceToNat] at ho25; rw [← Ny240.out] at ho25)); have n0_ := Aside0.mk (Kd.N_lower ho25 (below_size (by repeat (first | (with_reducible first | exact HB.out | apply below_alloc | apply pw_below_drewN | apply below_drew1) | exact HB.out)))); have n1_ := Aside0.mk (below_step (by repeat (first | (with_reducible first | exact HB.out | apply below_alloc | apply pw_below_drewN | apply below_drew1) | exact HB.out)) hb); clear HB; clear O5; have O0 := n0_; have HB := n1_; clear n0_ n1_; clear hb ho25; obtain ⟨Ao26, co26, eo26⟩ := Kd.N_slice O0.out; subst eo26) | ((with_reducible refine gate_callee (f := 8) rfl ?_); refine goesL_ (some 21) rfl rfl Tryd.func8 (by kernel_rfl) rfl #[.slice Ao26 y240.length co26] rfl (by (try simp only [List.map_toArray, List.map_cons, List.map_nil]); first | done | rfl | (simp only [List.length_drop, List.length_take]; rfl)) ?_; (with_reducible refine (script_Show.calls k _ _ y240 t243 t244 _ ?side1 ?side2 (HT.out _ (by repeat (first | (with_reducible first | exact HB.out | apply below_alloc | apply pw_below_drewN | apply below_drew1) | exact HB.out))) A1.out).mono ?_); (case side1 => repeat (first | exact (Kd.N_reads' O0.out).2.2 | (with_reducible refine Kd.C_alloc ?_ _) | (with_reducible refine Kd.C_drewN ?_ _) | (with_reducible refine Kd.C_drew ?_))); (case side2 => exact (Kd.N_reads' O0.out).2.1); rintro e w27 ⟨rfl, hb⟩; refine ⟨_, rfl, ?_⟩; have n0_ := Aside0.mk (Kd.N_below (by (with_reducible repeat (first | apply Kd.N_alloc | apply Kd.N_drewN | apply Kd.N_drew)); exact O0.out) hb); have n1_ := Aside0.mk (below_step (by repeat (first | (with_reducible first | exact HB.out | apply below_alloc | apply pw_below_drewN | apply below_drew1) | exact HB.out)) hb); clear O0; clear HB; have O0 := n0_; have HB := n1_; clear n0_ n1_; (try clear hb); (try clear hb2); (try clear hk); (try clear hi)) | ((with_reducible refine gate_callee (f := 10) rfl ?_); refine goesL_ (some 26) rfl rfl Tryd.func10 (by kernel_rfl) rfl #[.string t243] rfl (by (try simp only [List.map_toArray, List.map_cons, List.map_nil]); first | done | rfl | (simp only [List.length_drop, List.length_take]; rfl)) ?_; (with_reducible refine (script_Parse.calls k t243 t245 t246 _ (HT.out _ (by repeat (first | (with_reducible first | exact HB.out | apply below_alloc | apply pw_below_drewN | apply below_drew1) | exact HB.out))) A2.out).mono ?_); rintro e w28 ⟨v247, rfl, ho0, hb⟩; refine ⟨_, rfl, ?_⟩; have n0_ := Aside0.mk (Kd.N_elder' (by (with_reducible repeat (first | apply Kd.N_alloc | apply Kd.N_drewN | apply Kd.N_drew)); exact O0.out) (by first | exact Kd.N_base ho0 | exact Kd.R_base ho0) hb); have n1_ := Aside0.mk (Kd.N_lower (Kd.N_mono (ok' := fun k_ => some k_ ≠ (.slice Ao26 y240.length co26 : Value).ownBlock) (Kd.R_N (Kd.R_bound ho0)) (fun k_ hk_ => (Kd.fresh' (Kd.N_lt (by (with_reducible repeat (first | apply Kd.N_alloc | apply Kd.N_drewN | apply Kd.N_drew)); exact O0.out)) k_ hk_.2.1))) (below_size (by repeat (first | (with_reducible first | exact HB.out | apply below_alloc | apply pw_below_drewN | apply below_drew1) | exact HB.out)))); have n2_ := Aside0.mk (below_step (by repeat (first | (with_reducible first | exact HB.out | apply below_alloc | apply pw_below_drewN | apply below_drew1) | exact HB.out)) hb); clear O0; clear HB; have O0 := n0_; have O1 := n1_; have HB := n2_; clear n0_ n1_ n2_; (try clear hb); (try clear hb2); (try clear hk); (try clear hi); (try clear ho0)) | ((with_reducible refine gate_callee (f := 10) rfl ?_); refine goesL_ (some 30) rfl rfl Tryd.func10 (by kernel_rfl) rfl #[.string (⟨#[48, 32]⟩ : ByteArray)] rfl (by (try simp only [List.map_toArray, List.map_cons, List.map_nil]); first | done | rfl | (simp only [List.length_drop, List.length_take]; rfl)) ?_; (with_reducible refine (script_Parse.calls k (⟨#[48, 32]⟩ : ByteArray) t249 t250 _ (HT.out _ (by repeat (first | (with_reducible first | exact HB.out | apply below_alloc | apply pw_below_drewN | apply below_drew1) | exact HB.out))) A3.out).mono ?_); rintro e w29 ⟨v251, rfl, ho0, hb⟩; refine ⟨_, rfl, ?_⟩; have n0_ := Aside0.mk (Kd.N_elder' (by (with_reducible repeat (first | apply Kd.N_alloc | apply Kd.N_drewN | apply Kd.N_drew)); exact O0.out) (by first | exact Kd.N_base ho0 | exact Kd.R_base ho0) hb); have n1_ := Aside0.mk (Kd.N_elder' (by (with_reducible repeat (first | apply Kd.N_alloc | apply Kd.N_drewN | apply Kd.N_drew)); exact O1.out) (by first | exact Kd.N_base ho0 | exact Kd.R_base ho0) hb); have n2_ := Aside0.mk (Kd.N_lower (Kd.N_mono (ok' := fun k_ => some k_ ≠ (.slice Ao26 y240.length co26 : Value).ownBlock ∧ some k_ ≠ (v247 : Value).ownBlock) (Kd.R_N (Kd.R_bound ho0)) (fun k_ hk_ => ⟨(Kd.fresh' (Kd.N_lt (by (with_reducible repeat (first | apply Kd.N_alloc | apply Kd.N_drewN | apply Kd.N_drew)); exact O0.out)) k_ hk_.2.1), (Kd.fresh' (Kd.N_lt (by (with_reducible repeat (first | apply Kd.N_alloc | apply Kd.N_drewN | apply Kd.N_drew)); exact O1.out)) k_ hk_.2.1)⟩)) (below_size (by repeat (first | (with_reducible first | exact HB.out | apply below_alloc | apply pw_below_drewN | apply below_drew1) | exact HB.out)))); have n3_ := Aside0.mk (below_step (by repeat (first | (with_reducible first | exact HB.out | apply below_alloc | apply pw_below_drewN | apply below_drew1) | exact HB.out)) hb); clear O0; clear O1; clear HB; have O0 := n0_; have O1 := n1_; have O2 := n2_; have HB := n3_; clear n0_ n1_ n2_ n3_; (try clear hb); (try clear hb2); (try clear hk); (try clear hi); (try clear ho0)) | ((with_reducible refine gate_dst (N := 35) rfl ?_); refine Kd.N_lit k40 _ 40 ?hg (N' := 35) ?hd (xs := ([(⟨4, 0, 0, 0, 0, 1, false, (⟨#[]⟩ : ByteArray), (⟨0, ([] : List (S63))⟩ : S38)⟩ : S40)] : List (S40))) (inner := [.int .i64 4, .int .i64 0, .int .i64 0, .int .i64 0, .int .i64 0, .int .i64 1, .bool false, .string (⟨#[]⟩ : ByteArray), .int .i64 0, .slice none 0 0]) (ok := (fun k_ => some k_ ≠ (.slice Ao26 y240.length co26 : Value).ownBlock ∧ some k_ ≠ (v247 : Value).ownBlock ∧ some k_ ≠ (v251 : Value).ownBlock)) (okp := (fun k_ => some k_ ≠ (.slice Ao26 y240.length co26 : Value).ownBlock ∧ some k_ ≠ (v247 : Value).ownBlock ∧ some k_ ≠ (v251 : Value).ownBlock)) ?hr ?hp (fun _ hk => hk) ((show ∀ k_, w29.heap.size ≤ k_ → (fun k_ => some k_ ≠ (.slice Ao26 y240.length co26 : Value).ownBlock ∧ some k_ ≠ (v247 : Value).ownBlock ∧ some k_ ≠ (v251 : Value).ownBlock) k_ from fun k_ hk => ⟨Kd.fresh' (Kd.N_lt (by (with_reducible repeat (first | apply Kd.N_alloc | apply Kd.N_drewN | apply Kd.N_drew)); exact O0.out)) k_ hk, Kd.fresh' (Kd.N_lt (by (with_reducible repeat (first | apply Kd.N_alloc | apply Kd.N_drewN | apply Kd.N_drew)); exact O1.out)) k_ hk, Kd.fresh' (Kd.N_lt (by (with_reducible repeat (first | apply Kd.N_alloc | apply Kd.N_drewN | apply Kd.N_drew)); exact O2.out)) k_ hk⟩) _ (Nat.le_refl _)) (Below.refl _ _) (Nat.le_refl _) (by simp) ?_; (case hd => rfl); (case hg => rfl); (case hr => first | (go_simp; done) | (go_simp; rfl)); (case hp => exact (Reps.c10 (show Kd.FK k40 _ _ (⟨4, 0, 0, 0, 0, 1, false, (⟨#[]⟩ : ByteArray), (⟨0, ([] : List (S63))⟩ : S38)⟩ : S40) [.int .i64 4, .int .i64 0, .int .i64 0, .int .i64 0, .int .i64 0, .int .i64 1, .bool false, .string (⟨#[]⟩ : ByteArray), .int .i64 0, .slice none 0 0] from (k40_mkF _ _ (⟨4, 0, 0, 0, 0, 1, false, (⟨#[]⟩ : ByteArray), (⟨0, ([] : List (S63))⟩ : S38)⟩ : S40) (Nat.le_refl _) (Kd.F_nil _ _ _))) (Reps.none _ _))); intro v254 w30 ho31 hb hg_ hnew_; clear hg_ hnew_; (first | rw [← Ny253.out] at ho31 | (simp only [Int.reduceToNat] at ho31; rw [← Ny253.out] at ho31)); have n0_ := Aside0.mk (Kd.N_elder' (by (with_reducible repeat (first | apply Kd.N_alloc | apply Kd.N_drewN | apply Kd.N_drew)); exact O0.out) (Kd.N_base ho31) hb); have n1_ := Aside0.mk (Kd.N_elder' (by (with_reducible repeat (first | apply Kd.N_alloc | apply Kd.N_drewN | apply Kd.N_drew)); exact O1.out) (Kd.N_base ho31) hb); have n2_ := Aside0.mk (Kd.N_elder' (by (with_reducible repeat (first | apply Kd.N_alloc | apply Kd.N_drewN | apply Kd.N_drew)); exact O2.out) (Kd.N_base ho31) hb); have n3_ := Aside0.mk (Kd.N_lower ho31 (below_size (by repeat (first | (with_reducible first | exact HB.out | apply below_alloc | apply pw_below_drewN | apply below_drew1) | exact HB.out)))); have n4_ := Aside0.mk (below_step (by repeat (first | (with_reducible first | exact HB.out | apply below_alloc | apply pw_below_drewN | apply below_drew1) | exact HB.out)) hb); clear O0; clear O1; clear O2; clear HB; have O0 := n0_; have O1 := n1_; have O2 := n2_; have O3 := n3_; have HB := n4_; clear n0_ n1_ n2_ n3_ n4_; clear hb ho31; obtain ⟨Ao32, co32, eo32⟩ := Kd.N_slice O3.out; subst eo32) | ((with_reducible refine gate_callee (f := 8) rfl ?_); refine goesL_ (some 36) rfl rfl Tryd.func8 (by kernel_rfl) rfl #[.slice Ao32 y253.length co32] rfl (by (try simp only [List.map_toArray, List.map_cons, List.map_nil]); first | done | rfl | (simp only [List.length_drop, List.length_take]; rfl)) ?_; (with_reducible refine (script_Show.calls k _ _ y253 t256 t257 _ ?side1 ?side2 (HT.out _ (by repeat (first | (with_reducible first | exact HB.out | apply below_alloc | apply pw_below_drewN | apply below_drew1) | exact HB.out))) A4.out).mono ?_); (case side1 => repeat (first | exact (Kd.N_reads' O3.out).2.2 | (with_reducible refine Kd.C_alloc ?_ _) | (with_reducible refine Kd.C_drewN ?_ _) | (with_reducible refine Kd.C_drew ?_))); (case side2 => exact (Kd.N_reads' O3.out).2.1); rintro e w33 ⟨rfl, hb⟩; refine ⟨_, rfl, ?_⟩; have n0_ := Aside0.mk (Kd.N_below (by (with_reducible repeat (first | apply Kd.N_alloc | apply Kd.N_drewN | apply Kd.N_drew)); exact O0.out) hb); have n1_ := Aside0.mk (Kd.N_below (by (with_reducible repeat (first | apply Kd.N_alloc | apply Kd.N_drewN | apply Kd.N_drew)); exact O1.out) hb); have n2_ := Aside0.mk (Kd.N_below (by (with_reducible repeat (first | apply Kd.N_alloc | apply Kd.N_drewN | apply Kd.N_drew)); exact O2.out) hb); have n3_ := Aside0.mk (Kd.N_below (by (with_reducible repeat (first | apply Kd.N_alloc | apply Kd.N_drewN | apply Kd.N_drew)); exact O3.out) hb); have n4_ := Aside0.mk (below_step (by repeat (first | (with_reducible first | exact HB.out | apply below_alloc | apply pw_below_drewN | apply below_drew1) | exact HB.out)) hb); clear O0; clear O1; clear O2; clear O3; clear HB; have O0 := n0_; have O1 := n1_; have O2 := n2_; have O3 := n3_; have HB := n4_; clear n0_ n1_ n2_ n3_ n4_; (try clear hb); (try clear hb2); (try clear hk); (try clear hi)) | (go_at_call 12; (with_reducible refine (wharfagelaw0_Num.calls t244 t258 _ A6.out).mono ?_); rintro e w' ⟨rfl, ⟨nd, rfl⟩⟩; obtain ⟨Ao34, co34, eo34⟩ := Kd.N_slice O1.out; subst eo34) | (go_at_call 13; (with_reducible refine (wharfagelaw0_SameActs.calls k _ _ y240 _ _ t245 true _ ?side1 ?side2 ?side3 ?side4 A8.out).mono ?_); (case side1 => repeat (first | exact (Kd.N_reads' O0.out).2.2 | (with_reducible refine Kd.C_alloc ?_ _) | (with_reducible refine Kd.C_drewN ?_ _) | (with_reducible refine Kd.C_drew ?_))); (case side2 => exact (Kd.N_reads' O0.out).2.1); (case side3 => repeat (first | exact (Kd.N_reads' O1.out).2.2 | (with_reducible refine Kd.C_alloc ?_ _) | (with_reducible refine Kd.C_drewN ?_ _) | (with_reducible refine Kd.C_drew ?_))); (case side4 => exact (Kd.N_reads' O1.out).2.1); rintro e w35 ⟨rfl, hb⟩; have n0_ := Aside0.mk (Kd.N_below (by (with_reducible repeat (first | apply Kd.N_alloc | apply Kd.N_drewN | apply Kd.N_drew)); exact O0.out) hb); have n1_ := Aside0.mk (Kd.N_below (by (with_reducible repeat (first | apply Kd.N_alloc | apply Kd.N_drewN | apply Kd.N_drew)); exact O1.out) hb); have n2_ := Aside0.mk (Kd.N_below (by (with_reducible repeat (first | apply Kd.N_alloc | apply Kd.N_drewN | apply Kd.N_drew)); exact O2.out) hb); have n3_ := Aside0.mk (Kd.N_below (by (with_reducible repeat (first | apply Kd.N_alloc | apply Kd.N_drewN | apply Kd.N_drew)); exact O3.out) hb); have n4_ := Aside0.mk (below_step (by repeat (first | (with_reducible first | exact HB.out | apply below_alloc | apply pw_below_drewN | apply below_drew1) | exact HB.out)) hb); clear O0; clear O1; clear O2; clear O3; clear HB; have O0 := n0_; have O1 := n1_; have O2 := n2_; have O3 := n3_; have HB := n4_; clear n0_ n1_ n2_ n3_ n4_; (try clear hb); (try clear hb2); (try clear hk); (try clear hi)) | (go_at_call 12; (with_reducible refine (wharfagelaw0_Num.calls t246 t260 _ A10.out).mono ?_); rintro e w' ⟨rfl, ⟨nd, rfl⟩⟩) | (go_at_call 12; (with_reducible refine (wharfagelaw0_Num.calls t250 t261 _ A12.out).mono ?_); rintro e w' ⟨rfl, ⟨nd, rfl⟩⟩) | (go_at_call 12; (with_reducible refine (wharfagelaw0_Num.calls t257 t262 _ A14.out).mono ?_); rintro e w' ⟨rfl, ⟨nd, rfl⟩⟩; have p263 : 0 ≤ (0 : Int) := (by omega); have q263 : 0 < (y240.length : Int) := of_decide_eq_true (by first | (with_reducible assumption) | assumption); obtain ⟨ad263, A263_9, c263_9, e263, hx263_0, hx263_1, hx263_2, hx263_3, hx263_4, hx263_5, hx263_6, hx263_7, hx263_8, hx263_9, hl263_9, hi263_9⟩ := at_T40 (Kd.N_reads' O0.out).2.2 0 p263 q263; cases e263; obtain ⟨ce263, hce263, hMe263, hcc263⟩ := Kd.N_get O0.out z40 0 p263 (by first | exact q263 | exact of_decide_eq_true (by first | (with_reducible assumption) | assumption) | (have e_ := (Kd.N_reads' O0.out).1; omega)); obtain ⟨ua263_9, uc263_9, rfl, ul263_9, ge263_9⟩ := k40_openF hMe263; have hv263_9 := hcc263 9 _ rfl; rw [add_field _ _ 9 (by omega)] at hv263_9; replace hv263_9 := Option.some.inj (hv263_9.symm.trans hx263_9); injection hv263_9 with hva_ hvn_ hvc_; rw [hva_] at ge263_9; rw [hvc_] at ul263_9; have HL263_9 := Aside0.mk (show Kd.V k63 63 _ w.heap.size _ _ ((rd_T40 y240 0).f8.f1) from Kd.V_mk ul263_9 ge263_9); clear hva_ hvn_ hvc_ ge263_9 ul263_9; clear hcc263 hce263; have qi263 : (0 < y240.length) = True := eq_true (by omega); (try rw [show ((0 : Int)).toNat = 0 from rfl] at hx263_0); (try rw [show 0 * 10 = 0 from rfl] at hx263_0); (try rw [Addr.add_zero'] at hx263_0); (try rw [show ((0 : Int)).toNat = 0 from rfl] at hx263_1); (try rw [show 0 * 10 = 0 from rfl] at hx263_1); (try rw [Addr.add_zero'] at hx263_1); (try rw [show ((0 : Int)).toNat = 0 from rfl] at hx263_2); (try rw [show 0 * 10 = 0 from rfl] at hx263_2); (try rw [Addr.add_zero'] at hx263_2); (try rw [show ((0 : Int)).toNat = 0 from rfl] at hx263_3); (try rw [show 0 * 10 = 0 from rfl] at hx263_3); (try rw [Addr.add_zero'] at hx263_3); (try rw [show ((0 : Int)).toNat = 0 from rfl] at hx263_4); (try rw [show 0 * 10 = 0 from rfl] at hx263_4); (try rw [Addr.add_zero'] at hx263_4); (try rw [show ((0 : Int)).toNat = 0 from rfl] at hx263_5); (try rw [show 0 * 10 = 0 from rfl] at hx263_5); (try rw [Addr.add_zero'] at hx263_5); (try rw [show ((0 : Int)).toNat = 0 from rfl] at hx263_6); (try rw [show 0 * 10 = 0 from rfl] at hx263_6); (try rw [Addr.add_zero'] at hx263_6); (try rw [show ((0 : Int)).toNat = 0 from rfl] at hx263_7); (try rw [show 0 * 10 = 0 from rfl] at hx263_7); (try rw [Addr.add_zero'] at hx263_7); (try rw [show ((0 : Int)).toNat = 0 from rfl] at hx263_8); (try rw [show 0 * 10 = 0 from rfl] at hx263_8); (try rw [Addr.add_zero'] at hx263_8); (try rw [show ((0 : Int)).toNat = 0 from rfl] at hx263_9); (try rw [show 0 * 10 = 0 from rfl] at hx263_9); (try rw [Addr.add_zero'] at hx263_9); have HR263_9 := Aside0.mk hi263_9; have HC263_9 := Aside0.mk hl263_9; clear hi263_9 hl263_9; replace p263 := eq_true p263; replace q263 := eq_true q263) | (go_at_call 14; (with_reducible refine (script_May.calls k ((rd_T40 y240 0).f0) ((rd_T40 y240 0).f1) ((rd_T40 y240 0).f2) ((rd_T40 y240 0).f3) ((rd_T40 y240 0).f4) ((rd_T40 y240 0).f5) ((rd_T40 y240 0).f6) ((rd_T40 y240 0).f7) ((rd_T40 y240 0).f8.f0) _ _ ((rd_T40 y240 0).f8.f1) t264 _ ?side1 ?side2 A17.out).mono ?_); (case side1 => repeat (first | exact (by repeat (first | (with_reducible exact HR263_9.out) | (with_reducible refine Kd.C_alloc ?_ _) | (with_reducible refine Kd.C_drewN ?_ _) | (with_reducible refine Kd.C_drew ?_) | exact HR263_9.out)) | (with_reducible refine Kd.C_alloc ?_ _) | (with_reducible refine Kd.C_drewN ?_ _) | (with_reducible refine Kd.C_drew ?_))); (case side2 => exact HC263_9.out); rintro e w36 ⟨rfl, hb⟩; have n0_ := Aside0.mk (Kd.N_below (by (with_reducible repeat (first | apply Kd.N_alloc | apply Kd.N_drewN | apply Kd.N_drew)); exact O0.out) hb); have n1_ := Aside0.mk (Kd.N_below (by (with_reducible repeat (first | apply Kd.N_alloc | apply Kd.N_drewN | apply Kd.N_drew)); exact O1.out) hb); have n2_ := Aside0.mk (Kd.N_below (by (with_reducible repeat (first | apply Kd.N_alloc | apply Kd.N_drewN | apply Kd.N_drew)); exact O2.out) hb); have n3_ := Aside0.mk (Kd.N_below (by (with_reducible repeat (first | apply Kd.N_alloc | apply Kd.N_drewN | apply Kd.N_drew)); exact O3.out) hb); have n4_ := Aside0.mk (Kd.V_below (by (with_reducible repeat (first | apply Kd.V_alloc | apply Kd.V_drewN | apply Kd.V_drew)); exact HL263_9.out) hb); have n5_ := Aside0.mk (Kd.C_below (by repeat (first | (with_reducible exact HR263_9.out) | (with_reducible refine Kd.C_alloc ?_ _) | (with_reducible refine Kd.C_drewN ?_ _) | (with_reducible refine Kd.C_drew ?_) | exact HR263_9.out)) hb); have n6_ := Aside0.mk (below_step (by repeat (first | (with_reducible first | exact HB.out | apply below_alloc | apply pw_below_drewN | apply below_drew1) | exact HB.out)) hb); clear O0; clear O1; clear O2; clear O3; clear HL263_9; clear HR263_9; clear HB; have O0 := n0_; have O1 := n1_; have O2 := n2_; have O3 := n3_; have HL263_9 := n4_; have HR263_9 := n5_; have HB := n6_; clear n0_ n1_ n2_ n3_ n4_ n5_ n6_; (try clear hb); (try clear hb2); (try clear hk); (try clear hi)))
        go_ret
        exact ⟨by first | rfl | (simp [errW_none, errW_some] <;> rfl) | (simp [*, errW_none, errW_some] <;> rfl), by repeat (first | (with_reducible first | exact HB.out | apply below_alloc | apply pw_below_drewN | apply below_drew1) | exact HB.out)⟩
       ·rw [if_neg c16] at H
        exact absurd H (by simp)
      ·rw [if_neg c15] at H
       exact absurd H (by simp)
     ·rw [if_neg c13] at H
      exact absurd H (by simp)
    ·rw [if_neg c11] at H
     exact absurd H (by simp)
   ·replace c9 := Bool.eq_false_iff.mpr c9
    subst c9
    have H1 : (none) = some r := by rw [if_neg (show ¬ (false = true) by decide)] at H; exact H
    clear H
    have H := H1
    clear H1
    exact absurd H (by simp)
  ·rw [if_neg c7] at H
   exact absurd H (by simp)
 ·rw [if_neg c5] at H
  exact absurd H (by simp)

end Go.Proofs.YtnojgkiaolmoeaaDoor.PSc
end
section
/- Contracts: what calls of these functions of the program do, each as a plain function; written by a program of this session. -/
namespace Go.Proofs.YtnojgkiaolmoeaaDoor.PSc
open Go.RowKit Go.Proofs.YtnojgkiaolmoeaaDoorW.PrintWords Go.Proofs.YtnojgkiaolmoeaaDoorW.PrintLast Go.Proofs.YtnojgkiaolmoeaaDoorW.PrintMore
attribute [local go_sem] max2_int min2_int max_two min_two max_three min_three max_four min_four   -- for this text's walks alone
set_option linter.unusedVariables false
set_option linter.unusedSimpArgs false

/-! ### wharfagelaw23_ScriptRows: function 6 -/
def wharfagelaw23_ScriptRows.f (k : Nat) (l0 : List (S40)) (a1 : Int) : Option (Bool) := (wharfagelaw23_awake.f k).bind fun t335 => (if t335 = true then (if (l0.length : Int) > 200 then (some true) else (if (IntKind.u64.wrap (wrap64 ((l0.length : Int) + 1))) = 0 then (none) else (if 0 ≤ (wrap64 (Int.tmod (IntKind.u64.wrap (a1)) (IntKind.u64.wrap (wrap64 ((l0.length : Int) + 1))))) then (if (wrap64 (Int.tmod (IntKind.u64.wrap (a1)) (IntKind.u64.wrap (wrap64 ((l0.length : Int) + 1))))) ≤ (l0.length : Int) then ((script_Show.f k (l0.take ((wrap64 (Int.tmod (IntKind.u64.wrap (a1)) (IntKind.u64.wrap (wrap64 ((l0.length : Int) + 1))))) : Int).toNat)).bind fun bt340 => ((script_Show.f k (l0.drop ((wrap64 (Int.tmod (IntKind.u64.wrap (a1)) (IntKind.u64.wrap (wrap64 ((l0.length : Int) + 1))))) : Int).toNat)).bind fun bt346 => ((script_Show.f k l0).bind fun bt348 => ((wharfagelaw0_Num.f bt340.2).bind fun t350 => (if t350 = 0 then ((wharfagelaw0_Num.f bt346.2).bind fun t351 => (if t351 = 0 then (if bt340.1.size + bt346.1.size ≤ 9223372036854775807 then ((script_Parse.f k (bt340.1 ++ bt346.1)).bind fun bt352 => ((wharfagelaw0_Num.f bt348.2).bind fun t356 => (if t356 = 0 then (if bt348.1.toList = (bt340.1 ++ bt346.1).toList then ((wharfagelaw0_Num.f bt352.2).bind fun t357 => (if t357 = 0 then ((wharfagelaw0_SameActs.f k bt352.1 l0).bind fun t358 => (some t358)) else (none))) else (none)) else (none)))) else (none)) else ((wharfagelaw0_Num.f bt348.2).bind fun t359 => (if t359 = 2300 then (some (bt348.1.toList == ([] : List UInt8))) else (none))))) else ((wharfagelaw0_Num.f bt348.2).bind fun t360 => (if t360 = 2300 then (some (bt348.1.toList == ([] : List UInt8))) else (none)))))))) else (none)) else (none)))) else (none))
theorem wharfagelaw23_ScriptRows.mono : ∀ a0 a1 k, LeO (wharfagelaw23_ScriptRows.f k a0 a1) (wharfagelaw23_ScriptRows.f (k + 1) a0 a1) := by
 intro a0 a1 k
 unfold wharfagelaw23_ScriptRows.f
 repeat' first
   | (with_reducible exact script_Parse.mono _ _)
   | (with_reducible exact script_Show.mono _ _)
   | (with_reducible exact wharfagelaw0_SameActs.mono _ _ _)
   | (with_reducible exact wharfagelaw23_awake.mono _)
   | (with_reducible exact LeO.refl _)
   | (with_reducible exact LeO.none _)
   | (with_reducible refine LeO.ite ?_ ?_)
   | (with_reducible refine LeO.bind ?_ (fun _ => ?_))
   | exact script_Parse.mono _ _
   | exact script_Show.mono _ _
   | exact wharfagelaw0_SameActs.mono _ _ _
   | exact wharfagelaw23_awake.mono _
   | exact LeO.none _
   | refine LeO.ite ?_ ?_
   | refine LeO.bind ?_ (fun _ => ?_)
set_option maxHeartbeats 8000000 in
set_option maxRecDepth 100000 in
theorem wharfagelaw23_ScriptRows.calls (k : Nat) (A0 : Option Addr) (c0 : Nat) (l0 : List (S40)) (a1 : Int) (r : Bool) (w : World) (hr0 : Kd.C k40 w A0 l0.length l0) (hc0 : l0.length ≤ c0) (ht : Take.Laid w) (h : wharfagelaw23_ScriptRows.f k l0 a1 = some r) :
  Calls Tryd.prog 6 #[.slice A0 l0.length c0, .int .i64 a1] w fun e w' => e = .returned (.bool r) ∧ Below w.heap.size w w' := by
 have HT := Aside0.mk (show ∀ w_ : World, Below w.heap.size w w_ → Take.Laid w_ from fun w_ hb_ => ht.below hb_)
 clear ht
 have HR0 := Aside0.mk hr0
 have HC0 := Aside0.mk hc0
 clear hr0 hc0
 have HB := Aside0.mk (Below.refl w.heap.size w)
 have H : ((wharfagelaw23_awake.f k).bind fun t335 => (if t335 = true then (if (l0.length : Int) > 200 then (some true) else (if (IntKind.u64.wrap (wrap64 ((l0.length : Int) + 1))) = 0 then (none) else (if 0 ≤ (wrap64 (Int.tmod (IntKind.u64.wrap (a1)) (IntKind.u64.wrap (wrap64 ((l0.length : Int) + 1))))) then (if (wrap64 (Int.tmod (IntKind.u64.wrap (a1)) (IntKind.u64.wrap (wrap64 ((l0.length : Int) + 1))))) ≤ (l0.length : Int) then ((script_Show.f k (l0.take ((wrap64 (Int.tmod (IntKind.u64.wrap (a1)) (IntKind.u64.wrap (wrap64 ((l0.length : Int) + 1))))) : Int).toNat)).bind fun bt340 => ((script_Show.f k (l0.drop ((wrap64 (Int.tmod (IntKind.u64.wrap (a1)) (IntKind.u64.wrap (wrap64 ((l0.length : Int) + 1))))) : Int).toNat)).bind fun bt346 => ((script_Show.f k l0).bind fun bt348 => ((wharfagelaw0_Num.f bt340.2).bind fun t350 => (if t350 = 0 then ((wharfagelaw0_Num.f bt346.2).bind fun t351 => (if t351 = 0 then (if bt340.1.size + bt346.1.size ≤ 9223372036854775807 then ((script_Parse.f k (bt340.1 ++ bt346.1)).bind fun bt352 => ((wharfagelaw0_Num.f bt348.2).bind fun t356 => (if t356 = 0 then (if bt348.1.toList = (bt340.1 ++ bt346.1).toList then ((wharfagelaw0_Num.f bt352.2).bind fun t357 => (if t357 = 0 then ((wharfagelaw0_SameActs.f k bt352.1 l0).bind fun t358 => (some t358)) else (none))) else (none)) else (none)))) else (none)) else ((wharfagelaw0_Num.f bt348.2).bind fun t359 => (if t359 = 2300 then (some (bt348.1.toList == ([] : List UInt8))) else (none))))) else ((wharfagelaw0_Num.f bt348.2).bind fun t360 => (if t360 = 2300 then (some (bt348.1.toList == ([] : List UInt8))) else (none)))))))) else (none)) else (none)))) else (none))) = some r := h
 clear h
 replace H := Option.bind_eq_some_iff.mp H
 obtain ⟨t335, A30, H⟩ := H
 replace H : (if t335 = true then (if (l0.length : Int) > 200 then (some true) else (if (IntKind.u64.wrap (wrap64 ((l0.length : Int) + 1))) = 0 then (none) else (if 0 ≤ (wrap64 (Int.tmod (IntKind.u64.wrap (a1)) (IntKind.u64.wrap (wrap64 ((l0.length : Int) + 1))))) then (if (wrap64 (Int.tmod (IntKind.u64.wrap (a1)) (IntKind.u64.wrap (wrap64 ((l0.length : Int) + 1))))) ≤ (l0.length : Int) then ((script_Show.f k (l0.take ((wrap64 (Int.tmod (IntKind.u64.wrap (a1)) (IntKind.u64.wrap (wrap64 ((l0.length : Int) + 1))))) : Int).toNat)).bind fun bt340 => ((script_Show.f k (l0.drop ((wrap64 (Int.tmod (IntKind.u64.wrap (a1)) (IntKind.u64.wrap (wrap64 ((l0.length : Int) + 1))))) : Int).toNat)).bind fun bt346 => ((script_Show.f k l0).bind fun bt348 => ((wharfagelaw0_Num.f bt340.2).bind fun t350 => (if t350 = 0 then ((wharfagelaw0_Num.f bt346.2).bind fun t351 => (if t351 = 0 then (if bt340.1.size + bt346.1.size ≤ 9223372036854775807 then ((script_Parse.f k (bt340.1 ++ bt346.1)).bind fun bt352 => ((wharfagelaw0_Num.f bt348.2).bind fun t356 => (if t356 = 0 then (if bt348.1.toList = (bt340.1 ++ bt346.1).toList then ((wharfagelaw0_Num.f bt352.2).bind fun t357 => (if t357 = 0 then ((wharfagelaw0_SameActs.f k bt352.1 l0).bind fun t358 => (some t358)) else (none))) else (none)) else (none)))) else (none)) else ((wharfagelaw0_Num.f bt348.2).bind fun t359 => (if t359 = 2300 then (some (bt348.1.toList == ([] : List UInt8))) else (none))))) else ((wharfagelaw0_Num.f bt348.2).bind fun t360 => (if t360 = 2300 then (some (bt348.1.toList == ([] : List UInt8))) else (none)))))))) else (none)) else (none)))) else (none)) = some r := H
 have A3 := Aside0.mk A30
 clear A30
 by_cases c4 : t335 = true
 ·subst c4
  have H1 : (if (l0.length : Int) > 200 then (some true) else (if (IntKind.u64.wrap (wrap64 ((l0.length : Int) + 1))) = 0 then (none) else (if 0 ≤ (wrap64 (Int.tmod (IntKind.u64.wrap (a1)) (IntKind.u64.wrap (wrap64 ((l0.length : Int) + 1))))) then (if (wrap64 (Int.tmod (IntKind.u64.wrap (a1)) (IntKind.u64.wrap (wrap64 ((l0.length : Int) + 1))))) ≤ (l0.length : Int) then ((script_Show.f k (l0.take ((wrap64 (Int.tmod (IntKind.u64.wrap (a1)) (IntKind.u64.wrap (wrap64 ((l0.length : Int) + 1))))) : Int).toNat)).bind fun bt340 => ((script_Show.f k (l0.drop ((wrap64 (Int.tmod (IntKind.u64.wrap (a1)) (IntKind.u64.wrap (wrap64 ((l0.length : Int) + 1))))) : Int).toNat)).bind fun bt346 => ((script_Show.f k l0).bind fun bt348 => ((wharfagelaw0_Num.f bt340.2).bind fun t350 => (if t350 = 0 then ((wharfagelaw0_Num.f bt346.2).bind fun t351 => (if t351 = 0 then (if bt340.1.size + bt346.1.size ≤ 9223372036854775807 then ((script_Parse.f k (bt340.1 ++ bt346.1)).bind fun bt352 => ((wharfagelaw0_Num.f bt348.2).bind fun t356 => (if t356 = 0 then (if bt348.1.toList = (bt340.1 ++ bt346.1).toList then ((wharfagelaw0_Num.f bt352.2).bind fun t357 => (if t357 = 0 then ((wharfagelaw0_SameActs.f k bt352.1 l0).bind fun t358 => (some t358)) else (none))) else (none)) else (none)))) else (none)) else ((wharfagelaw0_Num.f bt348.2).bind fun t359 => (if t359 = 2300 then (some (bt348.1.toList == ([] : List UInt8))) else (none))))) else ((wharfagelaw0_Num.f bt348.2).bind fun t360 => (if t360 = 2300 then (some (bt348.1.toList == ([] : List UInt8))) else (none)))))))) else (none)) else (none)))) = some r := by rw [if_pos rfl] at H; exact H
  clear H
  have H := H1
  clear H1
  by_cases c5 : (l0.length : Int) > 200
  ·rw [if_pos c5] at H
   have c5b0 : decide (200 < (l0.length : Int)) = true := decide_eq_true c5
   have c5b1 : decide (200 < l0.length) = true := decide_eq_true (by omega)
   clear c5
   obtain rfl := Option.some.inj H
   go_enter Tryd.func6, Tryd.ntmps6
   go_wp2_with (first | ((with_reducible refine gate_callee (f := 17) rfl ?_); refine goesL_ (some 14) rfl rfl Tryd.func17 (by kernel_rfl) rfl #[] rfl (by (try simp only [List.map_toArray, List.map_cons, List.map_nil]); first | done | rfl | (simp only [List.length_drop, List.length_take]; rfl)) ?_; (with_reducible refine (wharfagelaw23_awake.calls k  true _ (HT.out _ (by repeat (first | (with_reducible first | exact HB.out | apply below_alloc | apply pw_below_drewN | apply below_drew1) | exact HB.out))) A3.out).mono ?_); rintro e w6 ⟨rfl, hb⟩; refine ⟨_, rfl, ?_⟩; have n0_ := Aside0.mk (below_step (by repeat (first | (with_reducible first | exact HB.out | apply below_alloc | apply pw_below_drewN | apply below_drew1) | exact HB.out)) hb); clear HB; have HB := n0_; clear n0_; (try clear hb); (try clear hb2); (try clear hk); (try clear hi)))
   go_ret
   exact ⟨by first | rfl | (simp [errW_none, errW_some] <;> rfl) | (simp [*, errW_none, errW_some] <;> rfl), by repeat (first | (with_reducible first | exact HB.out | apply below_alloc | apply pw_below_drewN | apply below_drew1) | exact HB.out)⟩
  ·rw [if_neg c5] at H
   have c5b0 : decide (200 < (l0.length : Int)) = false := decide_eq_false c5
   have c5b1 : decide (200 < l0.length) = false := decide_eq_false (by omega)
   clear c5
   by_cases c7 : (IntKind.u64.wrap (wrap64 ((l0.length : Int) + 1))) = 0
   ·rw [if_pos c7] at H
    exact absurd H (by simp)
   ·rw [if_neg c7] at H
    have c7b0 : ((IntKind.u64.wrap (wrap64 ((l0.length : Int) + 1))) == 0) = false := beq_eq_false_iff_ne.mpr c7
    have c7b1 : ((IntKind.u64.wrap (wrap64 ((l0.length : Int) + 1))) != 0) = true := bne_iff_ne.mpr c7
    obtain ⟨ji8, hji8⟩ : ∃ j_ : Int, (wrap64 (Int.tmod (IntKind.u64.wrap (a1)) (IntKind.u64.wrap (wrap64 ((l0.length : Int) + 1))))) = j_ := ⟨_, rfl⟩
    replace H : (if 0 ≤ (ji8) then (if (ji8) ≤ (l0.length : Int) then ((script_Show.f k (l0.take ((ji8) : Int).toNat)).bind fun bt340 => ((script_Show.f k (l0.drop ((ji8) : Int).toNat)).bind fun bt346 => ((script_Show.f k l0).bind fun bt348 => ((wharfagelaw0_Num.f bt340.2).bind fun t350 => (if t350 = 0 then ((wharfagelaw0_Num.f bt346.2).bind fun t351 => (if t351 = 0 then (if bt340.1.size + bt346.1.size ≤ 9223372036854775807 then ((script_Parse.f k (bt340.1 ++ bt346.1)).bind fun bt352 => ((wharfagelaw0_Num.f bt348.2).bind fun t356 => (if t356 = 0 then (if bt348.1.toList = (bt340.1 ++ bt346.1).toList then ((wharfagelaw0_Num.f bt352.2).bind fun t357 => (if t357 = 0 then ((wharfagelaw0_SameActs.f k bt352.1 l0).bind fun t358 => (some t358)) else (none))) else (none)) else (none)))) else (none)) else ((wharfagelaw0_Num.f bt348.2).bind fun t359 => (if t359 = 2300 then (some (bt348.1.toList == ([] : List UInt8))) else (none))))) else ((wharfagelaw0_Num.f bt348.2).bind fun t360 => (if t360 = 2300 then (some (bt348.1.toList == ([] : List UInt8))) else (none)))))))) else (none)) else (none)) = some r := by first | (rw [hji8] at H; exact H) | (simp only [hji8] at H ⊢; exact H)
    (try rw [hji8] at A3)
    have hji8w : (IntKind.i64.wrap (Int.tmod (IntKind.u64.wrap (a1)) (IntKind.u64.wrap (wrap64 ((l0.length : Int) + 1))))) = ji8 := (i64_w _).trans hji8
    by_cases c9 : 0 ≤ (ji8)
    ·rw [if_pos c9] at H
     have c9b0 := eq_true c9
     have c9b1 : decide (0 ≤ (ji8)) = true := decide_eq_true c9
     clear c9
     by_cases c10 : (ji8) ≤ (l0.length : Int)
     ·rw [if_pos c10] at H
      have c10b0 := eq_true c10
      have c10b1 : decide ((ji8) ≤ (l0.length : Int)) = true := decide_eq_true c10
      clear c10
      obtain ⟨y336, hy336⟩ : ∃ y_ : List (S40), y_ = (l0.take ((ji8) : Int).toNat) := ⟨_, rfl⟩
      replace H : ((script_Show.f k y336).bind fun bt340 => ((script_Show.f k (l0.drop ((ji8) : Int).toNat)).bind fun bt346 => ((script_Show.f k l0).bind fun bt348 => ((wharfagelaw0_Num.f bt340.2).bind fun t350 => (if t350 = 0 then ((wharfagelaw0_Num.f bt346.2).bind fun t351 => (if t351 = 0 then (if bt340.1.size + bt346.1.size ≤ 9223372036854775807 then ((script_Parse.f k (bt340.1 ++ bt346.1)).bind fun bt352 => ((wharfagelaw0_Num.f bt348.2).bind fun t356 => (if t356 = 0 then (if bt348.1.toList = (bt340.1 ++ bt346.1).toList then ((wharfagelaw0_Num.f bt352.2).bind fun t357 => (if t357 = 0 then ((wharfagelaw0_SameActs.f k bt352.1 l0).bind fun t358 => (some t358)) else (none))) else (none)) else (none)))) else (none)) else ((wharfagelaw0_Num.f bt348.2).bind fun t359 => (if t359 = 2300 then (some (bt348.1.toList == ([] : List UInt8))) else (none))))) else ((wharfagelaw0_Num.f bt348.2).bind fun t360 => (if t360 = 2300 then (some (bt348.1.toList == ([] : List UInt8))) else (none)))))))) = some r := by first | (rw [hy336]; with_reducible exact H) | (have H2_ := (Option.bind_some _ _).symm.trans H; rw [hy336]; with_reducible exact H2_) | (have H2_ := (Option.bind_some _ _).symm.trans H; with_reducible exact H2_) | with_reducible exact H | (rw [hy336]; exact H) | exact H
      have Ny336 := Aside0.mk hy336
      clear hy336
      replace H := Option.bind_eq_some_iff.mp H
      obtain ⟨⟨t340, t341⟩, A110, H⟩ := H
      replace H : ((script_Show.f k (l0.drop ((ji8) : Int).toNat)).bind fun bt346 => ((script_Show.f k l0).bind fun bt348 => ((wharfagelaw0_Num.f t341).bind fun t350 => (if t350 = 0 then ((wharfagelaw0_Num.f bt346.2).bind fun t351 => (if t351 = 0 then (if t340.size + bt346.1.size ≤ 9223372036854775807 then ((script_Parse.f k (t340 ++ bt346.1)).bind fun bt352 => ((wharfagelaw0_Num.f bt348.2).bind fun t356 => (if t356 = 0 then (if bt348.1.toList = (t340 ++ bt346.1).toList then ((wharfagelaw0_Num.f bt352.2).bind fun t357 => (if t357 = 0 then ((wharfagelaw0_SameActs.f k bt352.1 l0).bind fun t358 => (some t358)) else (none))) else (none)) else (none)))) else (none)) else ((wharfagelaw0_Num.f bt348.2).bind fun t359 => (if t359 = 2300 then (some (bt348.1.toList == ([] : List UInt8))) else (none))))) else ((wharfagelaw0_Num.f bt348.2).bind fun t360 => (if t360 = 2300 then (some (bt348.1.toList == ([] : List UInt8))) else (none))))))) = some r := H
      have A11 := Aside0.mk A110
      clear A110
      have c12b0 := eq_true (of_decide_eq_true (by first | (with_reducible assumption) | assumption) : 0 ≤ (ji8))
      have c13b0 := eq_true (of_decide_eq_true (by first | (with_reducible assumption) | assumption) : (ji8) ≤ (l0.length : Int))
      obtain ⟨y342, hy342⟩ : ∃ y_ : List (S40), y_ = (l0.drop ((ji8) : Int).toNat) := ⟨_, rfl⟩
      replace H : ((script_Show.f k y342).bind fun bt346 => ((script_Show.f k l0).bind fun bt348 => ((wharfagelaw0_Num.f t341).bind fun t350 => (if t350 = 0 then ((wharfagelaw0_Num.f bt346.2).bind fun t351 => (if t351 = 0 then (if t340.size + bt346.1.size ≤ 9223372036854775807 then ((script_Parse.f k (t340 ++ bt346.1)).bind fun bt352 => ((wharfagelaw0_Num.f bt348.2).bind fun t356 => (if t356 = 0 then (if bt348.1.toList = (t340 ++ bt346.1).toList then ((wharfagelaw0_Num.f bt352.2).bind fun t357 => (if t357 = 0 then ((wharfagelaw0_SameActs.f k bt352.1 l0).bind fun t358 => (some t358)) else (none))) else (none)) else (none)))) else (none)) else ((wharfagelaw0_Num.f bt348.2).bind fun t359 => (if t359 = 2300 then (some (bt348.1.toList == ([] : List UInt8))) else (none))))) else ((wharfagelaw0_Num.f bt348.2).bind fun t360 => (if t360 = 2300 then (some (bt348.1.toList == ([] : List UInt8))) else (none))))))) = some r := by first | (rw [hy342]; with_reducible exact H) | (have H2_ := (Option.bind_some _ _).symm.trans H; rw [hy342]; with_reducible exact H2_) | (have H2_ := (Option.bind_some _ _).symm.trans H; with_reducible exact H2_) | with_reducible exact H | (rw [hy342]; exact H) | exact H
      have Ny342 := Aside0.mk hy342
      clear hy342
      replace H := Option.bind_eq_some_iff.mp H
      obtain ⟨⟨t346, t347⟩, A140, H⟩ := H
      replace H : ((script_Show.f k l0).bind fun bt348 => ((wharfagelaw0_Num.f t341).bind fun t350 => (if t350 = 0 then ((wharfagelaw0_Num.f t347).bind fun t351 => (if t351 = 0 then (if t340.size + t346.size ≤ 9223372036854775807 then ((script_Parse.f k (t340 ++ t346)).bind fun bt352 => ((wharfagelaw0_Num.f bt348.2).bind fun t356 => (if t356 = 0 then (if bt348.1.toList = (t340 ++ t346).toList then ((wharfagelaw0_Num.f bt352.2).bind fun t357 => (if t357 = 0 then ((wharfagelaw0_SameActs.f k bt352.1 l0).bind fun t358 => (some t358)) else (none))) else (none)) else (none)))) else (none)) else ((wharfagelaw0_Num.f bt348.2).bind fun t359 => (if t359 = 2300 then (some (bt348.1.toList == ([] : List UInt8))) else (none))))) else ((wharfagelaw0_Num.f bt348.2).bind fun t360 => (if t360 = 2300 then (some (bt348.1.toList == ([] : List UInt8))) else (none)))))) = some r := H
      have A14 := Aside0.mk A140
      clear A140
      replace H := Option.bind_eq_some_iff.mp H
      obtain ⟨⟨t348, t349⟩, A150, H⟩ := H
      replace H : ((wharfagelaw0_Num.f t341).bind fun t350 => (if t350 = 0 then ((wharfagelaw0_Num.f t347).bind fun t351 => (if t351 = 0 then (if t340.size + t346.size ≤ 9223372036854775807 then ((script_Parse.f k (t340 ++ t346)).bind fun bt352 => ((wharfagelaw0_Num.f t349).bind fun t356 => (if t356 = 0 then (if t348.toList = (t340 ++ t346).toList then ((wharfagelaw0_Num.f bt352.2).bind fun t357 => (if t357 = 0 then ((wharfagelaw0_SameActs.f k bt352.1 l0).bind fun t358 => (some t358)) else (none))) else (none)) else (none)))) else (none)) else ((wharfagelaw0_Num.f t349).bind fun t359 => (if t359 = 2300 then (some (t348.toList == ([] : List UInt8))) else (none))))) else ((wharfagelaw0_Num.f t349).bind fun t360 => (if t360 = 2300 then (some (t348.toList == ([] : List UInt8))) else (none))))) = some r := H
      have A15 := Aside0.mk A150
      clear A150
      replace H := Option.bind_eq_some_iff.mp H
      obtain ⟨t350, A160, H⟩ := H
      replace H : (if t350 = 0 then ((wharfagelaw0_Num.f t347).bind fun t351 => (if t351 = 0 then (if t340.size + t346.size ≤ 9223372036854775807 then ((script_Parse.f k (t340 ++ t346)).bind fun bt352 => ((wharfagelaw0_Num.f t349).bind fun t356 => (if t356 = 0 then (if t348.toList = (t340 ++ t346).toList then ((wharfagelaw0_Num.f bt352.2).bind fun t357 => (if t357 = 0 then ((wharfagelaw0_SameActs.f k bt352.1 l0).bind fun t358 => (some t358)) else (none))) else (none)) else (none)))) else (none)) else ((wharfagelaw0_Num.f t349).bind fun t359 => (if t359 = 2300 then (some (t348.toList == ([] : List UInt8))) else (none))))) else ((wharfagelaw0_Num.f t349).bind fun t360 => (if t360 = 2300 then (some (t348.toList == ([] : List UInt8))) else (none)))) = some r := H
      have A16 := Aside0.mk A160
      clear A160
      by_cases c17 : t350 = 0
      ·rw [if_pos c17] at H
       have c17b0 : (t350 == 0) = true := beq_iff_eq.mpr c17
       have c17b1 : (t350 != 0) = false := bne_eq_false_iff_eq.mpr c17
       clear c17
       replace H := Option.bind_eq_some_iff.mp H
       obtain ⟨t351, A180, H⟩ := H
       replace H : (if t351 = 0 then (if t340.size + t346.size ≤ 9223372036854775807 then ((script_Parse.f k (t340 ++ t346)).bind fun bt352 => ((wharfagelaw0_Num.f t349).bind fun t356 => (if t356 = 0 then (if t348.toList = (t340 ++ t346).toList then ((wharfagelaw0_Num.f bt352.2).bind fun t357 => (if t357 = 0 then ((wharfagelaw0_SameActs.f k bt352.1 l0).bind fun t358 => (some t358)) else (none))) else (none)) else (none)))) else (none)) else ((wharfagelaw0_Num.f t349).bind fun t359 => (if t359 = 2300 then (some (t348.toList == ([] : List UInt8))) else (none)))) = some r := H
       have A18 := Aside0.mk A180
       clear A180
       by_cases c19 : t351 = 0
       ·rw [if_pos c19] at H
        have c19b0 : (t351 == 0) = true := beq_iff_eq.mpr c19
        have c19b1 : (t351 != 0) = false := bne_eq_false_iff_eq.mpr c19
        clear c19
        by_cases c20 : t340.size + t346.size ≤ 9223372036854775807
        ·rw [if_pos c20] at H
         have c20b0 := eq_true c20
         have c20b1 : decide (t340.size + t346.size ≤ 9223372036854775807) = true := decide_eq_true c20
         try have c20b2 : (9223372036854775807 < t340.size + t346.size) = False := eq_false (Nat.not_lt.2 c20)
         replace H := Option.bind_eq_some_iff.mp H
         obtain ⟨⟨t352, t353⟩, A210, H⟩ := H
         replace H : ((wharfagelaw0_Num.f t349).bind fun t356 => (if t356 = 0 then (if t348.toList = (t340 ++ t346).toList then ((wharfagelaw0_Num.f t353).bind fun t357 => (if t357 = 0 then ((wharfagelaw0_SameActs.f k t352 l0).bind fun t358 => (some t358)) else (none))) else (none)) else (none))) = some r := H
         have A21 := Aside0.mk A210
         clear A210
         replace H := Option.bind_eq_some_iff.mp H
         obtain ⟨t356, A220, H⟩ := H
         replace H : (if t356 = 0 then (if t348.toList = (t340 ++ t346).toList then ((wharfagelaw0_Num.f t353).bind fun t357 => (if t357 = 0 then ((wharfagelaw0_SameActs.f k t352 l0).bind fun t358 => (some t358)) else (none))) else (none)) else (none)) = some r := H
         have A22 := Aside0.mk A220
         clear A220
         by_cases c23 : t356 = 0
         ·rw [if_pos c23] at H
          have c23b0 : (t356 == 0) = true := beq_iff_eq.mpr c23
          have c23b1 : (t356 != 0) = false := bne_eq_false_iff_eq.mpr c23
          clear c23
          by_cases c24 : t348.toList = (t340 ++ t346).toList
          ·rw [if_pos c24] at H
           have c24b0 : (t348.toList == (t340 ++ t346).toList) = true := beq_iff_eq.mpr c24
           have c24b1 : (t348.toList != (t340 ++ t346).toList) = false := bne_eq_false_iff_eq.mpr c24
           clear c24
           replace H := Option.bind_eq_some_iff.mp H
           obtain ⟨t357, A250, H⟩ := H
           replace H : (if t357 = 0 then ((wharfagelaw0_SameActs.f k t352 l0).bind fun t358 => (some t358)) else (none)) = some r := H
           have A25 := Aside0.mk A250
           clear A250
           by_cases c26 : t357 = 0
           ·rw [if_pos c26] at H
            have c26b0 : (t357 == 0) = true := beq_iff_eq.mpr c26
            have c26b1 : (t357 != 0) = false := bne_eq_false_iff_eq.mpr c26
            clear c26
            replace H := Option.bind_eq_some_iff.mp H
            obtain ⟨t358, A270, H⟩ := H
            replace H : (some t358) = some r := H
            have A27 := Aside0.mk A270
            clear A270
            obtain rfl := Option.some.inj H
            go_enter Tryd.func6, Tryd.ntmps6
            go_wp2_with (first | ((with_reducible refine gate_callee (f := 17) rfl ?_); refine goesL_ (some 14) rfl rfl Tryd.func17 (by kernel_rfl) rfl #[] rfl (by (try simp only [List.map_toArray, List.map_cons, List.map_nil]); first | done | rfl | (simp only [List.length_drop, List.length_take]; rfl)) ?_; (with_reducible refine (wharfagelaw23_awake.calls k  true _ (HT.out _ (by repeat (first | (with_reducible first | exact HB.out | apply below_alloc | apply pw_below_drewN | apply below_drew1) | exact HB.out))) A3.out).mono ?_); rintro e w28 ⟨rfl, hb⟩; refine ⟨_, rfl, ?_⟩; have n0_ := Aside0.mk (below_step (by repeat (first | (with_reducible first | exact HB.out | apply below_alloc | apply pw_below_drewN | apply below_drew1) | exact HB.out)) hb); clear HB; have HB := n0_; clear n0_; (try clear hb); (try clear hb2); (try clear hk); (try clear hi); have q29 : ((ji8) : Int) ≤ ((l0.length : Int) : Int) := of_decide_eq_true (by first | (with_reducible assumption) | assumption); obtain ⟨i029, hi029, _, hsz29, _⟩ := info_parts info40; have hroom29 : l0.length ≤ c0 := HC0.out; have hC29 : Kd.C k40 _ A0 l0.length l0 := HR0.out; have hcut29 := cut_to (P := Tryd.prog) 22 40 .i64 Tryd.underlying22 hi029 A0 l0.length c0 (ji8) (of_decide_eq_true (by first | (with_reducible assumption) | assumption)) q29 hroom29; have hr29 := Kd.C_take (m := ((ji8) : Int).toNat) hC29 (by omega); have hy29 : y336.length = ((ji8) : Int).toNat := (by rw [Ny336.out, List.length_take]; omega); rw [← Ny336.out] at hr29; rw [← hy29] at hcut29; have HR339 := Aside0.mk hr29; have HC339 := Aside0.mk (show y336.length ≤ c0 from by omega); clear hr29 hC29 hroom29 hi029 hsz29; have KY29 := Aside0.mk hy29; clear hy29; replace q29 := eq_true q29) | ((with_reducible refine gate_callee (f := 8) rfl ?_); refine goesL_ (some 31) rfl rfl Tryd.func8 (by kernel_rfl) rfl #[.slice A0 y336.length c0] rfl (by (try simp only [List.map_toArray, List.map_cons, List.map_nil]); first | done | rfl | (simp only [List.length_drop, List.length_take]; rfl)) ?_; (with_reducible refine (script_Show.calls k _ _ y336 t340 t341 _ ?side1 ?side2 (HT.out _ (by repeat (first | (with_reducible first | exact HB.out | apply below_alloc | apply pw_below_drewN | apply below_drew1) | exact HB.out))) A11.out).mono ?_); (case side1 => repeat (first | exact (Kd.C_below HR339.out HB.out) | (with_reducible refine Kd.C_alloc ?_ _) | (with_reducible refine Kd.C_drewN ?_ _) | (with_reducible refine Kd.C_drew ?_))); (case side2 => exact HC339.out); rintro e w30 ⟨rfl, hb⟩; refine ⟨_, rfl, ?_⟩; have n0_ := Aside0.mk (below_step (by repeat (first | (with_reducible first | exact HB.out | apply below_alloc | apply pw_below_drewN | apply below_drew1) | exact HB.out)) hb); clear HB; have HB := n0_; clear n0_; (try clear hb); (try clear hb2); (try clear hk); (try clear hi); have q31 : ((ji8) : Int) ≤ ((l0.length : Int) : Int) := of_decide_eq_true (by first | (with_reducible assumption) | assumption); obtain ⟨i031, hi031, _, hsz31, _⟩ := info_parts info40; have hroom31 : l0.length ≤ c0 := HC0.out; have hC31 : Kd.C k40 _ A0 l0.length l0 := HR0.out; have q031 : (0 : Int) ≤ ((ji8) : Int) := of_decide_eq_true (by first | (with_reducible assumption) | assumption); have hcut31 := cut_from (P := Tryd.prog) 22 40 .i64 Tryd.underlying22 hi031 10 hsz31 A0 l0.length c0 (ji8) q031 q31; have hr31 := Kd.C_drop (m := ((ji8) : Int).toNat) (c := c0) hC31 (by omega) hroom31; obtain ⟨A31, hA31⟩ : ∃ A1, A1 = (if c0 = ((ji8) : Int).toNat then A0 else (A0 : Option Addr).map (·.add (((ji8) : Int).toNat * 10))) := ⟨_, rfl⟩; obtain ⟨c31, hc31⟩ : ∃ c1, c1 = c0 - ((ji8) : Int).toNat := ⟨_, rfl⟩; have hy31 : y342.length = l0.length - ((ji8) : Int).toNat := (by rw [Ny342.out, List.length_drop] <;> omega); rw [show (l0).drop ((ji8) : Int).toNat = y342 from Ny342.out.symm] at hr31; replace hr31 : Kd.C k40 _ A31 y342.length y342 := (by rw [hA31]; exact hr31); rw [← hy31, ← hA31, ← hc31] at hcut31; have HR345 := Aside0.mk hr31; have HC345 := Aside0.mk (show y342.length ≤ c31 from by rw [hy31, hc31]; exact Nat.sub_le_sub_right hroom31 _); clear hr31 hC31 hroom31 hi031 hsz31 hc31; have KY31 := Aside0.mk hy31; have KA31 := Aside0.mk hA31; clear hy31 hA31; replace q31 := eq_true q31) | ((with_reducible refine gate_callee (f := 8) rfl ?_); refine goesL_ (some 38) rfl rfl Tryd.func8 (by kernel_rfl) rfl #[.slice A31 y342.length c31] rfl (by (try simp only [List.map_toArray, List.map_cons, List.map_nil]); first | done | rfl | (simp only [List.length_drop, List.length_take]; rfl)) ?_; (with_reducible refine (script_Show.calls k _ _ y342 t346 t347 _ ?side1 ?side2 (HT.out _ (by repeat (first | (with_reducible first | exact HB.out | apply below_alloc | apply pw_below_drewN | apply below_drew1) | exact HB.out))) A14.out).mono ?_); (case side1 => repeat (first | exact (Kd.C_below HR345.out HB.out) | (with_reducible refine Kd.C_alloc ?_ _) | (with_reducible refine Kd.C_drewN ?_ _) | (with_reducible refine Kd.C_drew ?_))); (case side2 => exact HC345.out); rintro e w32 ⟨rfl, hb⟩; refine ⟨_, rfl, ?_⟩; have n0_ := Aside0.mk (below_step (by repeat (first | (with_reducible first | exact HB.out | apply below_alloc | apply pw_below_drewN | apply below_drew1) | exact HB.out)) hb); clear HB; have HB := n0_; clear n0_; (try clear hb); (try clear hb2); (try clear hk); (try clear hi)) | ((with_reducible refine gate_callee (f := 8) rfl ?_); refine goesL_ (some 43) rfl rfl Tryd.func8 (by kernel_rfl) rfl #[.slice A0 l0.length c0] rfl (by (try simp only [List.map_toArray, List.map_cons, List.map_nil]); first | done | rfl | (simp only [List.length_drop, List.length_take]; rfl)) ?_; (with_reducible refine (script_Show.calls k _ _ l0 t348 t349 _ ?side1 ?side2 (HT.out _ (by repeat (first | (with_reducible first | exact HB.out | apply below_alloc | apply pw_below_drewN | apply below_drew1) | exact HB.out))) A15.out).mono ?_); (case side1 => repeat (first | exact (Kd.C_below HR0.out HB.out) | (with_reducible refine Kd.C_alloc ?_ _) | (with_reducible refine Kd.C_drewN ?_ _) | (with_reducible refine Kd.C_drew ?_))); (case side2 => exact HC0.out); rintro e w33 ⟨rfl, hb⟩; refine ⟨_, rfl, ?_⟩; have n0_ := Aside0.mk (below_step (by repeat (first | (with_reducible first | exact HB.out | apply below_alloc | apply pw_below_drewN | apply below_drew1) | exact HB.out)) hb); clear HB; have HB := n0_; clear n0_; (try clear hb); (try clear hb2); (try clear hk); (try clear hi)) | ((with_reducible refine gate_callee (f := 12) rfl ?_); refine goesL_ (some 47) rfl rfl Tryd.func12 (by kernel_rfl) rfl #[.int .i64 t341] rfl (by (try simp only [List.map_toArray, List.map_cons, List.map_nil]); first | done | rfl | (simp only [List.length_drop, List.length_take]; rfl)) ?_; (with_reducible refine (wharfagelaw0_Num.calls t341 t350 _ A16.out).mono ?_); rintro e w' ⟨rfl, ⟨nd, rfl⟩⟩; refine ⟨_, rfl, ?_⟩) | (go_at_call 12; (with_reducible refine (wharfagelaw0_Num.calls t347 t351 _ A18.out).mono ?_); rintro e w' ⟨rfl, ⟨nd, rfl⟩⟩) | ((with_reducible refine gate_callee (f := 10) rfl ?_); refine goesL_ (some 65) rfl rfl Tryd.func10 (by kernel_rfl) rfl #[.string (t340 ++ t346)] rfl (by (try simp only [List.map_toArray, List.map_cons, List.map_nil]); first | done | rfl | (simp only [List.length_drop, List.length_take]; rfl)) ?_; (with_reducible refine (script_Parse.calls k (t340 ++ t346) t352 t353 _ (HT.out _ (by repeat (first | (with_reducible first | exact HB.out | apply below_alloc | apply pw_below_drewN | apply below_drew1) | exact HB.out))) A21.out).mono ?_); rintro e w34 ⟨v354, rfl, ho0, hb⟩; refine ⟨_, rfl, ?_⟩; have n0_ := Aside0.mk (Kd.R_lower ho0 (below_size (by repeat (first | (with_reducible first | exact HB.out | apply below_alloc | apply pw_below_drewN | apply below_drew1) | exact HB.out)))); have n1_ := Aside0.mk (below_step (by repeat (first | (with_reducible first | exact HB.out | apply below_alloc | apply pw_below_drewN | apply below_drew1) | exact HB.out)) hb); clear HB; have O0 := n0_; have HB := n1_; clear n0_ n1_; (try clear hb); (try clear hb2); (try clear hk); (try clear hi); (try clear ho0)) | ((with_reducible refine gate_callee (f := 12) rfl ?_); refine goesL_ (some 69) rfl rfl Tryd.func12 (by kernel_rfl) rfl #[.int .i64 t349] rfl (by (try simp only [List.map_toArray, List.map_cons, List.map_nil]); first | done | rfl | (simp only [List.length_drop, List.length_take]; rfl)) ?_; (with_reducible refine (wharfagelaw0_Num.calls t349 t356 _ A22.out).mono ?_); rintro e w' ⟨rfl, ⟨nd, rfl⟩⟩; refine ⟨_, rfl, ?_⟩) | (go_at_call 12; (with_reducible refine (wharfagelaw0_Num.calls t353 t357 _ A25.out).mono ?_); rintro e w' ⟨rfl, ⟨nd, rfl⟩⟩; obtain ⟨Ao35, co35, eo35⟩ := Kd.R_slice O0.out; subst eo35) | (go_at_call 13; (with_reducible refine (wharfagelaw0_SameActs.calls k _ _ t352 _ _ l0 t358 _ ?side1 ?side2 ?side3 ?side4 A27.out).mono ?_); (case side1 => repeat (first | exact (Kd.R_reads' O0.out).2.2 | (with_reducible refine Kd.C_alloc ?_ _) | (with_reducible refine Kd.C_drewN ?_ _) | (with_reducible refine Kd.C_drew ?_))); (case side2 => exact (Kd.R_reads' O0.out).2.1); (case side3 => repeat (first | exact (Kd.C_below HR0.out (by repeat (first | (with_reducible first | exact HB.out | apply below_alloc | apply pw_below_drewN | apply below_drew1) | exact HB.out))) | (with_reducible refine Kd.C_alloc ?_ _) | (with_reducible refine Kd.C_drewN ?_ _) | (with_reducible refine Kd.C_drew ?_))); (case side4 => exact HC0.out); rintro e w36 ⟨rfl, hb⟩; have n0_ := Aside0.mk (Kd.R_below (by (with_reducible repeat (first | apply Kd.R_alloc | apply Kd.R_drewN | apply Kd.R_drew)); exact O0.out) hb); have n1_ := Aside0.mk (below_step (by repeat (first | (with_reducible first | exact HB.out | apply below_alloc | apply pw_below_drewN | apply below_drew1) | exact HB.out)) hb); clear O0; clear HB; have O0 := n0_; have HB := n1_; clear n0_ n1_; (try clear hb); (try clear hb2); (try clear hk); (try clear hi)))
            go_ret
            exact ⟨by first | rfl | (simp [errW_none, errW_some] <;> rfl) | (simp only [← hji8]; first | rfl | (simp [errW_none, errW_some] <;> rfl)) | (simp [*, errW_none, errW_some] <;> rfl), by repeat (first | (with_reducible first | exact HB.out | apply below_alloc | apply pw_below_drewN | apply below_drew1) | exact HB.out)⟩
           ·rw [if_neg c26] at H
            exact absurd H (by simp)
          ·rw [if_neg c24] at H
           exact absurd H (by simp)
         ·rw [if_neg c23] at H
          exact absurd H (by simp)
        ·rw [if_neg c20] at H
         exact absurd H (by simp)
       ·rw [if_neg c19] at H
        have c19b0 : (t351 == 0) = false := beq_eq_false_iff_ne.mpr c19
        have c19b1 : (t351 != 0) = true := bne_iff_ne.mpr c19
        replace H := Option.bind_eq_some_iff.mp H
        obtain ⟨t359, A370, H⟩ := H
        replace H : (if t359 = 2300 then (some (t348.toList == ([] : List UInt8))) else (none)) = some r := H
        have A37 := Aside0.mk A370
        clear A370
        by_cases c38 : t359 = 2300
        ·rw [if_pos c38] at H
         have c38b0 : (t359 == 2300) = true := beq_iff_eq.mpr c38
         have c38b1 : (t359 != 2300) = false := bne_eq_false_iff_eq.mpr c38
         clear c38
         obtain rfl := Option.some.inj H
         go_enter Tryd.func6, Tryd.ntmps6
         go_wp2_with (first | ((with_reducible refine gate_callee (f := 17) rfl ?_); refine goesL_ (some 14) rfl rfl Tryd.func17 (by kernel_rfl) rfl #[] rfl (by (try simp only [List.map_toArray, List.map_cons, List.map_nil]); first | done | rfl | (simp only [List.length_drop, List.length_take]; rfl)) ?_; (with_reducible refine (wharfagelaw23_awake.calls k  true _ (HT.out _ (by repeat (first | (with_reducible first | exact HB.out | apply below_alloc | apply pw_below_drewN | apply below_drew1) | exact HB.out))) A3.out).mono ?_); rintro e w39 ⟨rfl, hb⟩; refine ⟨_, rfl, ?_⟩; have n0_ := Aside0.mk (below_step (by repeat (first | (with_reducible first | exact HB.out | apply below_alloc | apply pw_below_drewN | apply below_drew1) | exact HB.out)) hb); clear HB; have HB := n0_; clear n0_; (try clear hb); (try clear hb2); (try clear hk); (try clear hi); have q40 : ((ji8) : Int) ≤ ((l0.length : Int) : Int) := of_decide_eq_true (by first | (with_reducible assumption) | assumption); obtain ⟨i040, hi040, _, hsz40, _⟩ := info_parts info40; have hroom40 : l0.length ≤ c0 := HC0.out; have hC40 : Kd.C k40 _ A0 l0.length l0 := HR0.out; have hcut40 := cut_to (P := Tryd.prog) 22 40 .i64 Tryd.underlying22 hi040 A0 l0.length c0 (ji8) (of_decide_eq_true (by first | (with_reducible assumption) | assumption)) q40 hroom40; have hr40 := Kd.C_take (m := ((ji8) : Int).toNat) hC40 (by omega); have hy40 : y336.length = ((ji8) : Int).toNat := (by rw [Ny336.out, List.length_take]; omega); rw [← Ny336.out] at hr40; rw [← hy40] at hcut40; have HR339 := Aside0.mk hr40; have HC339 := Aside0.mk (show y336.length ≤ c0 from by omega); clear hr40 hC40 hroom40 hi040 hsz40; have KY40 := Aside0.mk hy40; clear hy40; replace q40 := eq_true q40) | ((with_reducible refine gate_callee (f := 8) rfl ?_); refine goesL_ (some 31) rfl rfl Tryd.func8 (by kernel_rfl) rfl #[.slice A0 y336.length c0] rfl (by (try simp only [List.map_toArray, List.map_cons, List.map_nil]); first | done | rfl | (simp only [List.length_drop, List.length_take]; rfl)) ?_; (with_reducible refine (script_Show.calls k _ _ y336 t340 t341 _ ?side1 ?side2 (HT.out _ (by repeat (first | (with_reducible first | exact HB.out | apply below_alloc | apply pw_below_drewN | apply below_drew1) | exact HB.out))) A11.out).mono ?_); (case side1 => repeat (first | exact (Kd.C_below HR339.out HB.out) | (with_reducible refine Kd.C_alloc ?_ _) | (with_reducible refine Kd.C_drewN ?_ _) | (with_reducible refine Kd.C_drew ?_))); (case side2 => exact HC339.out); rintro e w41 ⟨rfl, hb⟩; refine ⟨_, rfl, ?_⟩; have n0_ := Aside0.mk (below_step (by repeat (first | (with_reducible first | exact HB.out | apply below_alloc | apply pw_below_drewN | apply below_drew1) | exact HB.out)) hb); clear HB; have HB := n0_; clear n0_; (try clear hb); (try clear hb2); (try clear hk); (try clear hi); have q42 : ((ji8) : Int) ≤ ((l0.length : Int) : Int) := of_decide_eq_true (by first | (with_reducible assumption) | assumption); obtain ⟨i042, hi042, _, hsz42, _⟩ := info_parts info40; have hroom42 : l0.length ≤ c0 := HC0.out; have hC42 : Kd.C k40 _ A0 l0.length l0 := HR0.out; have q042 : (0 : Int) ≤ ((ji8) : Int) := of_decide_eq_true (by first | (with_reducible assumption) | assumption); have hcut42 := cut_from (P := Tryd.prog) 22 40 .i64 Tryd.underlying22 hi042 10 hsz42 A0 l0.length c0 (ji8) q042 q42; have hr42 := Kd.C_drop (m := ((ji8) : Int).toNat) (c := c0) hC42 (by omega) hroom42; obtain ⟨A42, hA42⟩ : ∃ A1, A1 = (if c0 = ((ji8) : Int).toNat then A0 else (A0 : Option Addr).map (·.add (((ji8) : Int).toNat * 10))) := ⟨_, rfl⟩; obtain ⟨c42, hc42⟩ : ∃ c1, c1 = c0 - ((ji8) : Int).toNat := ⟨_, rfl⟩; have hy42 : y342.length = l0.length - ((ji8) : Int).toNat := (by rw [Ny342.out, List.length_drop] <;> omega); rw [show (l0).drop ((ji8) : Int).toNat = y342 from Ny342.out.symm] at hr42; replace hr42 : Kd.C k40 _ A42 y342.length y342 := (by rw [hA42]; exact hr42); rw [← hy42, ← hA42, ← hc42] at hcut42; have HR345 := Aside0.mk hr42; have HC345 := Aside0.mk (show y342.length ≤ c42 from by rw [hy42, hc42]; exact Nat.sub_le_sub_right hroom42 _); clear hr42 hC42 hroom42 hi042 hsz42 hc42; have KY42 := Aside0.mk hy42; have KA42 := Aside0.mk hA42; clear hy42 hA42; replace q42 := eq_true q42) | ((with_reducible refine gate_callee (f := 8) rfl ?_); refine goesL_ (some 38) rfl rfl Tryd.func8 (by kernel_rfl) rfl #[.slice A42 y342.length c42] rfl (by (try simp only [List.map_toArray, List.map_cons, List.map_nil]); first | done | rfl | (simp only [List.length_drop, List.length_take]; rfl)) ?_; (with_reducible refine (script_Show.calls k _ _ y342 t346 t347 _ ?side1 ?side2 (HT.out _ (by repeat (first | (with_reducible first | exact HB.out | apply below_alloc | apply pw_below_drewN | apply below_drew1) | exact HB.out))) A14.out).mono ?_); (case side1 => repeat (first | exact (Kd.C_below HR345.out HB.out) | (with_reducible refine Kd.C_alloc ?_ _) | (with_reducible refine Kd.C_drewN ?_ _) | (with_reducible refine Kd.C_drew ?_))); (case side2 => exact HC345.out); rintro e w43 ⟨rfl, hb⟩; refine ⟨_, rfl, ?_⟩; have n0_ := Aside0.mk (below_step (by repeat (first | (with_reducible first | exact HB.out | apply below_alloc | apply pw_below_drewN | apply below_drew1) | exact HB.out)) hb); clear HB; have HB := n0_; clear n0_; (try clear hb); (try clear hb2); (try clear hk); (try clear hi)) | ((with_reducible refine gate_callee (f := 8) rfl ?_); refine goesL_ (some 43) rfl rfl Tryd.func8 (by kernel_rfl) rfl #[.slice A0 l0.length c0] rfl (by (try simp only [List.map_toArray, List.map_cons, List.map_nil]); first | done | rfl | (simp only [List.length_drop, List.length_take]; rfl)) ?_; (with_reducible refine (script_Show.calls k _ _ l0 t348 t349 _ ?side1 ?side2 (HT.out _ (by repeat (first | (with_reducible first | exact HB.out | apply below_alloc | apply pw_below_drewN | apply below_drew1) | exact HB.out))) A15.out).mono ?_); (case side1 => repeat (first | exact (Kd.C_below HR0.out HB.out) | (with_reducible refine Kd.C_alloc ?_ _) | (with_reducible refine Kd.C_drewN ?_ _) | (with_reducible refine Kd.C_drew ?_))); (case side2 => exact HC0.out); rintro e w44 ⟨rfl, hb⟩; refine ⟨_, rfl, ?_⟩; have n0_ := Aside0.mk (below_step (by repeat (first | (with_reducible first | exact HB.out | apply below_alloc | apply pw_below_drewN | apply below_drew1) | exact HB.out)) hb); clear HB; have HB := n0_; clear n0_; (try clear hb); (try clear hb2); (try clear hk); (try clear hi)) | ((with_reducible refine gate_callee (f := 12) rfl ?_); refine goesL_ (some 47) rfl rfl Tryd.func12 (by kernel_rfl) rfl #[.int .i64 t341] rfl (by (try simp only [List.map_toArray, List.map_cons, List.map_nil]); first | done | rfl | (simp only [List.length_drop, List.length_take]; rfl)) ?_; (with_reducible refine (wharfagelaw0_Num.calls t341 t350 _ A16.out).mono ?_); rintro e w' ⟨rfl, ⟨nd, rfl⟩⟩; refine ⟨_, rfl, ?_⟩) | (go_at_call 12; (with_reducible refine (wharfagelaw0_Num.calls t347 t351 _ A18.out).mono ?_); rintro e w' ⟨rfl, ⟨nd, rfl⟩⟩) | ((with_reducible refine gate_callee (f := 12) rfl ?_); refine goesL_ (some 55) rfl rfl Tryd.func12 (by kernel_rfl) rfl #[.int .i64 t349] rfl (by (try simp only [List.map_toArray, List.map_cons, List.map_nil]); first | done | rfl | (simp only [List.length_drop, List.length_take]; rfl)) ?_; (with_reducible refine (wharfagelaw0_Num.calls t349 t359 _ A37.out).mono ?_); rintro e w' ⟨rfl, ⟨nd, rfl⟩⟩; refine ⟨_, rfl, ?_⟩))
         go_ret
         exact ⟨by first | rfl | (simp [errW_none, errW_some] <;> rfl) | (simp only [← hji8]; first | rfl | (simp [errW_none, errW_some] <;> rfl)) | (simp [*, errW_none, errW_some] <;> rfl), by repeat (first | (with_reducible first | exact HB.out | apply below_alloc | apply pw_below_drewN | apply below_drew1) | exact HB.out)⟩
        ·rw [if_neg c38] at H
         exact absurd H (by simp)
      ·rw [if_neg c17] at H
       have c17b0 : (t350 == 0) = false := beq_eq_false_iff_ne.mpr c17
       have c17b1 : (t350 != 0) = true := bne_iff_ne.mpr c17
       replace H := Option.bind_eq_some_iff.mp H
       obtain ⟨t360, A450, H⟩ := H
       replace H : (if t360 = 2300 then (some (t348.toList == ([] : List UInt8))) else (none)) = some r := H
       have A45 := Aside0.mk A450
       clear A450
       by_cases c46 : t360 = 2300
       ·rw [if_pos c46] at H
        have c46b0 : (t360 == 2300) = true := beq_iff_eq.mpr c46
        have c46b1 : (t360 != 2300) = false := bne_eq_false_iff_eq.mpr c46
        clear c46
        obtain rfl := Option.some.inj H
        go_enter Tryd.func6, Tryd.ntmps6
        go_wp2_with (first | ((with_reducible refine gate_callee (f := 17) rfl ?_); refine goesL_ (some 14) rfl rfl Tryd.func17 (by kernel_rfl) rfl #[] rfl (by (try simp only [List.map_toArray, List.map_cons, List.map_nil]); first | done | rfl | (simp only [List.length_drop, List.length_take]; rfl)) ?_; (with_reducible refine (wharfagelaw23_awake.calls k  true _ (HT.out _ (by repeat (first | (with_reducible first | exact HB.out | apply below_alloc | apply pw_below_drewN | apply below_drew1) | exact HB.out))) A3.out).mono ?_); rintro e w47 ⟨rfl, hb⟩; refine ⟨_, rfl, ?_⟩; have n0_ := Aside0.mk (below_step (by repeat (first | (with_reducible first | exact HB.out | apply below_alloc | apply pw_below_drewN | apply below_drew1) | exact HB.out)) hb); clear HB; have HB := n0_; clear n0_; (try clear hb); (try clear hb2); (try clear hk); (try clear hi); have q48 : ((ji8) : Int) ≤ ((l0.length : Int) : Int) := of_decide_eq_true (by first | (with_reducible assumption) | assumption); obtain ⟨i048, hi048, _, hsz48, _⟩ := info_parts info40; have hroom48 : l0.length ≤ c0 := HC0.out; have hC48 : Kd.C k40 _ A0 l0.length l0 := HR0.out; have hcut48 := cut_to (P := Tryd.prog) 22 40 .i64 Tryd.underlying22 hi048 A0 l0.length c0 (ji8) (of_decide_eq_true (by first | (with_reducible assumption) | assumption)) q48 hroom48; have hr48 := Kd.C_take (m := ((ji8) : Int).toNat) hC48 (by omega); have hy48 : y336.length = ((ji8) : Int).toNat := (by rw [Ny336.out, List.length_take]; omega); rw [← Ny336.out] at hr48; rw [← hy48] at hcut48; have HR339 := Aside0.mk hr48; have HC339 := Aside0.mk (show y336.length ≤ c0 from by omega); clear hr48 hC48 hroom48 hi048 hsz48; have KY48 := Aside0.mk hy48; clear hy48; replace q48 := eq_true q48) | ((with_reducible refine gate_callee (f := 8) rfl ?_); refine goesL_ (some 31) rfl rfl Tryd.func8 (by kernel_rfl) rfl #[.slice A0 y336.length c0] rfl (by (try simp only [List.map_toArray, List.map_cons, List.map_nil]); first | done | rfl | (simp only [List.length_drop, List.length_take]; rfl)) ?_; (with_reducible refine (script_Show.calls k _ _ y336 t340 t341 _ ?side1 ?side2 (HT.out _ (by repeat (first | (with_reducible first | exact HB.out | apply below_alloc | apply pw_below_drewN | apply below_drew1) | exact HB.out))) A11.out).mono ?_); (case side1 => repeat (first | exact (Kd.C_below HR339.out HB.out) | (with_reducible refine Kd.C_alloc ?_ _) | (with_reducible refine Kd.C_drewN ?_ _) | (with_reducible refine Kd.C_drew ?_))); (case side2 => exact HC339.out); rintro e w49 ⟨rfl, hb⟩; refine ⟨_, rfl, ?_⟩; have n0_ := Aside0.mk (below_step (by repeat (first | (with_reducible first | exact HB.out | apply below_alloc | apply pw_below_drewN | apply below_drew1) | exact HB.out)) hb); clear HB; have HB := n0_; clear n0_; (try clear hb); (try clear hb2); (try clear hk); (try clear hi); have q50 : ((ji8) : Int) ≤ ((l0.length : Int) : Int) := of_decide_eq_true (by first | (with_reducible assumption) | assumption); obtain ⟨i050, hi050, _, hsz50, _⟩ := info_parts info40; have hroom50 : l0.length ≤ c0 := HC0.out; have hC50 : Kd.C k40 _ A0 l0.length l0 := HR0.out; have q050 : (0 : Int) ≤ ((ji8) : Int) := of_decide_eq_true (by first | (with_reducible assumption) | assumption); have hcut50 := cut_from (P := Tryd.prog) 22 40 .i64 Tryd.underlying22 hi050 10 hsz50 A0 l0.length c0 (ji8) q050 q50; have hr50 := Kd.C_drop (m := ((ji8) : Int).toNat) (c := c0) hC50 (by omega) hroom50; obtain ⟨A50, hA50⟩ : ∃ A1, A1 = (if c0 = ((ji8) : Int).toNat then A0 else (A0 : Option Addr).map (·.add (((ji8) : Int).toNat * 10))) := ⟨_, rfl⟩; obtain ⟨c50, hc50⟩ : ∃ c1, c1 = c0 - ((ji8) : Int).toNat := ⟨_, rfl⟩; have hy50 : y342.length = l0.length - ((ji8) : Int).toNat := (by rw [Ny342.out, List.length_drop] <;> omega); rw [show (l0).drop ((ji8) : Int).toNat = y342 from Ny342.out.symm] at hr50; replace hr50 : Kd.C k40 _ A50 y342.length y342 := (by rw [hA50]; exact hr50); rw [← hy50, ← hA50, ← hc50] at hcut50; have HR345 := Aside0.mk hr50; have HC345 := Aside0.mk (show y342.length ≤ c50 from by rw [hy50, hc50]; exact Nat.sub_le_sub_right hroom50 _); clear hr50 hC50 hroom50 hi050 hsz50 hc50; have KY50 := Aside0.mk hy50; have KA50 := Aside0.mk hA50; clear hy50 hA50; replace q50 := eq_true q50) | ((with_reducible refine gate_callee (f := 8) rfl ?_); refine goesL_ (some 38) rfl rfl Tryd.func8 (by kernel_rfl) rfl #[.slice A50 y342.length c50] rfl (by (try simp only [List.map_toArray, List.map_cons, List.map_nil]); first | done | rfl | (simp only [List.length_drop, List.length_take]; rfl)) ?_; (with_reducible refine (script_Show.calls k _ _ y342 t346 t347 _ ?side1 ?side2 (HT.out _ (by repeat (first | (with_reducible first | exact HB.out | apply below_alloc | apply pw_below_drewN | apply below_drew1) | exact HB.out))) A14.out).mono ?_); (case side1 => repeat (first | exact (Kd.C_below HR345.out HB.out) | (with_reducible refine Kd.C_alloc ?_ _) | (with_reducible refine Kd.C_drewN ?_ _) | (with_reducible refine Kd.C_drew ?_))); (case side2 => exact HC345.out); rintro e w51 ⟨rfl, hb⟩; refine ⟨_, rfl, ?_⟩; have n0_ := Aside0.mk (below_step (by repeat (first | (with_reducible first | exact HB.out | apply below_alloc | apply pw_below_drewN | apply below_drew1) | exact HB.out)) hb); clear HB; have HB := n0_; clear n0_; (try clear hb); (try clear hb2); (try clear hk); (try clear hi)) | ((with_reducible refine gate_callee (f := 8) rfl ?_); refine goesL_ (some 43) rfl rfl Tryd.func8 (by kernel_rfl) rfl #[.slice A0 l0.length c0] rfl (by (try simp only [List.map_toArray, List.map_cons, List.map_nil]); first | done | rfl | (simp only [List.length_drop, List.length_take]; rfl)) ?_; (with_reducible refine (script_Show.calls k _ _ l0 t348 t349 _ ?side1 ?side2 (HT.out _ (by repeat (first | (with_reducible first | exact HB.out | apply below_alloc | apply pw_below_drewN | apply below_drew1) | exact HB.out))) A15.out).mono ?_); (case side1 => repeat (first | exact (Kd.C_below HR0.out HB.out) | (with_reducible refine Kd.C_alloc ?_ _) | (with_reducible refine Kd.C_drewN ?_ _) | (with_reducible refine Kd.C_drew ?_))); (case side2 => exact HC0.out); rintro e w52 ⟨rfl, hb⟩; refine ⟨_, rfl, ?_⟩; have n0_ := Aside0.mk (below_step (by repeat (first | (with_reducible first | exact HB.out | apply below_alloc | apply pw_below_drewN | apply below_drew1) | exact HB.out)) hb); clear HB; have HB := n0_; clear n0_; (try clear hb); (try clear hb2); (try clear hk); (try clear hi)) | ((with_reducible refine gate_callee (f := 12) rfl ?_); refine goesL_ (some 47) rfl rfl Tryd.func12 (by kernel_rfl) rfl #[.int .i64 t341] rfl (by (try simp only [List.map_toArray, List.map_cons, List.map_nil]); first | done | rfl | (simp only [List.length_drop, List.length_take]; rfl)) ?_; (with_reducible refine (wharfagelaw0_Num.calls t341 t350 _ A16.out).mono ?_); rintro e w' ⟨rfl, ⟨nd, rfl⟩⟩; refine ⟨_, rfl, ?_⟩) | ((with_reducible refine gate_callee (f := 12) rfl ?_); refine goesL_ (some 55) rfl rfl Tryd.func12 (by kernel_rfl) rfl #[.int .i64 t349] rfl (by (try simp only [List.map_toArray, List.map_cons, List.map_nil]); first | done | rfl | (simp only [List.length_drop, List.length_take]; rfl)) ?_; (with_reducible refine (wharfagelaw0_Num.calls t349 t360 _ A45.out).mono ?_); rintro e w' ⟨rfl, ⟨nd, rfl⟩⟩; refine ⟨_, rfl, ?_⟩))
        go_ret
        exact ⟨by first | rfl | (simp [errW_none, errW_some] <;> rfl) | (simp only [← hji8]; first | rfl | (simp [errW_none, errW_some] <;> rfl)) | (simp [*, errW_none, errW_some] <;> rfl), by repeat (first | (with_reducible first | exact HB.out | apply below_alloc | apply pw_below_drewN | apply below_drew1) | exact HB.out)⟩
       ·rw [if_neg c46] at H
        exact absurd H (by simp)
     ·rw [if_neg c10] at H
      exact absurd H (by simp)
    ·rw [if_neg c9] at H
     exact absurd H (by simp)
 ·replace c4 := Bool.eq_false_iff.mpr c4
  subst c4
  have H1 : (none) = some r := by rw [if_neg (show ¬ (false = true) by decide)] at H; exact H
  clear H
  have H := H1
  clear H1
  exact absurd H (by simp)

end Go.Proofs.YtnojgkiaolmoeaaDoor.PSc
end
