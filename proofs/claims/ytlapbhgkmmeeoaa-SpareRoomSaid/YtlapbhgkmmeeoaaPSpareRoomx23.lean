/- Contracts: what calls of these functions of the program do, each as a plain function; written by a program of this session. -/
import Derived.Test.YtlapbhgkmmeeoaaPSpareRoomx0
import Derived.Test.YtlapbhgkmmeeoaaPSpareRoomx5
import Derived.Test.YtlapbhgkmmeeoaaPSpareRoomx6
import Derived.Test.YtlapbhgkmmeeoaaPSpareRoomx16
import Derived.Test.YtlapbhgkmmeeoaaPSpareRoomx22
namespace Go.Proofs.Ytlapbhgkmmeeoaa.PSpareRoom
open Go.RowKit Go.Proofs.YtlapbhgkmmeeoaaW.PrintWords Go.Proofs.YtlapbhgkmmeeoaaW.PrintLast Go.Proofs.YtlapbhgkmmeeoaaW.PrintMore
attribute [local go_sem] max2_int min2_int max_two min_two max_three min_three max_four min_four   -- for this text's walks alone
set_option linter.unusedVariables false
set_option linter.unusedSimpArgs false

/-! ### spare_Targets: function 8, by hand -/
def tgOne (a0 i : Int) (x : S53) (s : Int × Bool × Int) : List S70 := if i ≠ a0 ∧ x.f1 = false ∧ 0 < x.f0 ∧ s.2.1 = true ∧ 0 < s.1 then [⟨i, mn s.1 16⟩] else []
def tgL (k : Nat) (l2 : List S53) (l4 : List S91) (a0 now : Int) : Nat → Option (List S70)
  | 0 => some []
  | i + 1 => (tgL k l2 l4 a0 now i).bind fun o => (view_Spare.f k l4 (i : Int) now).bind fun s => some (o ++ tgOne a0 (i : Int) (rd_T53 l2 (i : Int)) s)
theorem tgL_mono (k : Nat) (l2 : List S53) (l4 : List S91) (a0 now : Int) : ∀ i, LeO (tgL k l2 l4 a0 now i) (tgL (k + 1) l2 l4 a0 now i)
  | 0 => LeO.refl _
  | i + 1 => LeO.bind (tgL_mono k l2 l4 a0 now i) (fun _ => LeO.bind (view_Spare.mono _ _ _ _) (fun _ => LeO.refl _))
theorem tgL_len (k : Nat) (l2 : List S53) (l4 : List S91) (a0 now : Int) : ∀ i xs, tgL k l2 l4 a0 now i = some xs → xs.length ≤ i
  | 0, xs, h => by
    obtain rfl : [] = xs := Option.some.inj h
    exact Nat.le_refl _
  | i + 1, xs, h => by
    obtain ⟨o, h1, h⟩ := Option.bind_eq_some_iff.mp h
    obtain ⟨s, _, h⟩ := Option.bind_eq_some_iff.mp h
    obtain rfl := Option.some.inj h
    have h2 := tgL_len k l2 l4 a0 now i o h1
    have h3 : (tgOne a0 (i : Int) (rd_T53 l2 (i : Int)) s).length ≤ 1 := by unfold tgOne; split <;> simp
    rw [List.length_append]
    omega
theorem tgL_some (k : Nat) (l2 : List S53) (l4 : List S91) (a0 now : Int) (i : Nat) : ∀ d xs, tgL k l2 l4 a0 now (i + d) = some xs → ∃ ys, tgL k l2 l4 a0 now i = some ys
  | 0, xs, h => ⟨xs, h⟩
  | d + 1, xs, h => by
    obtain ⟨o, h1, h⟩ := Option.bind_eq_some_iff.mp h
    exact tgL_some k l2 l4 a0 now i d o h1
theorem may_len {v : Int} {l : List S53} (h : conf_May.f v l = some true) : l.length ≤ 3 := by
  unfold conf_May.f at h
  have h := Option.some.inj h
  simp only [Bool.and_eq_true, decide_eq_true_eq] at h
  exact h.2
theorem spare_May.len {k : Nat} {a0 a1 a6 : Int} {l2 : List S53} {l3 : List S86} {l4 : List S91} {l5 : List S50} (h : spare_May.f k a0 a1 l2 l3 l4 l5 a6 = some true) : l2.length ≤ 3 := by
  unfold spare_May.f at h
  obtain ⟨t, h1, h⟩ := Option.bind_eq_some_iff.mp h
  cases t
  · cases h
  · exact may_len h1
def spare_Targets.f (k : Nat) (a0 a1 : Int) (l2 : List S53) (l3 : List S86) (l4 : List S91) (l5 : List S50) (a6 : Int) (now : Int) : Option (List S70 × Int) := (spare_May.f k a0 a1 l2 l3 l4 l5 a6).bind fun m => if m = true then (conf_Time.f now).bind fun t => (if t = true then (tgL k l2 l4 a0 now l2.length).bind fun r => some (r, 0) else some ([], 1700)) else some ([], 1700)
theorem spare_Targets.mono : ∀ a0 a1 l2 l3 l4 l5 a6 now k, LeO (spare_Targets.f k a0 a1 l2 l3 l4 l5 a6 now) (spare_Targets.f (k + 1) a0 a1 l2 l3 l4 l5 a6 now) := by
  intro a0 a1 l2 l3 l4 l5 a6 now k
  unfold spare_Targets.f
  refine LeO.bind (spare_May.mono _ _ _ _ _ _ _ _) (fun t => ?_)
  split
  · refine LeO.bind (LeO.refl _) (fun t => ?_)
    split
    · exact LeO.bind (tgL_mono _ _ _ _ _ _) (fun _ => LeO.refl _)
    · exact LeO.refl _
  · exact LeO.refl _
theorem spare_Targets.info : (Try.prog.info? 70).map (fun i => (i.zero, i.size, i.bytes)) = some (some (.agg #[(.int .i64 0), (.int .i64 0)]), 2, 16) := by kernel_rfl
theorem spare_Targets.hide {P : Program} {c : Code} {Q : Exit → Act → World → Prop} {a : Act} {w : World} (R : World → Prop) (h : R w) (k : ∀ w', R w' → c.wp P Q a w') : c.wp P Q a w := k w h
set_option maxHeartbeats 8000000 in
set_option maxRecDepth 100000 in
theorem spare_Targets.calls (k : Nat) (a0 a1 : Int) (A2 : Option Addr) (c2 : Nat) (l2 : List S53) (A3 : Option Addr) (c3 : Nat) (l3 : List S86) (A4 : Option Addr) (c4 : Nat) (l4 : List S91) (A5 : Option Addr) (c5 : Nat) (l5 : List S50) (a6 : Int) (now : Int) (r1 : List S70) (r2 : Int) (w : World) (hr2 : Kd.C k53 w A2 l2.length l2) (hc2 : l2.length ≤ c2) (hr3 : Kd.C k86 w A3 l3.length l3) (hc3 : l3.length ≤ c3) (hr4 : Kd.C k91 w A4 l4.length l4) (hc4 : l4.length ≤ c4) (hr5 : Kd.C k50 w A5 l5.length l5) (hc5 : l5.length ≤ c5) (h : spare_Targets.f k a0 a1 l2 l3 l4 l5 a6 now = some (r1, r2)) :
    Calls Try.prog 8 #[.agg #[.int .i64 a0, .int .i64 a1, .slice A2 l2.length c2, .slice A3 l3.length c3, .slice A4 l4.length c4, .slice A5 l5.length c5, .int .i64 a6], .int .i64 now] w fun e w' => ∃ v0_ : Value, e = .returned (.tuple #[v0_, .int .i64 r2]) ∧ Kd.R k70 70 w' w.heap.size (fun _ => True) v0_ r1 ∧ Below w.heap.size w w' := by
  have hb : Below w.heap.size w (w.alloc (Obj.cells #[.int .i64 a0, .int .i64 a1, .slice A2 l2.length c2, .slice A3 l3.length c3, .slice A4 l4.length c4, .slice A5 l5.length c5, .int .i64 a6] 29)) := below_alloc (Below.refl _ _) _
  have HN := Aside0.mk (show NodeAt (w.alloc (Obj.cells #[.int .i64 a0, .int .i64 a1, .slice A2 l2.length c2, .slice A3 l3.length c3, .slice A4 l4.length c4, .slice A5 l5.length c5, .int .i64 a6] 29)) w.heap.size a0 a1 A2 c2 l2 A3 c3 l3 A4 c4 l4 A5 c5 l5 a6 from ⟨blk_new _ _, Kd.C_below hr2 hb, hc2, Kd.C_below hr3 hb, hc3, Kd.C_below hr4 hb, hc4, Kd.C_below hr5 hb, hc5⟩)
  have x0 : (w.alloc (Obj.cells #[.int .i64 a0, .int .i64 a1, .slice A2 l2.length c2, .slice A3 l3.length c3, .slice A4 l4.length c4, .slice A5 l5.length c5, .int .i64 a6] 29)).cell? ⟨w.heap.size, 0, none⟩ = some (.int .i64 a0) := by simp
  have x1 : (w.alloc (Obj.cells #[.int .i64 a0, .int .i64 a1, .slice A2 l2.length c2, .slice A3 l3.length c3, .slice A4 l4.length c4, .slice A5 l5.length c5, .int .i64 a6] 29)).cell? ⟨w.heap.size, 1, none⟩ = some (.int .i64 a1) := by simp
  have x2 : (w.alloc (Obj.cells #[.int .i64 a0, .int .i64 a1, .slice A2 l2.length c2, .slice A3 l3.length c3, .slice A4 l4.length c4, .slice A5 l5.length c5, .int .i64 a6] 29)).cell? ⟨w.heap.size, 2, none⟩ = some (.slice A2 l2.length c2) := by simp
  have x3 : (w.alloc (Obj.cells #[.int .i64 a0, .int .i64 a1, .slice A2 l2.length c2, .slice A3 l3.length c3, .slice A4 l4.length c4, .slice A5 l5.length c5, .int .i64 a6] 29)).cell? ⟨w.heap.size, 3, none⟩ = some (.slice A3 l3.length c3) := by simp
  have x4 : (w.alloc (Obj.cells #[.int .i64 a0, .int .i64 a1, .slice A2 l2.length c2, .slice A3 l3.length c3, .slice A4 l4.length c4, .slice A5 l5.length c5, .int .i64 a6] 29)).cell? ⟨w.heap.size, 4, none⟩ = some (.slice A4 l4.length c4) := by simp
  have x5 : (w.alloc (Obj.cells #[.int .i64 a0, .int .i64 a1, .slice A2 l2.length c2, .slice A3 l3.length c3, .slice A4 l4.length c4, .slice A5 l5.length c5, .int .i64 a6] 29)).cell? ⟨w.heap.size, 5, none⟩ = some (.slice A5 l5.length c5) := by simp
  have x6 : (w.alloc (Obj.cells #[.int .i64 a0, .int .i64 a1, .slice A2 l2.length c2, .slice A3 l3.length c3, .slice A4 l4.length c4, .slice A5 l5.length c5, .int .i64 a6] 29)).cell? ⟨w.heap.size, 6, none⟩ = some (.int .i64 a6) := by simp
  have HB := Aside0.mk hb
  have hu := Try.underlying53
  clear hb hr2 hc2 hr3 hc3 hr4 hc4 hr5 hc5
  obtain ⟨m, hm, h⟩ := Option.bind_eq_some_iff.mp h
  replace hm := Aside0.mk hm
  cases m
  · obtain ⟨rfl, rfl⟩ : [] = r1 ∧ 1700 = r2 := by simpa using h
    clear h
    go_enter Try.func8, Try.ntmps8
    go_wp2_with (go_at_call 16; refine (spare_May.at_ k w.heap.size a0 a1 _ _ _ _ _ _ _ _ _ _ _ _ a6 false _ HN.out hm.out).mono ?_; rintro e w1 ⟨rfl, hb⟩; replace x0 := pw_cell_below hb x0; replace x1 := pw_cell_below hb x1; replace x2 := pw_cell_below hb x2; replace x3 := pw_cell_below hb x3; replace x4 := pw_cell_below hb x4; replace x5 := pw_cell_below hb x5; replace x6 := pw_cell_below hb x6; replace HN := Aside0.mk (HN.out.below hb); replace HB := Aside0.mk (below_step HB.out hb); clear hb)
    go_ret2
    exact ⟨_, rfl, Kd.R_nil _ _ _ _ _, HB.out⟩
  · rw [if_pos rfl] at h
    have HL3 := Aside0.mk (spare_May.len hm.out)
    obtain ⟨t, ht, h⟩ := Option.bind_eq_some_iff.mp h
    replace ht := Aside0.mk ht
    cases t
    · obtain ⟨rfl, rfl⟩ : [] = r1 ∧ 1700 = r2 := by simpa using h
      clear h
      go_enter Try.func8, Try.ntmps8
      go_wp2_with (first | (go_at_call 16; refine (spare_May.at_ k w.heap.size a0 a1 _ _ _ _ _ _ _ _ _ _ _ _ a6 true _ HN.out hm.out).mono ?_; rintro e w1 ⟨rfl, hb⟩; replace x0 := pw_cell_below hb x0; replace x1 := pw_cell_below hb x1; replace x2 := pw_cell_below hb x2; replace x3 := pw_cell_below hb x3; replace x4 := pw_cell_below hb x4; replace x5 := pw_cell_below hb x5; replace x6 := pw_cell_below hb x6; replace HN := Aside0.mk (HN.out.below hb); replace HB := Aside0.mk (below_step HB.out hb); clear hb) | (go_at_call 24; refine (conf_Time.calls now false _ ht.out).mono ?_; rintro e w2 ⟨rfl, hn⟩; have hb := Go.Proofs.Ytlapbhgkmmeeoaa.Hand.hk_drawn hn; clear hn; replace x0 := pw_cell_below hb x0; replace x1 := pw_cell_below hb x1; replace x2 := pw_cell_below hb x2; replace x3 := pw_cell_below hb x3; replace x4 := pw_cell_below hb x4; replace x5 := pw_cell_below hb x5; replace x6 := pw_cell_below hb x6; replace HN := Aside0.mk (HN.out.below hb); replace HB := Aside0.mk (below_step HB.out hb); clear hb))
      go_ret2
      exact ⟨_, rfl, Kd.R_nil _ _ _ _ _, HB.out⟩
    · rw [if_pos rfl] at h
      obtain ⟨rr, hr, h⟩ := Option.bind_eq_some_iff.mp h
      obtain ⟨rfl, rfl⟩ : rr = r1 ∧ 0 = r2 := by simpa using h
      have HRR := Aside0.mk hr
      clear h hr
      go_enter Try.func8, Try.ntmps8
      go_wp2_with (first | (go_at_call 16; refine (spare_May.at_ k w.heap.size a0 a1 _ _ _ _ _ _ _ _ _ _ _ _ a6 true _ HN.out hm.out).mono ?_; rintro e w1 ⟨rfl, hb⟩; replace x0 := pw_cell_below hb x0; replace x1 := pw_cell_below hb x1; replace x2 := pw_cell_below hb x2; replace x3 := pw_cell_below hb x3; replace x4 := pw_cell_below hb x4; replace x5 := pw_cell_below hb x5; replace x6 := pw_cell_below hb x6; replace HN := Aside0.mk (HN.out.below hb); replace HB := Aside0.mk (below_step HB.out hb); clear hb) | (go_at_call 24; refine (conf_Time.calls now true _ ht.out).mono ?_; rintro e w2 ⟨rfl, hn⟩; have hb := Go.Proofs.Ytlapbhgkmmeeoaa.Hand.hk_drawn hn; clear hn; replace x0 := pw_cell_below hb x0; replace x1 := pw_cell_below hb x1; replace x2 := pw_cell_below hb x2; replace x3 := pw_cell_below hb x3; replace x4 := pw_cell_below hb x4; replace x5 := pw_cell_below hb x5; replace x6 := pw_cell_below hb x6; replace HN := Aside0.mk (HN.out.below hb); replace HB := Aside0.mk (below_step HB.out hb); clear hb))
      obtain ⟨wl, hwl⟩ : ∃ wl, wl = w2 := ⟨_, rfl⟩
      subst hwl
      have HBS := Aside0.mk (below_size HB.out)
      go_loopg [6, 23] (l2.length + 1) (fun kq v6 v23 w' => ∃ (i : Nat) (xs : List S70), v23 = .int .i64 (i : Int) ∧ Aside0 (i ≤ l2.length ∧ (kq : Int) + i = l2.length + 1) ∧ Aside0 (tgL k l2 l4 a0 now i = some xs) ∧ Aside0 (Kd.R k70 70 w' wl.heap.size (fun _ => True) v6 xs) ∧ Aside0 (Below wl.heap.size wl w'))
      case atStart => exact ⟨0, [], rfl, ⟨by omega⟩, ⟨rfl⟩, ⟨Kd.R_nil _ _ _ _ _⟩, ⟨Below.refl _ _⟩⟩
      case round =>
        obtain ⟨i, xs, rfl, HX, HT, HO, HBW⟩ := hrel
        cases gk with
        | zero => have := HX.out; omega
        | succ k1 =>
          by_cases c3 : (i : Int) < (l2.length : Int)
          · have c3b := decide_eq_true c3
            have p1 : (0 : Int) ≤ (i : Int) := by omega
            have p1b := decide_eq_true p1
            obtain ⟨ad, A9, c9, ea, hx0, hx1, hx2, hx3, _, _⟩ := at_T53 (HN.out.below HBW.out).r2 (i : Int) p1 c3
            cases ea
            obtain ⟨x, hx⟩ : ∃ x, rd_T53 l2 (i : Int) = x := ⟨_, rfl⟩
            rw [hx] at hx0 hx1 hx2 hx3
            rw [Int.toNat_natCast] at hx0 hx1 hx2 hx3
            obtain ⟨ys, hy⟩ := tgL_some k l2 l4 a0 now (i + 1) (l2.length - (i + 1)) rr (by rw [show i + 1 + (l2.length - (i + 1)) = l2.length by omega]; exact HRR.out)
            obtain ⟨o, ho, hy⟩ := Option.bind_eq_some_iff.mp hy
            obtain rfl : xs = o := Option.some.inj (HT.out.symm.trans ho)
            obtain ⟨⟨sr, st, se⟩, hsp, hy⟩ := Option.bind_eq_some_iff.mp hy
            have HSP := Aside0.mk hsp
            have HS1 := Aside0.mk (show tgL k l2 l4 a0 now (i + 1) = some (xs ++ tgOne a0 (i : Int) x (sr, st, se)) by show ((tgL k l2 l4 a0 now i).bind fun o => _) = _; rw [HT.out, Option.bind_some, hsp, Option.bind_some, hx])
            have HLX := Aside0.mk (show xs.length ≤ 3 by have h1 := tgL_len k l2 l4 a0 now i xs HT.out; have h2 := HL3.out; omega)
            have c3' := eq_true c3
            have p1' := eq_true p1
            clear ho hy hsp hx
            go_upto_region 7 with ((with_reducible refine gate_dst (N := 8) rfl ?_); refine box_event ?hg (N := 8) ?hd (cs := #[.int .i64 0, .bool false, .int .i64 0, .slice none 0 0]) (t := 53) ?hr ?_; (case hd => rfl); (case hg => rfl); (case hr => first | (go_simp; done) | (go_simp; rfl)); intro gs hg w3 hbox hb; have HW := Aside0.mk hb; have G := Aside0.mk (Nat.le_of_eq hg.symm : wr.heap.size ≤ gs); have Zb := Aside0.mk hbox; clear hb hbox hg; have z0 : w3.cell? ⟨gs, 0, none⟩ = some (.int .i64 0) := (blk_cell Zb.out 0).trans rfl; have y0 := blk_frozen Zb.out 0; have z1 : w3.cell? ⟨gs, 1, none⟩ = some (.bool false) := (blk_cell Zb.out 1).trans rfl; have y1 := blk_frozen Zb.out 1; have z2 : w3.cell? ⟨gs, 2, none⟩ = some (.int .i64 0) := (blk_cell Zb.out 2).trans rfl; have y2 := blk_frozen Zb.out 2; have z3 : w3.cell? ⟨gs, 3, none⟩ = some (.slice none 0 0) := (blk_cell Zb.out 3).trans rfl; have y3 := blk_frozen Zb.out 3; skip)
            refine spare_Targets.hide (fun W => Below wr.heap.size wr W ∧ W.heap[gs]? = some (.cells #[.int .i64 x.f0, .bool x.f1, .int .i64 x.f2, .slice A9 x.f3.length c9] 53 (0, 0))) ⟨by with_reducible repeat (first | exact HW.out | refine below_set ?_ G.out), by refine blk_put (cs := #[.int .i64 x.f0, .bool x.f1, .int .i64 x.f2, .slice none 0 0]) ?_ 3 _ rfl; refine blk_put (cs := #[.int .i64 x.f0, .bool x.f1, .int .i64 0, .slice none 0 0]) ?_ 2 _ rfl; refine blk_put (cs := #[.int .i64 x.f0, .bool false, .int .i64 0, .slice none 0 0]) ?_ 1 _ rfl; refine blk_put (cs := #[.int .i64 0, .bool false, .int .i64 0, .slice none 0 0]) ?_ 0 _ rfl; exact Zb.out⟩ ?_
            intro w4 ⟨hb, hz⟩
            have b0 : w4.cell? ⟨gs, 0, none⟩ = some (.int .i64 x.f0) := (blk_cell hz 0).trans rfl
            have b1 : w4.cell? ⟨gs, 1, none⟩ = some (.bool x.f1) := (blk_cell hz 1).trans rfl
            replace HO := Aside0.mk (Kd.R_below HO.out hb)
            replace HBW := Aside0.mk (below_step HBW.out hb)
            have HM := Aside0.mk (HN.out.below HBW.out)
            have m0 := pw_cell_below HBW.out x0
            have m4 := pw_cell_below HBW.out x4
            clear hb hz HW G Zb z0 y0 z1 y1 z2 y2 z3 y3 hx0 hx1 hx2 hx3
            go_upto_region 8 with (go_at_call 25; refine (view_Spare.calls k _ _ l4 (i : Int) now sr st se _ HM.out.r4 HM.out.q4 HSP.out).mono ?_; rintro e w5 ⟨rfl, hb⟩; replace m0 := pw_cell_below hb m0; replace b0 := pw_cell_below hb b0; replace b1 := pw_cell_below hb b1; replace HO := Aside0.mk (Kd.R_below HO.out hb); replace HBW := Aside0.mk (below_step HBW.out hb); clear hb m4)
            by_cases c1 : (i : Int) = a0
            · have e1 : ((i : Int) == a0) = true := beq_iff_eq.2 c1
              have e2 : ((i : Int) != a0) = false := bne_eq_false_iff_eq.2 c1
              have e3 : decide ((i : Int) = a0) = true := decide_eq_true c1
              have HC := Aside0.mk c1
              clear c1
              have HE := Aside0.mk (show tgL k l2 l4 a0 now (i + 1) = some xs by rw [HS1.out]; unfold tgOne; rw [if_neg (fun q => q.1 HC.out), List.append_nil])
              go_wp2_with fail
              go_roundg k1
              case measure => have := HX.out; omega
              case rel =>
                have h1 := HX.out
                have h3 := HL3.out
                exact ⟨i + 1, _, by rw [show wrap64 ((i : Int) + 1) = ((i + 1 : Nat) : Int) by unfold wrap64; omega], ⟨by omega⟩, HE, HO, HBW⟩
            · have e1 : ((i : Int) == a0) = false := beq_eq_false_iff_ne.2 c1
              have e2 : ((i : Int) != a0) = true := bne_iff_ne.2 c1
              have e3 : decide ((i : Int) = a0) = false := decide_eq_false c1
              have HC1 := Aside0.mk c1
              clear c1
              obtain ⟨d, hd⟩ : ∃ d, x.f1 = d := ⟨_, rfl⟩
              rw [hd] at b1
              replace hd := Aside0.mk hd
              cases d
              · have HC2 := hd
                by_cases c3 : 0 < x.f0
                · have e5 : decide (0 < x.f0) = true := decide_eq_true c3
                  have HC3 := Aside0.mk c3
                  clear c3
                  cases st
                  · skip
                    have HE := Aside0.mk (show tgL k l2 l4 a0 now (i + 1) = some xs by rw [HS1.out]; unfold tgOne; rw [if_neg (fun q => Bool.false_ne_true q.2.2.2.1), List.append_nil])
                    go_wp2_with fail
                    go_roundg k1
                    case measure => have := HX.out; omega
                    case rel =>
                      have h1 := HX.out
                      have h3 := HL3.out
                      exact ⟨i + 1, _, by rw [show wrap64 ((i : Int) + 1) = ((i + 1 : Nat) : Int) by unfold wrap64; omega], ⟨by omega⟩, HE, HO, HBW⟩
                  · skip
                    by_cases c5 : 0 < sr
                    · have e6 : decide (0 < sr) = true := decide_eq_true c5
                      have HC5 := Aside0.mk c5
                      clear c5
                      have HE := Aside0.mk (show tgL k l2 l4 a0 now (i + 1) = some (xs ++ [⟨(i : Int), mn sr 16⟩]) by rw [HS1.out]; unfold tgOne; rw [if_pos ⟨HC1.out, HC2.out, HC3.out, rfl, HC5.out⟩])
                      go_wp2_with ((with_reducible refine gate_builtin (b := .append) (xs := #[.tmp 58, .tmp 63]) rfl ?_); at_builtin; refine Kd.R_append k70 (w0 := wl) wl.heap.size rfl (.tmp 58) (.tmp 63) 36 70 (.agg #[(.int .i64 0), (.int .i64 0)]) 16 rfl Try.underlying36 spare_Targets.info rfl (by decide) (by omega) u6 xs ⟨(i : Int), mn sr 16⟩ [.int .i64 (i : Int), .int .i64 (mn sr 16)] (fun _ => True) (fun _ => False) rfl rfl ?aP (fun _ hk => hk.elim) ?aF ?aO ?aB ?aS ?aL ?_; (case aP => exact k70_mkM _ _ _ (⟨(i : Int), mn sr 16⟩ : S70)); (case aB => exact HBW.out); (case aF => exact (fun _ _ => trivial)); (case aO => exact HO.out); (case aS => exact below_size HBW.out); (case aL => have := HLX.out; omega); intro vN wN ho hb hg hat; replace HBW := Aside0.mk hb; replace HO := Aside0.mk ho; clear ho hb hg hat)
                      all_goals
                        go_roundg k1
                        case measure => have := HX.out; omega
                        case rel =>
                          have h1 := HX.out
                          have h3 := HL3.out
                          exact ⟨i + 1, _, by rw [show wrap64 ((i : Int) + 1) = ((i + 1 : Nat) : Int) by unfold wrap64; omega], ⟨by omega⟩, HE, HO, HBW⟩
                    · have e6 : decide (0 < sr) = false := decide_eq_false c5
                      have HC5 := Aside0.mk c5
                      clear c5
                      have HE := Aside0.mk (show tgL k l2 l4 a0 now (i + 1) = some xs by rw [HS1.out]; unfold tgOne; rw [if_neg (fun q => HC5.out q.2.2.2.2), List.append_nil])
                      go_wp2_with fail
                      go_roundg k1
                      case measure => have := HX.out; omega
                      case rel =>
                        have h1 := HX.out
                        have h3 := HL3.out
                        exact ⟨i + 1, _, by rw [show wrap64 ((i : Int) + 1) = ((i + 1 : Nat) : Int) by unfold wrap64; omega], ⟨by omega⟩, HE, HO, HBW⟩
                · have e5 : decide (0 < x.f0) = false := decide_eq_false c3
                  have HC3 := Aside0.mk c3
                  clear c3
                  have HE := Aside0.mk (show tgL k l2 l4 a0 now (i + 1) = some xs by rw [HS1.out]; unfold tgOne; rw [if_neg (fun q => HC3.out q.2.2.1), List.append_nil])
                  go_wp2_with fail
                  go_roundg k1
                  case measure => have := HX.out; omega
                  case rel =>
                    have h1 := HX.out
                    have h3 := HL3.out
                    exact ⟨i + 1, _, by rw [show wrap64 ((i : Int) + 1) = ((i + 1 : Nat) : Int) by unfold wrap64; omega], ⟨by omega⟩, HE, HO, HBW⟩
              · skip
                have HE := Aside0.mk (show tgL k l2 l4 a0 now (i + 1) = some xs by rw [HS1.out]; unfold tgOne; rw [if_neg (fun q => by have h9 := q.2.1; rw [hd.out] at h9; cases h9), List.append_nil])
                go_wp2_with fail
                go_roundg k1
                case measure => have := HX.out; omega
                case rel =>
                  have h1 := HX.out
                  have h3 := HL3.out
                  exact ⟨i + 1, _, by rw [show wrap64 ((i : Int) + 1) = ((i + 1 : Nat) : Int) by unfold wrap64; omega], ⟨by omega⟩, HE, HO, HBW⟩
          · have c3b := decide_eq_false c3
            obtain rfl : i = l2.length := by have := HX.out; omega
            obtain rfl : rr = xs := Option.some.inj (HRR.out.symm.trans HT.out)
            go_wp2_with fail
            go_ret2
            exact ⟨_, rfl, Kd.R_lower HO.out HBS.out, below_step HB.out HBW.out⟩


end Go.Proofs.Ytlapbhgkmmeeoaa.PSpareRoom
