/- Contracts: what calls of these functions of the program do, each as a plain function; written by a program of this session. -/
import Derived.Test.YtlapbhgkmmeeoaaPSpareRoomx0
import Derived.Test.YtlapbhgkmmeeoaaPSpareRoomx3
namespace Go.Proofs.Ytlapbhgkmmeeoaa.PSpareRoom
open Go.RowKit Go.Proofs.YtlapbhgkmmeeoaaW.PrintWords Go.Proofs.YtlapbhgkmmeeoaaW.PrintLast Go.Proofs.YtlapbhgkmmeeoaaW.PrintMore
attribute [local go_sem] max2_int min2_int max_two min_two max_three min_three max_four min_four   -- for this text's walks alone
set_option linter.unusedVariables false
set_option linter.unusedSimpArgs false

/-! ### wharfagelaw0_CopyNode: function 5, by hand -/
def wharfagelaw0_CopyNode.f (k : Nat) (a0 a1 : Int) (l2 : List S53) (l3 : List S86) (l4 : List S91) (l5 : List S50) (a6 : Int) : Option (Int × Int × List S53 × List S86 × List S91 × List S50 × Int) := if l3.length < 8796093022208 ∧ l4.length < 3518437208883 ∧ l5.length < 1954687338268 then (wharfagelaw0_CopyConfig.f k a1 l2).bind fun t => some (a0, t.1, t.2, l3, l4, l5, a6) else none
theorem wharfagelaw0_CopyNode.mono : ∀ a0 a1 l2 l3 l4 l5 a6 k, LeO (wharfagelaw0_CopyNode.f k a0 a1 l2 l3 l4 l5 a6) (wharfagelaw0_CopyNode.f (k + 1) a0 a1 l2 l3 l4 l5 a6) := by
  intro a0 a1 l2 l3 l4 l5 a6 k
  unfold wharfagelaw0_CopyNode.f
  split
  · exact LeO.bind (wharfagelaw0_CopyConfig.mono _ _ _) (fun _ => LeO.refl _)
  · exact LeO.refl _
theorem wharfagelaw0_CopyNode.info3 : (Try.prog.info? 86).map (fun i => (i.zero, i.size, i.bytes)) = some (some (.agg #[(.bool false), (.int .i64 0)]), 2, 16) := by kernel_rfl
theorem wharfagelaw0_CopyNode.info4 : (Try.prog.info? 91).map (fun i => (i.zero, i.size, i.bytes)) = some (some (.agg #[(.int .i64 0), (.int .i64 0), (.int .i64 0), (.int .i64 0), (.int .i64 0)]), 5, 40) := by kernel_rfl
theorem wharfagelaw0_CopyNode.info5 : (Try.prog.info? 50).map (fun i => (i.zero, i.size, i.bytes)) = some (some (.agg #[(.int .i64 0), (.int .i64 0), (.int .i64 0), (.int .i64 0), (.int .i64 0), (.int .i64 0), (.bool false), (.int .i64 0), (.int .i64 0)]), 9, 72) := by kernel_rfl
theorem cn_lt {w : World} {b : Nat} {o : Obj} (h : w.heap[b]? = some o) : b < w.heap.size := (Array.getElem?_eq_some_iff.1 h).1
theorem cn_below {w w1 : World} {b : Nat} {o : Obj} (h : w.heap[b]? = some o) (hb : Below w.heap.size w w1) : w1.heap[b]? = some o := (hb.block b (cn_lt h)).trans h
theorem cn_alloc {w : World} {b : Nat} {o : Obj} (h : w.heap[b]? = some o) (o2 : Obj) : (w.alloc o2).heap[b]? = some o := (Below.heap_alloc w o2 _ (cn_lt h)).trans h
theorem cn_cell {w : World} {b j : Nat} {cs : Array Value} {t : TypeId} {m : Nat × Nat} (h : w.heap[b]? = some (.cells cs t m)) : w.cell? ⟨b, j, none⟩ = cs[j]? := by simp [World.cell?, h]
theorem cn_free {w : World} {b j : Nat} {cs : Array Value} {t : TypeId} (h : w.heap[b]? = some (.cells cs t (0, 0))) : w.frozen? ⟨b, j, none⟩ = false := by simp [World.frozen?, h]
theorem wharfagelaw0_CopyNode.tab1 : rtab .any (opsOf Try.f5 1) = rtab .any (opsOf Try.f5 1) := rfl
def wharfagelaw0_CopyNode.B1 : List Nat := [0, 1, 0, 4, 0, 16, 48, 0, 0, 256, 1008, 0, 0, 4096, 16368, 0, 0, 65536, 262128, 524287, 1048575]
theorem wharfagelaw0_CopyNode.bits1 : waitsOk (rtab .any (opsOf Try.f5 1)).2 wharfagelaw0_CopyNode.B1 = true := by kernel_rfl
theorem wharfagelaw0_CopyNode.hide {P : Program} {c : Code} {Q : Exit → Act → World → Prop} {a : Act} {w : World} (R : World → Prop) (h : R w) (k : ∀ w', R w' → c.wp P Q a w') : c.wp P Q a w := k w h
theorem wharfagelaw0_CopyNode.lit {α : Type} (d : Kd α) (e base : Nat) (W : World) (hb : base ≤ W.heap.size) : Kd.R d e (W.alloc (.cells #[] e)) base (fun k => k = W.heap.size) (.slice (some ⟨W.heap.size, 0, none⟩) 0 0) [] := by
  refine ⟨fun k hk => ?_, [], ?_, ?_⟩
  · have : W.heap.size = k := by simpa [Value.ownBlock] using hk
    exact this.symm
  · have h2 := World.ownsRow_lit (base := base) (e := e) (size := d.sz) W #[] 0 hb (by simp [maxLen]) (by simp)
    simpa using h2
  · exact Reps.none _ _
set_option maxHeartbeats 8000000 in
set_option maxRecDepth 100000 in
theorem wharfagelaw0_CopyNode.calls (k : Nat) (a0 a1 : Int) (A2 : Option Addr) (c2 : Nat) (l2 : List S53) (A3 : Option Addr) (c3 : Nat) (l3 : List S86) (A4 : Option Addr) (c4 : Nat) (l4 : List S91) (A5 : Option Addr) (c5 : Nat) (l5 : List S50) (a6 : Int) (r1 r2 : Int) (r3 : List S53) (r4 : List S86) (r5 : List S91) (r6 : List S50) (r7 : Int) (w : World) (hr2 : Kd.C k53 w A2 l2.length l2) (hc2 : l2.length ≤ c2) (hr3 : Kd.C k86 w A3 l3.length l3) (hc3 : l3.length ≤ c3) (hr4 : Kd.C k91 w A4 l4.length l4) (hc4 : l4.length ≤ c4) (hr5 : Kd.C k50 w A5 l5.length l5) (hc5 : l5.length ≤ c5) (h : wharfagelaw0_CopyNode.f k a0 a1 l2 l3 l4 l5 a6 = some (r1, r2, r3, r4, r5, r6, r7)) :
    Calls Try.prog 5 #[.agg #[.int .i64 a0, .int .i64 a1, .slice A2 l2.length c2, .slice A3 l3.length c3, .slice A4 l4.length c4, .slice A5 l5.length c5, .int .i64 a6]] w fun e w' => ∃ v2_ v3_ v4_ v5_ : Value, e = .returned (.agg #[.int .i64 r1, .int .i64 r2, v2_, v3_, v4_, v5_, .int .i64 r7]) ∧ Kd.S k53 53 w' w.heap.size (fun _ => True) v2_ r3 ∧ Kd.R k86 86 w' w.heap.size (fun _ => True) v3_ r4 ∧ Kd.R k91 91 w' w.heap.size (fun _ => True) v4_ r5 ∧ Kd.R k50 50 w' w.heap.size (fun _ => True) v5_ r6 ∧ Below w.heap.size w w' := by
  unfold wharfagelaw0_CopyNode.f at h
  by_cases hlt : l3.length < 8796093022208 ∧ l4.length < 3518437208883 ∧ l5.length < 1954687338268
  case neg => rw [if_neg hlt] at h; exact absurd h (by simp)
  rw [if_pos hlt] at h
  obtain ⟨⟨tv, tl⟩, ht, h⟩ := Option.bind_eq_some_iff.mp h
  obtain ⟨rfl, rfl, rfl, rfl, rfl, rfl, rfl⟩ : a0 = r1 ∧ tv = r2 ∧ tl = r3 ∧ l3 = r4 ∧ l4 = r5 ∧ l5 = r6 ∧ a6 = r7 := by simpa using h
  have HT := Aside0.mk ht
  have HLT := Aside0.mk hlt
  have HN := Aside0.mk (And.intro hr2 (And.intro hr3 (And.intro hr4 hr5)))
  have HC2 := Aside0.mk hc2
  have hu := Try.underlying29
  clear h ht hlt hr2 hc2 hr3 hc3 hr4 hc4 hr5 hc5
  go_enter Try.func5, Try.ntmps5
  go_wp2_with fail
  obtain ⟨n2, hn2⟩ : ∃ n, n = w.heap.size + 1 := ⟨_, rfl⟩
  obtain ⟨n1, hn1⟩ : ∃ n, n = w.heap.size := ⟨_, rfl⟩
  obtain ⟨wb, hwb⟩ : ∃ x_, x_ = (w.alloc (.cells #[.int .i64 a0, .int .i64 a1, .slice A2 l2.length c2, .slice A3 l3.length c3, .slice A4 l4.length c4, .slice A5 l5.length c5, .int .i64 a6] 29)).alloc (.cells #[.int .i64 0, .int .i64 0, .slice none 0 0, .slice none 0 0, .slice none 0 0, .slice none 0 0, .int .i64 0] 29) := ⟨_, rfl⟩
  have H1 := Aside0.mk (show wb.heap[n1]? = some (.cells #[.int .i64 a0, .int .i64 a1, .slice A2 l2.length c2, .slice A3 l3.length c3, .slice A4 l4.length c4, .slice A5 l5.length c5, .int .i64 a6] 29 (0, 0)) by rw [hwb, hn1]; exact cn_alloc (heap_alloc_new w _) _)
  have H2 := Aside0.mk (show wb.heap[n2]? = some (.cells #[.int .i64 0, .int .i64 0, .slice none 0 0, .slice none 0 0, .slice none 0 0, .slice none 0 0, .int .i64 0] 29 (0, 0)) by rw [hwb, hn2]; simpa only [World.size_alloc] using heap_alloc_new (w.alloc (.cells #[.int .i64 a0, .int .i64 a1, .slice A2 l2.length c2, .slice A3 l3.length c3, .slice A4 l4.length c4, .slice A5 l5.length c5, .int .i64 a6] 29)) (.cells #[.int .i64 0, .int .i64 0, .slice none 0 0, .slice none 0 0, .slice none 0 0, .slice none 0 0, .int .i64 0] 29 (0, 0)))
  have HB := Aside0.mk (show Below w.heap.size w wb by rw [hwb]; exact below_alloc (below_alloc (Below.refl _ _) _) _)
  have HNN := Aside0.mk (show w.heap.size ≤ n1 ∧ w.heap.size ≤ n2 ∧ n1 ≠ n2 by omega)
  rw [← hwb, ← hn2, ← hn1]
  clear hwb hn2 hn1
  refine start_ (n := 21) (S := fun w' => True) (ds := []) #[false, false, false, false, false, false, false, false, false, false, false, false, false, false, false, false, false, false, false, false, false] (by kernel_rfl) rfl rfl trivial (fun hHeld => ?_); refine with_tabW wharfagelaw0_CopyNode.tab1 wharfagelaw0_CopyNode.bits1 (fun HT_ HW_ => ?_)
  refine inv_at [0, 1, 2, 3, 4, 5, 6, 7, 8, 9, 10, 11, 12, 13, 14, 15, 16, 17, 18, 19, 20] (fun a0_ b a w' => ∃ (AS : Option Addr) (cS : Nat) (B3 : Option Addr) (d3 : Nat) (B4 : Option Addr) (d4 : Nat) (B5 : Option Addr) (d5 : Nat) (s3 s4 s5 vz : Value) (wq : World), a = putSel a0_ b [(0, 3, .pointer (some ⟨n1, 0, none⟩)), (1, 4, .int .i64 a0), (2, 5, .pointer (some ⟨n1, 6, none⟩)), (3, 6, .int .i64 a6), (4, 7, .pointer (some ⟨n1, 1, none⟩)), (5, 8, .agg #[.int .i64 a1, .slice A2 l2.length c2]), (6, 9, .agg #[.int .i64 tv, .slice AS tl.length cS]), (7, 10, s3), (8, 11, .pointer (some ⟨n1, 3, none⟩)), (9, 12, .slice A3 l3.length c3), (10, 13, .slice B3 l3.length d3), (11, 14, s4), (12, 15, .pointer (some ⟨n1, 4, none⟩)), (13, 16, .slice A4 l4.length c4), (14, 17, .slice B4 l4.length d4), (15, 18, s5), (16, 19, .pointer (some ⟨n1, 5, none⟩)), (17, 20, .slice A5 l5.length c5), (18, 21, .slice B5 l5.length d5), (19, 22, vz)] ∧ Below wb.heap.size wb wq ∧ (b 20 = false → w' = wq) ∧ (b 20 = true → w' = (((((((wq.setCell ⟨n2, 0, none⟩ (.int .i64 a0)).setCell ⟨n2, 1, none⟩ (.int .i64 tv)).setCell ⟨n2, 2, none⟩ (.slice AS tl.length cS)).setCell ⟨n2, 3, none⟩ (.slice B3 l3.length d3)).setCell ⟨n2, 4, none⟩ (.slice B4 l4.length d4)).setCell ⟨n2, 5, none⟩ (.slice B5 l5.length d5)).setCell ⟨n2, 6, none⟩ (.int .i64 a6))) ∧ (b 19 = true → vz = .agg #[.int .i64 a0, .int .i64 tv, .slice AS tl.length cS, .slice B3 l3.length d3, .slice B4 l4.length d4, .slice B5 l5.length d5, .int .i64 a6]) ∧ (b 6 = true → Kd.S k53 53 wq wb.heap.size (fun _ => True) (.slice AS tl.length cS) tl) ∧ (b 7 = true → b 10 = false → Kd.R k86 86 wq wb.heap.size (fun _ => True) (s3) []) ∧ (b 10 = true → Kd.R k86 86 wq wb.heap.size (fun _ => True) (.slice B3 l3.length d3) l3) ∧ (b 11 = true → b 14 = false → Kd.R k91 91 wq wb.heap.size (fun _ => True) (s4) []) ∧ (b 14 = true → Kd.R k91 91 wq wb.heap.size (fun _ => True) (.slice B4 l4.length d4) l4) ∧ (b 15 = true → b 18 = false → Kd.R k50 50 wq wb.heap.size (fun _ => True) (s5) []) ∧ (b 18 = true → Kd.R k50 50 wq wb.heap.size (fun _ => True) (.slice B5 l5.length d5) l5)) HT_.out HW_.out (by kernel_rfl) (by kernel_rfl) ?_ ?_ ?_
  · exact ⟨none, 0, none, 0, none, 0, none, 0, .slice none 0 0, .slice none 0 0, .slice none 0 0, .slice none 0 0, _, by simp only [putSel, Bool.false_eq_true, if_false], below_drew1 (Below.refl _ _), fun _ => rfl, fun h_ => absurd h_ (by decide), fun h_ => absurd h_ (by decide), fun h_ => absurd h_ (by decide), fun h_ => absurd h_ (by decide), fun h_ => absurd h_ (by decide), fun h_ => absurd h_ (by decide), fun h_ => absurd h_ (by decide), fun h_ => absurd h_ (by decide), fun h_ => absurd h_ (by decide)⟩
  · skip
    refine steps_cons ?_ ?_
    · rintro b a w' ⟨AS, cS, B3, d3, B4, d4, B5, d5, s3, s4, s5, vz, wq, ha, QB, Wf, Wt, QZ, QS, L3, R3, L4, R4, L5, R5⟩ hb_ hon hoff
      have hw_ := Wf (hoff 20 (by kernel_rfl))
      subst hw_
      refine ⟨_, rfl, fun K hK => ?_⟩
      have e1 : a.tmps[1]? = some (.pointer (some ⟨n1, 0, none⟩)) := by rw [ha]; exact (putSel_off rfl).trans rfl
      replace ha := Aside0.mk ha
      refine value_ (w1 := w') (v := .pointer (some ⟨n1, 0, none⟩)) (by rfl) rfl ?_ ?_
      · go_simp
        try rfl
      exact hK.out _ _ ⟨AS, cS, B3, d3, B4, d4, B5, d5, s3, s4, s5, vz, w', (by rw [ha.out]; exact putSel_upk 0 hb_ rfl rfl rfl), QB, fun _ => rfl, fun h_ => absurd ((hoff 20 (by kernel_rfl)).symm.trans h_) (by decide), QZ, QS, L3, R3, L4, R4, L5, R5⟩
    refine steps_cons ?_ ?_
    · rintro b a w' ⟨AS, cS, B3, d3, B4, d4, B5, d5, s3, s4, s5, vz, wq, ha, QB, Wf, Wt, QZ, QS, L3, R3, L4, R4, L5, R5⟩ hb_ hon hoff
      have hw_ := Wf (hoff 20 (by kernel_rfl))
      subst hw_
      refine ⟨_, rfl, fun K hK => ?_⟩
      have e3 : a.tmps[3]? = some (.pointer (some ⟨n1, 0, none⟩)) := by rw [ha]; exact putSel_on (e := (0, 3, .pointer (some ⟨n1, 0, none⟩))) 0 rfl rfl (hon 0 (by kernel_rfl)) rfl
      have q0 : w'.cell? ⟨n1, 0, none⟩ = some (.int .i64 a0) := (cn_cell (cn_below H1.out QB)).trans rfl
      have q1 : w'.cell? ⟨n1, 1, none⟩ = some (.int .i64 a1) := (cn_cell (cn_below H1.out QB)).trans rfl
      have q2 : w'.cell? ⟨n1, 2, none⟩ = some (.slice A2 l2.length c2) := (cn_cell (cn_below H1.out QB)).trans rfl
      have q3 : w'.cell? ⟨n1, 3, none⟩ = some (.slice A3 l3.length c3) := (cn_cell (cn_below H1.out QB)).trans rfl
      have q4 : w'.cell? ⟨n1, 4, none⟩ = some (.slice A4 l4.length c4) := (cn_cell (cn_below H1.out QB)).trans rfl
      have q5 : w'.cell? ⟨n1, 5, none⟩ = some (.slice A5 l5.length c5) := (cn_cell (cn_below H1.out QB)).trans rfl
      have q6 : w'.cell? ⟨n1, 6, none⟩ = some (.int .i64 a6) := (cn_cell (cn_below H1.out QB)).trans rfl
      replace ha := Aside0.mk ha
      refine value_ (w1 := w') (v := .int .i64 a0) (by rfl) rfl ?_ ?_
      · go_simp
        try rfl
      exact hK.out _ _ ⟨AS, cS, B3, d3, B4, d4, B5, d5, s3, s4, s5, vz, w', (by rw [ha.out]; exact putSel_upk 1 hb_ rfl rfl rfl), QB, fun _ => rfl, fun h_ => absurd ((hoff 20 (by kernel_rfl)).symm.trans h_) (by decide), QZ, QS, L3, R3, L4, R4, L5, R5⟩
    refine steps_cons ?_ ?_
    · rintro b a w' ⟨AS, cS, B3, d3, B4, d4, B5, d5, s3, s4, s5, vz, wq, ha, QB, Wf, Wt, QZ, QS, L3, R3, L4, R4, L5, R5⟩ hb_ hon hoff
      have hw_ := Wf (hoff 20 (by kernel_rfl))
      subst hw_
      refine ⟨_, rfl, fun K hK => ?_⟩
      have e1 : a.tmps[1]? = some (.pointer (some ⟨n1, 0, none⟩)) := by rw [ha]; exact (putSel_off rfl).trans rfl
      replace ha := Aside0.mk ha
      refine value_ (w1 := w') (v := .pointer (some ⟨n1, 6, none⟩)) (by rfl) rfl ?_ ?_
      · go_simp
        try rfl
      exact hK.out _ _ ⟨AS, cS, B3, d3, B4, d4, B5, d5, s3, s4, s5, vz, w', (by rw [ha.out]; exact putSel_upk 2 hb_ rfl rfl rfl), QB, fun _ => rfl, fun h_ => absurd ((hoff 20 (by kernel_rfl)).symm.trans h_) (by decide), QZ, QS, L3, R3, L4, R4, L5, R5⟩
    refine steps_cons ?_ ?_
    · rintro b a w' ⟨AS, cS, B3, d3, B4, d4, B5, d5, s3, s4, s5, vz, wq, ha, QB, Wf, Wt, QZ, QS, L3, R3, L4, R4, L5, R5⟩ hb_ hon hoff
      have hw_ := Wf (hoff 20 (by kernel_rfl))
      subst hw_
      refine ⟨_, rfl, fun K hK => ?_⟩
      have e5 : a.tmps[5]? = some (.pointer (some ⟨n1, 6, none⟩)) := by rw [ha]; exact putSel_on (e := (2, 5, .pointer (some ⟨n1, 6, none⟩))) 2 rfl rfl (hon 2 (by kernel_rfl)) rfl
      have q0 : w'.cell? ⟨n1, 0, none⟩ = some (.int .i64 a0) := (cn_cell (cn_below H1.out QB)).trans rfl
      have q1 : w'.cell? ⟨n1, 1, none⟩ = some (.int .i64 a1) := (cn_cell (cn_below H1.out QB)).trans rfl
      have q2 : w'.cell? ⟨n1, 2, none⟩ = some (.slice A2 l2.length c2) := (cn_cell (cn_below H1.out QB)).trans rfl
      have q3 : w'.cell? ⟨n1, 3, none⟩ = some (.slice A3 l3.length c3) := (cn_cell (cn_below H1.out QB)).trans rfl
      have q4 : w'.cell? ⟨n1, 4, none⟩ = some (.slice A4 l4.length c4) := (cn_cell (cn_below H1.out QB)).trans rfl
      have q5 : w'.cell? ⟨n1, 5, none⟩ = some (.slice A5 l5.length c5) := (cn_cell (cn_below H1.out QB)).trans rfl
      have q6 : w'.cell? ⟨n1, 6, none⟩ = some (.int .i64 a6) := (cn_cell (cn_below H1.out QB)).trans rfl
      replace ha := Aside0.mk ha
      refine value_ (w1 := w') (v := .int .i64 a6) (by rfl) rfl ?_ ?_
      · go_simp
        try rfl
      exact hK.out _ _ ⟨AS, cS, B3, d3, B4, d4, B5, d5, s3, s4, s5, vz, w', (by rw [ha.out]; exact putSel_upk 3 hb_ rfl rfl rfl), QB, fun _ => rfl, fun h_ => absurd ((hoff 20 (by kernel_rfl)).symm.trans h_) (by decide), QZ, QS, L3, R3, L4, R4, L5, R5⟩
    refine steps_cons ?_ ?_
    · rintro b a w' ⟨AS, cS, B3, d3, B4, d4, B5, d5, s3, s4, s5, vz, wq, ha, QB, Wf, Wt, QZ, QS, L3, R3, L4, R4, L5, R5⟩ hb_ hon hoff
      have hw_ := Wf (hoff 20 (by kernel_rfl))
      subst hw_
      refine ⟨_, rfl, fun K hK => ?_⟩
      have e1 : a.tmps[1]? = some (.pointer (some ⟨n1, 0, none⟩)) := by rw [ha]; exact (putSel_off rfl).trans rfl
      replace ha := Aside0.mk ha
      refine value_ (w1 := w') (v := .pointer (some ⟨n1, 1, none⟩)) (by rfl) rfl ?_ ?_
      · go_simp
        try rfl
      exact hK.out _ _ ⟨AS, cS, B3, d3, B4, d4, B5, d5, s3, s4, s5, vz, w', (by rw [ha.out]; exact putSel_upk 4 hb_ rfl rfl rfl), QB, fun _ => rfl, fun h_ => absurd ((hoff 20 (by kernel_rfl)).symm.trans h_) (by decide), QZ, QS, L3, R3, L4, R4, L5, R5⟩
    refine steps_cons ?_ ?_
    · rintro b a w' ⟨AS, cS, B3, d3, B4, d4, B5, d5, s3, s4, s5, vz, wq, ha, QB, Wf, Wt, QZ, QS, L3, R3, L4, R4, L5, R5⟩ hb_ hon hoff
      have hw_ := Wf (hoff 20 (by kernel_rfl))
      subst hw_
      refine ⟨_, rfl, fun K hK => ?_⟩
      have e7 : a.tmps[7]? = some (.pointer (some ⟨n1, 1, none⟩)) := by rw [ha]; exact putSel_on (e := (4, 7, .pointer (some ⟨n1, 1, none⟩))) 4 rfl rfl (hon 4 (by kernel_rfl)) rfl
      have q0 : w'.cell? ⟨n1, 0, none⟩ = some (.int .i64 a0) := (cn_cell (cn_below H1.out QB)).trans rfl
      have q1 : w'.cell? ⟨n1, 1, none⟩ = some (.int .i64 a1) := (cn_cell (cn_below H1.out QB)).trans rfl
      have q2 : w'.cell? ⟨n1, 2, none⟩ = some (.slice A2 l2.length c2) := (cn_cell (cn_below H1.out QB)).trans rfl
      have q3 : w'.cell? ⟨n1, 3, none⟩ = some (.slice A3 l3.length c3) := (cn_cell (cn_below H1.out QB)).trans rfl
      have q4 : w'.cell? ⟨n1, 4, none⟩ = some (.slice A4 l4.length c4) := (cn_cell (cn_below H1.out QB)).trans rfl
      have q5 : w'.cell? ⟨n1, 5, none⟩ = some (.slice A5 l5.length c5) := (cn_cell (cn_below H1.out QB)).trans rfl
      have q6 : w'.cell? ⟨n1, 6, none⟩ = some (.int .i64 a6) := (cn_cell (cn_below H1.out QB)).trans rfl
      replace ha := Aside0.mk ha
      refine value_ (w1 := w') (v := .agg #[.int .i64 a1, .slice A2 l2.length c2]) (by rfl) rfl ?_ ?_
      · go_simp
        try rfl
      exact hK.out _ _ ⟨AS, cS, B3, d3, B4, d4, B5, d5, s3, s4, s5, vz, w', (by rw [ha.out]; exact putSel_upk 5 hb_ rfl rfl rfl), QB, fun _ => rfl, fun h_ => absurd ((hoff 20 (by kernel_rfl)).symm.trans h_) (by decide), QZ, QS, L3, R3, L4, R4, L5, R5⟩
    refine steps_cons ?_ ?_
    · rintro b a w' ⟨AS, cS, B3, d3, B4, d4, B5, d5, s3, s4, s5, vz, wq, ha, QB, Wf, Wt, QZ, QS, L3, R3, L4, R4, L5, R5⟩ hb_ hon hoff
      have hw_ := Wf (hoff 20 (by kernel_rfl))
      subst hw_
      refine ⟨_, rfl, fun K hK => ?_⟩
      have e8 : a.tmps[8]? = some (.agg #[.int .i64 a1, .slice A2 l2.length c2]) := by rw [ha]; exact putSel_on (e := (5, 8, .agg #[.int .i64 a1, .slice A2 l2.length c2])) 5 rfl rfl (hon 5 (by kernel_rfl)) rfl
      replace ha := Aside0.mk ha
      refine goes_ Try.func15 (by kernel_rfl) rfl #[.agg #[.int .i64 a1, .slice A2 l2.length c2]] (by rfl) rfl rfl (by simp only [List.map_toArray, List.map_cons, List.map_nil, Act.eval, Array.getD_eq_getD_getElem?, e8, Option.getD_some]) ?_
      refine (wharfagelaw0_CopyConfig.calls k a1 A2 c2 l2 tv tl _ (Kd.C_below HN.out.1 (below_step HB.out QB)) HC2.out HT.out).mono ?_
      rintro e wc ⟨v1, rfl, ho, hb⟩
      have hR := Kd.S_lower ho (below_size QB)
      obtain ⟨AV, cV, rfl⟩ := Kd.S_slice hR
      refine ⟨_, rfl, ?_⟩
      exact hK.out _ _ ⟨AV, cV, B3, d3, B4, d4, B5, d5, s3, s4, s5, vz, wc, (by rw [ha.out]; exact putSel_upk 6 hb_ rfl rfl rfl), below_step QB hb, fun _ => rfl, fun h_ => absurd ((hoff 20 (by kernel_rfl)).symm.trans h_) (by decide), fun h_ => absurd ((hoff 19 (by kernel_rfl)).symm.trans h_) (by decide), fun _ => hR, fun h1_ h2_ => Kd.R_below (L3 h1_ h2_) hb, fun h_ => Kd.R_below (R3 h_) hb, fun h1_ h2_ => Kd.R_below (L4 h1_ h2_) hb, fun h_ => Kd.R_below (R4 h_) hb, fun h1_ h2_ => Kd.R_below (L5 h1_ h2_) hb, fun h_ => Kd.R_below (R5 h_) hb⟩
    refine steps_cons ?_ ?_
    · rintro b a w' ⟨AS, cS, B3, d3, B4, d4, B5, d5, s3, s4, s5, vz, wq, ha, QB, Wf, Wt, QZ, QS, L3, R3, L4, R4, L5, R5⟩ hb_ hon hoff
      have hw_ := Wf (hoff 20 (by kernel_rfl))
      subst hw_
      refine ⟨_, rfl, fun K hK => ?_⟩
      replace ha := Aside0.mk ha
      refine Kd.R_lit_step k86 (w0 := wb) wb.heap.size 86 (by rfl) rfl (xs := ([] : List S86)) (inner := []) (ok := fun _ => True) (okp := fun _ => True) ?_ (Reps.none _ _) (fun _ hk => hk) trivial QB (below_size QB) (by simp) ?_
      · first | (go_simp; done) | (go_simp; rfl)
      intro v1 w1 hR hb hg_ hat_
      exact hK.out _ _ ⟨AS, cS, B3, d3, B4, d4, B5, d5, v1, s4, s5, vz, w1, (by rw [ha.out]; exact putSel_upk 7 hb_ rfl rfl rfl), hb, fun _ => rfl, fun h_ => absurd ((hoff 20 (by kernel_rfl)).symm.trans h_) (by decide), fun h_ => absurd ((hoff 19 (by kernel_rfl)).symm.trans h_) (by decide), fun h_ => Kd.S_grown (QS h_) hg_ (fun _ _ => by simp), fun _ _ => hR, fun h_ => absurd ((hoff 10 (by kernel_rfl)).symm.trans h_) (by decide), fun h1_ h2_ => Kd.R_grown (L4 h1_ h2_) hg_ (fun _ _ => by simp), fun h_ => Kd.R_grown (R4 h_) hg_ (fun _ _ => by simp), fun h1_ h2_ => Kd.R_grown (L5 h1_ h2_) hg_ (fun _ _ => by simp), fun h_ => Kd.R_grown (R5 h_) hg_ (fun _ _ => by simp)⟩
    refine steps_cons ?_ ?_
    · rintro b a w' ⟨AS, cS, B3, d3, B4, d4, B5, d5, s3, s4, s5, vz, wq, ha, QB, Wf, Wt, QZ, QS, L3, R3, L4, R4, L5, R5⟩ hb_ hon hoff
      have hw_ := Wf (hoff 20 (by kernel_rfl))
      subst hw_
      refine ⟨_, rfl, fun K hK => ?_⟩
      have e1 : a.tmps[1]? = some (.pointer (some ⟨n1, 0, none⟩)) := by rw [ha]; exact (putSel_off rfl).trans rfl
      replace ha := Aside0.mk ha
      refine value_ (w1 := w') (v := .pointer (some ⟨n1, 3, none⟩)) (by rfl) rfl ?_ ?_
      · go_simp
        try rfl
      exact hK.out _ _ ⟨AS, cS, B3, d3, B4, d4, B5, d5, s3, s4, s5, vz, w', (by rw [ha.out]; exact putSel_upk 8 hb_ rfl rfl rfl), QB, fun _ => rfl, fun h_ => absurd ((hoff 20 (by kernel_rfl)).symm.trans h_) (by decide), QZ, QS, L3, R3, L4, R4, L5, R5⟩
    refine steps_cons ?_ ?_
    · rintro b a w' ⟨AS, cS, B3, d3, B4, d4, B5, d5, s3, s4, s5, vz, wq, ha, QB, Wf, Wt, QZ, QS, L3, R3, L4, R4, L5, R5⟩ hb_ hon hoff
      have hw_ := Wf (hoff 20 (by kernel_rfl))
      subst hw_
      refine ⟨_, rfl, fun K hK => ?_⟩
      have e11 : a.tmps[11]? = some (.pointer (some ⟨n1, 3, none⟩)) := by rw [ha]; exact putSel_on (e := (8, 11, .pointer (some ⟨n1, 3, none⟩))) 8 rfl rfl (hon 8 (by kernel_rfl)) rfl
      have q0 : w'.cell? ⟨n1, 0, none⟩ = some (.int .i64 a0) := (cn_cell (cn_below H1.out QB)).trans rfl
      have q1 : w'.cell? ⟨n1, 1, none⟩ = some (.int .i64 a1) := (cn_cell (cn_below H1.out QB)).trans rfl
      have q2 : w'.cell? ⟨n1, 2, none⟩ = some (.slice A2 l2.length c2) := (cn_cell (cn_below H1.out QB)).trans rfl
      have q3 : w'.cell? ⟨n1, 3, none⟩ = some (.slice A3 l3.length c3) := (cn_cell (cn_below H1.out QB)).trans rfl
      have q4 : w'.cell? ⟨n1, 4, none⟩ = some (.slice A4 l4.length c4) := (cn_cell (cn_below H1.out QB)).trans rfl
      have q5 : w'.cell? ⟨n1, 5, none⟩ = some (.slice A5 l5.length c5) := (cn_cell (cn_below H1.out QB)).trans rfl
      have q6 : w'.cell? ⟨n1, 6, none⟩ = some (.int .i64 a6) := (cn_cell (cn_below H1.out QB)).trans rfl
      replace ha := Aside0.mk ha
      refine value_ (w1 := w') (v := .slice A3 l3.length c3) (by rfl) rfl ?_ ?_
      · go_simp
        try rfl
      exact hK.out _ _ ⟨AS, cS, B3, d3, B4, d4, B5, d5, s3, s4, s5, vz, w', (by rw [ha.out]; exact putSel_upk 9 hb_ rfl rfl rfl), QB, fun _ => rfl, fun h_ => absurd ((hoff 20 (by kernel_rfl)).symm.trans h_) (by decide), QZ, QS, L3, R3, L4, R4, L5, R5⟩
    refine steps_cons ?_ ?_
    · rintro b a w' ⟨AS, cS, B3, d3, B4, d4, B5, d5, s3, s4, s5, vz, wq, ha, QB, Wf, Wt, QZ, QS, L3, R3, L4, R4, L5, R5⟩ hb_ hon hoff
      have hw_ := Wf (hoff 20 (by kernel_rfl))
      subst hw_
      refine ⟨_, rfl, fun K hK => ?_⟩
      have e10 : a.tmps[10]? = some (s3) := by rw [ha]; exact putSel_on (e := (7, 10, s3)) 7 rfl rfl (hon 7 (by kernel_rfl)) rfl
      have e12 : a.tmps[12]? = some (.slice A3 l3.length c3) := by rw [ha]; exact putSel_on (e := (9, 12, .slice A3 l3.length c3)) 9 rfl rfl (hon 9 (by kernel_rfl)) rfl
      replace ha := Aside0.mk ha
      have hk_ := hb_
      have hL := L3 (hon 7 (by kernel_rfl)) hk_
      refine Kd.R_append_rows_step k86 (w0 := wb) wb.heap.size (by rfl) (.tmp 10) (.tmp 12) 25 86 (.agg #[(.bool false), (.int .i64 0)]) 16 rfl Try.underlying25 wharfagelaw0_CopyNode.info3 rfl (by decide) (by omega) s3 [] l3 A3 l3.length c3 (fun _ => True) (fun _ => False) (by simp only [Act.eval, Array.getD_eq_getD_getElem?, e10, Option.getD_some]) (by simp only [Act.eval, Array.getD_eq_getD_getElem?, e12, Option.getD_some]) hL (Kd.C_below HN.out.2.1 (below_step HB.out QB)) (fun _ _ h => h) (fun _ h => h.elim) (fun _ _ => trivial) QB (below_size QB) (by have h9 := HLT.out.1; simp; omega) ?_
      intro v1 w1 hR hb hg_ hat_
      rw [List.nil_append] at hR
      obtain ⟨AV, cV, rfl⟩ := Kd.R_slice hR
      exact hK.out _ _ ⟨AS, cS, AV, cV, B4, d4, B5, d5, s3, s4, s5, vz, w1, (by rw [ha.out]; exact putSel_upk 10 hb_ rfl rfl rfl), hb, fun _ => rfl, fun h_ => absurd ((hoff 20 (by kernel_rfl)).symm.trans h_) (by decide), fun h_ => absurd ((hoff 19 (by kernel_rfl)).symm.trans h_) (by decide), fun h_ => Kd.S_over' (QS h_) (Kd.R_typed hL) (by decide) hg_, fun _ h_ => absurd ((up_self b 10).symm.trans h_) (by decide), fun _ => hR, fun h1_ h2_ => Kd.R_over' (L4 h1_ h2_) (Kd.R_typed hL) (by decide) hg_, fun h_ => Kd.R_over' (R4 h_) (Kd.R_typed hL) (by decide) hg_, fun h1_ h2_ => Kd.R_over' (L5 h1_ h2_) (Kd.R_typed hL) (by decide) hg_, fun h_ => Kd.R_over' (R5 h_) (Kd.R_typed hL) (by decide) hg_⟩
    refine steps_cons ?_ ?_
    · rintro b a w' ⟨AS, cS, B3, d3, B4, d4, B5, d5, s3, s4, s5, vz, wq, ha, QB, Wf, Wt, QZ, QS, L3, R3, L4, R4, L5, R5⟩ hb_ hon hoff
      have hw_ := Wf (hoff 20 (by kernel_rfl))
      subst hw_
      refine ⟨_, rfl, fun K hK => ?_⟩
      replace ha := Aside0.mk ha
      refine Kd.R_lit_step k91 (w0 := wb) wb.heap.size 91 (by rfl) rfl (xs := ([] : List S91)) (inner := []) (ok := fun _ => True) (okp := fun _ => True) ?_ (Reps.none _ _) (fun _ hk => hk) trivial QB (below_size QB) (by simp) ?_
      · first | (go_simp; done) | (go_simp; rfl)
      intro v1 w1 hR hb hg_ hat_
      exact hK.out _ _ ⟨AS, cS, B3, d3, B4, d4, B5, d5, s3, v1, s5, vz, w1, (by rw [ha.out]; exact putSel_upk 11 hb_ rfl rfl rfl), hb, fun _ => rfl, fun h_ => absurd ((hoff 20 (by kernel_rfl)).symm.trans h_) (by decide), fun h_ => absurd ((hoff 19 (by kernel_rfl)).symm.trans h_) (by decide), fun h_ => Kd.S_grown (QS h_) hg_ (fun _ _ => by simp), fun h1_ h2_ => Kd.R_grown (L3 h1_ h2_) hg_ (fun _ _ => by simp), fun h_ => Kd.R_grown (R3 h_) hg_ (fun _ _ => by simp), fun _ _ => hR, fun h_ => absurd ((hoff 14 (by kernel_rfl)).symm.trans h_) (by decide), fun h1_ h2_ => Kd.R_grown (L5 h1_ h2_) hg_ (fun _ _ => by simp), fun h_ => Kd.R_grown (R5 h_) hg_ (fun _ _ => by simp)⟩
    refine steps_cons ?_ ?_
    · rintro b a w' ⟨AS, cS, B3, d3, B4, d4, B5, d5, s3, s4, s5, vz, wq, ha, QB, Wf, Wt, QZ, QS, L3, R3, L4, R4, L5, R5⟩ hb_ hon hoff
      have hw_ := Wf (hoff 20 (by kernel_rfl))
      subst hw_
      refine ⟨_, rfl, fun K hK => ?_⟩
      have e1 : a.tmps[1]? = some (.pointer (some ⟨n1, 0, none⟩)) := by rw [ha]; exact (putSel_off rfl).trans rfl
      replace ha := Aside0.mk ha
      refine value_ (w1 := w') (v := .pointer (some ⟨n1, 4, none⟩)) (by rfl) rfl ?_ ?_
      · go_simp
        try rfl
      exact hK.out _ _ ⟨AS, cS, B3, d3, B4, d4, B5, d5, s3, s4, s5, vz, w', (by rw [ha.out]; exact putSel_upk 12 hb_ rfl rfl rfl), QB, fun _ => rfl, fun h_ => absurd ((hoff 20 (by kernel_rfl)).symm.trans h_) (by decide), QZ, QS, L3, R3, L4, R4, L5, R5⟩
    refine steps_cons ?_ ?_
    · rintro b a w' ⟨AS, cS, B3, d3, B4, d4, B5, d5, s3, s4, s5, vz, wq, ha, QB, Wf, Wt, QZ, QS, L3, R3, L4, R4, L5, R5⟩ hb_ hon hoff
      have hw_ := Wf (hoff 20 (by kernel_rfl))
      subst hw_
      refine ⟨_, rfl, fun K hK => ?_⟩
      have e15 : a.tmps[15]? = some (.pointer (some ⟨n1, 4, none⟩)) := by rw [ha]; exact putSel_on (e := (12, 15, .pointer (some ⟨n1, 4, none⟩))) 12 rfl rfl (hon 12 (by kernel_rfl)) rfl
      have q0 : w'.cell? ⟨n1, 0, none⟩ = some (.int .i64 a0) := (cn_cell (cn_below H1.out QB)).trans rfl
      have q1 : w'.cell? ⟨n1, 1, none⟩ = some (.int .i64 a1) := (cn_cell (cn_below H1.out QB)).trans rfl
      have q2 : w'.cell? ⟨n1, 2, none⟩ = some (.slice A2 l2.length c2) := (cn_cell (cn_below H1.out QB)).trans rfl
      have q3 : w'.cell? ⟨n1, 3, none⟩ = some (.slice A3 l3.length c3) := (cn_cell (cn_below H1.out QB)).trans rfl
      have q4 : w'.cell? ⟨n1, 4, none⟩ = some (.slice A4 l4.length c4) := (cn_cell (cn_below H1.out QB)).trans rfl
      have q5 : w'.cell? ⟨n1, 5, none⟩ = some (.slice A5 l5.length c5) := (cn_cell (cn_below H1.out QB)).trans rfl
      have q6 : w'.cell? ⟨n1, 6, none⟩ = some (.int .i64 a6) := (cn_cell (cn_below H1.out QB)).trans rfl
      replace ha := Aside0.mk ha
      refine value_ (w1 := w') (v := .slice A4 l4.length c4) (by rfl) rfl ?_ ?_
      · go_simp
        try rfl
      exact hK.out _ _ ⟨AS, cS, B3, d3, B4, d4, B5, d5, s3, s4, s5, vz, w', (by rw [ha.out]; exact putSel_upk 13 hb_ rfl rfl rfl), QB, fun _ => rfl, fun h_ => absurd ((hoff 20 (by kernel_rfl)).symm.trans h_) (by decide), QZ, QS, L3, R3, L4, R4, L5, R5⟩
    refine steps_cons ?_ ?_
    · rintro b a w' ⟨AS, cS, B3, d3, B4, d4, B5, d5, s3, s4, s5, vz, wq, ha, QB, Wf, Wt, QZ, QS, L3, R3, L4, R4, L5, R5⟩ hb_ hon hoff
      have hw_ := Wf (hoff 20 (by kernel_rfl))
      subst hw_
      refine ⟨_, rfl, fun K hK => ?_⟩
      have e14 : a.tmps[14]? = some (s4) := by rw [ha]; exact putSel_on (e := (11, 14, s4)) 11 rfl rfl (hon 11 (by kernel_rfl)) rfl
      have e16 : a.tmps[16]? = some (.slice A4 l4.length c4) := by rw [ha]; exact putSel_on (e := (13, 16, .slice A4 l4.length c4)) 13 rfl rfl (hon 13 (by kernel_rfl)) rfl
      replace ha := Aside0.mk ha
      have hk_ := hb_
      have hL := L4 (hon 11 (by kernel_rfl)) hk_
      refine Kd.R_append_rows_step k91 (w0 := wb) wb.heap.size (by rfl) (.tmp 14) (.tmp 16) 26 91 (.agg #[(.int .i64 0), (.int .i64 0), (.int .i64 0), (.int .i64 0), (.int .i64 0)]) 40 rfl Try.underlying26 wharfagelaw0_CopyNode.info4 rfl (by decide) (by omega) s4 [] l4 A4 l4.length c4 (fun _ => True) (fun _ => False) (by simp only [Act.eval, Array.getD_eq_getD_getElem?, e14, Option.getD_some]) (by simp only [Act.eval, Array.getD_eq_getD_getElem?, e16, Option.getD_some]) hL (Kd.C_below HN.out.2.2.1 (below_step HB.out QB)) (fun _ _ h => h) (fun _ h => h.elim) (fun _ _ => trivial) QB (below_size QB) (by have h9 := HLT.out.2.1; simp; omega) ?_
      intro v1 w1 hR hb hg_ hat_
      rw [List.nil_append] at hR
      obtain ⟨AV, cV, rfl⟩ := Kd.R_slice hR
      exact hK.out _ _ ⟨AS, cS, B3, d3, AV, cV, B5, d5, s3, s4, s5, vz, w1, (by rw [ha.out]; exact putSel_upk 14 hb_ rfl rfl rfl), hb, fun _ => rfl, fun h_ => absurd ((hoff 20 (by kernel_rfl)).symm.trans h_) (by decide), fun h_ => absurd ((hoff 19 (by kernel_rfl)).symm.trans h_) (by decide), fun h_ => Kd.S_over' (QS h_) (Kd.R_typed hL) (by decide) hg_, fun h1_ h2_ => Kd.R_over' (L3 h1_ h2_) (Kd.R_typed hL) (by decide) hg_, fun h_ => Kd.R_over' (R3 h_) (Kd.R_typed hL) (by decide) hg_, fun _ h_ => absurd ((up_self b 14).symm.trans h_) (by decide), fun _ => hR, fun h1_ h2_ => Kd.R_over' (L5 h1_ h2_) (Kd.R_typed hL) (by decide) hg_, fun h_ => Kd.R_over' (R5 h_) (Kd.R_typed hL) (by decide) hg_⟩
    refine steps_cons ?_ ?_
    · rintro b a w' ⟨AS, cS, B3, d3, B4, d4, B5, d5, s3, s4, s5, vz, wq, ha, QB, Wf, Wt, QZ, QS, L3, R3, L4, R4, L5, R5⟩ hb_ hon hoff
      have hw_ := Wf (hoff 20 (by kernel_rfl))
      subst hw_
      refine ⟨_, rfl, fun K hK => ?_⟩
      replace ha := Aside0.mk ha
      refine Kd.R_lit_step k50 (w0 := wb) wb.heap.size 50 (by rfl) rfl (xs := ([] : List S50)) (inner := []) (ok := fun _ => True) (okp := fun _ => True) ?_ (Reps.none _ _) (fun _ hk => hk) trivial QB (below_size QB) (by simp) ?_
      · first | (go_simp; done) | (go_simp; rfl)
      intro v1 w1 hR hb hg_ hat_
      exact hK.out _ _ ⟨AS, cS, B3, d3, B4, d4, B5, d5, s3, s4, v1, vz, w1, (by rw [ha.out]; exact putSel_upk 15 hb_ rfl rfl rfl), hb, fun _ => rfl, fun h_ => absurd ((hoff 20 (by kernel_rfl)).symm.trans h_) (by decide), fun h_ => absurd ((hoff 19 (by kernel_rfl)).symm.trans h_) (by decide), fun h_ => Kd.S_grown (QS h_) hg_ (fun _ _ => by simp), fun h1_ h2_ => Kd.R_grown (L3 h1_ h2_) hg_ (fun _ _ => by simp), fun h_ => Kd.R_grown (R3 h_) hg_ (fun _ _ => by simp), fun h1_ h2_ => Kd.R_grown (L4 h1_ h2_) hg_ (fun _ _ => by simp), fun h_ => Kd.R_grown (R4 h_) hg_ (fun _ _ => by simp), fun _ _ => hR, fun h_ => absurd ((hoff 18 (by kernel_rfl)).symm.trans h_) (by decide)⟩
    refine steps_cons ?_ ?_
    · rintro b a w' ⟨AS, cS, B3, d3, B4, d4, B5, d5, s3, s4, s5, vz, wq, ha, QB, Wf, Wt, QZ, QS, L3, R3, L4, R4, L5, R5⟩ hb_ hon hoff
      have hw_ := Wf (hoff 20 (by kernel_rfl))
      subst hw_
      refine ⟨_, rfl, fun K hK => ?_⟩
      have e1 : a.tmps[1]? = some (.pointer (some ⟨n1, 0, none⟩)) := by rw [ha]; exact (putSel_off rfl).trans rfl
      replace ha := Aside0.mk ha
      refine value_ (w1 := w') (v := .pointer (some ⟨n1, 5, none⟩)) (by rfl) rfl ?_ ?_
      · go_simp
        try rfl
      exact hK.out _ _ ⟨AS, cS, B3, d3, B4, d4, B5, d5, s3, s4, s5, vz, w', (by rw [ha.out]; exact putSel_upk 16 hb_ rfl rfl rfl), QB, fun _ => rfl, fun h_ => absurd ((hoff 20 (by kernel_rfl)).symm.trans h_) (by decide), QZ, QS, L3, R3, L4, R4, L5, R5⟩
    refine steps_cons ?_ ?_
    · rintro b a w' ⟨AS, cS, B3, d3, B4, d4, B5, d5, s3, s4, s5, vz, wq, ha, QB, Wf, Wt, QZ, QS, L3, R3, L4, R4, L5, R5⟩ hb_ hon hoff
      have hw_ := Wf (hoff 20 (by kernel_rfl))
      subst hw_
      refine ⟨_, rfl, fun K hK => ?_⟩
      have e19 : a.tmps[19]? = some (.pointer (some ⟨n1, 5, none⟩)) := by rw [ha]; exact putSel_on (e := (16, 19, .pointer (some ⟨n1, 5, none⟩))) 16 rfl rfl (hon 16 (by kernel_rfl)) rfl
      have q0 : w'.cell? ⟨n1, 0, none⟩ = some (.int .i64 a0) := (cn_cell (cn_below H1.out QB)).trans rfl
      have q1 : w'.cell? ⟨n1, 1, none⟩ = some (.int .i64 a1) := (cn_cell (cn_below H1.out QB)).trans rfl
      have q2 : w'.cell? ⟨n1, 2, none⟩ = some (.slice A2 l2.length c2) := (cn_cell (cn_below H1.out QB)).trans rfl
      have q3 : w'.cell? ⟨n1, 3, none⟩ = some (.slice A3 l3.length c3) := (cn_cell (cn_below H1.out QB)).trans rfl
      have q4 : w'.cell? ⟨n1, 4, none⟩ = some (.slice A4 l4.length c4) := (cn_cell (cn_below H1.out QB)).trans rfl
      have q5 : w'.cell? ⟨n1, 5, none⟩ = some (.slice A5 l5.length c5) := (cn_cell (cn_below H1.out QB)).trans rfl
      have q6 : w'.cell? ⟨n1, 6, none⟩ = some (.int .i64 a6) := (cn_cell (cn_below H1.out QB)).trans rfl
      replace ha := Aside0.mk ha
      refine value_ (w1 := w') (v := .slice A5 l5.length c5) (by rfl) rfl ?_ ?_
      · go_simp
        try rfl
      exact hK.out _ _ ⟨AS, cS, B3, d3, B4, d4, B5, d5, s3, s4, s5, vz, w', (by rw [ha.out]; exact putSel_upk 17 hb_ rfl rfl rfl), QB, fun _ => rfl, fun h_ => absurd ((hoff 20 (by kernel_rfl)).symm.trans h_) (by decide), QZ, QS, L3, R3, L4, R4, L5, R5⟩
    refine steps_cons ?_ ?_
    · rintro b a w' ⟨AS, cS, B3, d3, B4, d4, B5, d5, s3, s4, s5, vz, wq, ha, QB, Wf, Wt, QZ, QS, L3, R3, L4, R4, L5, R5⟩ hb_ hon hoff
      have hw_ := Wf (hoff 20 (by kernel_rfl))
      subst hw_
      refine ⟨_, rfl, fun K hK => ?_⟩
      have e18 : a.tmps[18]? = some (s5) := by rw [ha]; exact putSel_on (e := (15, 18, s5)) 15 rfl rfl (hon 15 (by kernel_rfl)) rfl
      have e20 : a.tmps[20]? = some (.slice A5 l5.length c5) := by rw [ha]; exact putSel_on (e := (17, 20, .slice A5 l5.length c5)) 17 rfl rfl (hon 17 (by kernel_rfl)) rfl
      replace ha := Aside0.mk ha
      have hk_ := hb_
      have hL := L5 (hon 15 (by kernel_rfl)) hk_
      refine Kd.R_append_rows_step k50 (w0 := wb) wb.heap.size (by rfl) (.tmp 18) (.tmp 20) 27 50 (.agg #[(.int .i64 0), (.int .i64 0), (.int .i64 0), (.int .i64 0), (.int .i64 0), (.int .i64 0), (.bool false), (.int .i64 0), (.int .i64 0)]) 72 rfl Try.underlying27 wharfagelaw0_CopyNode.info5 rfl (by decide) (by omega) s5 [] l5 A5 l5.length c5 (fun _ => True) (fun _ => False) (by simp only [Act.eval, Array.getD_eq_getD_getElem?, e18, Option.getD_some]) (by simp only [Act.eval, Array.getD_eq_getD_getElem?, e20, Option.getD_some]) hL (Kd.C_below HN.out.2.2.2 (below_step HB.out QB)) (fun _ _ h => h) (fun _ h => h.elim) (fun _ _ => trivial) QB (below_size QB) (by have h9 := HLT.out.2.2; simp; omega) ?_
      intro v1 w1 hR hb hg_ hat_
      rw [List.nil_append] at hR
      obtain ⟨AV, cV, rfl⟩ := Kd.R_slice hR
      exact hK.out _ _ ⟨AS, cS, B3, d3, B4, d4, AV, cV, s3, s4, s5, vz, w1, (by rw [ha.out]; exact putSel_upk 18 hb_ rfl rfl rfl), hb, fun _ => rfl, fun h_ => absurd ((hoff 20 (by kernel_rfl)).symm.trans h_) (by decide), fun h_ => absurd ((hoff 19 (by kernel_rfl)).symm.trans h_) (by decide), fun h_ => Kd.S_over' (QS h_) (Kd.R_typed hL) (by decide) hg_, fun h1_ h2_ => Kd.R_over' (L3 h1_ h2_) (Kd.R_typed hL) (by decide) hg_, fun h_ => Kd.R_over' (R3 h_) (Kd.R_typed hL) (by decide) hg_, fun h1_ h2_ => Kd.R_over' (L4 h1_ h2_) (Kd.R_typed hL) (by decide) hg_, fun h_ => Kd.R_over' (R4 h_) (Kd.R_typed hL) (by decide) hg_, fun _ h_ => absurd ((up_self b 18).symm.trans h_) (by decide), fun _ => hR⟩
    refine steps_cons ?_ ?_
    · rintro b a w' ⟨AS, cS, B3, d3, B4, d4, B5, d5, s3, s4, s5, vz, wq, ha, QB, Wf, Wt, QZ, QS, L3, R3, L4, R4, L5, R5⟩ hb_ hon hoff
      have hw_ := Wf (hoff 20 (by kernel_rfl))
      subst hw_
      refine ⟨_, rfl, fun K hK => ?_⟩
      have e4 : a.tmps[4]? = some (.int .i64 a0) := by rw [ha]; exact putSel_on (e := (1, 4, .int .i64 a0)) 1 rfl rfl (hon 1 (by kernel_rfl)) rfl
      have e6 : a.tmps[6]? = some (.int .i64 a6) := by rw [ha]; exact putSel_on (e := (3, 6, .int .i64 a6)) 3 rfl rfl (hon 3 (by kernel_rfl)) rfl
      have e9 : a.tmps[9]? = some (.agg #[.int .i64 tv, .slice AS tl.length cS]) := by rw [ha]; exact putSel_on (e := (6, 9, .agg #[.int .i64 tv, .slice AS tl.length cS])) 6 rfl rfl (hon 6 (by kernel_rfl)) rfl
      have e13 : a.tmps[13]? = some (.slice B3 l3.length d3) := by rw [ha]; exact putSel_on (e := (10, 13, .slice B3 l3.length d3)) 10 rfl rfl (hon 10 (by kernel_rfl)) rfl
      have e17 : a.tmps[17]? = some (.slice B4 l4.length d4) := by rw [ha]; exact putSel_on (e := (14, 17, .slice B4 l4.length d4)) 14 rfl rfl (hon 14 (by kernel_rfl)) rfl
      have e21 : a.tmps[21]? = some (.slice B5 l5.length d5) := by rw [ha]; exact putSel_on (e := (18, 21, .slice B5 l5.length d5)) 18 rfl rfl (hon 18 (by kernel_rfl)) rfl
      replace ha := Aside0.mk ha
      refine value_ (w1 := w') (v := .agg #[.int .i64 a0, .int .i64 tv, .slice AS tl.length cS, .slice B3 l3.length d3, .slice B4 l4.length d4, .slice B5 l5.length d5, .int .i64 a6]) (by rfl) rfl ?_ ?_
      · go_simp
        try rfl
      exact hK.out _ _ ⟨AS, cS, B3, d3, B4, d4, B5, d5, s3, s4, s5, .agg #[.int .i64 a0, .int .i64 tv, .slice AS tl.length cS, .slice B3 l3.length d3, .slice B4 l4.length d4, .slice B5 l5.length d5, .int .i64 a6], w', (by rw [ha.out]; exact putSel_upk 19 hb_ rfl rfl rfl), QB, fun _ => rfl, fun h_ => absurd ((hoff 20 (by kernel_rfl)).symm.trans h_) (by decide), fun _ => rfl, QS, L3, R3, L4, R4, L5, R5⟩
    refine steps_cons ?_ ?_
    · rintro b a w' ⟨AS, cS, B3, d3, B4, d4, B5, d5, s3, s4, s5, vz, wq, ha, QB, Wf, Wt, QZ, QS, L3, R3, L4, R4, L5, R5⟩ hb_ hon hoff
      have hw_ := Wf hb_
      subst hw_
      refine ⟨_, rfl, fun K hK => ?_⟩
      obtain rfl := QZ (hon 19 (by kernel_rfl))
      have e22 : a.tmps[22]? = some (.agg #[.int .i64 a0, .int .i64 tv, .slice AS tl.length cS, .slice B3 l3.length d3, .slice B4 l4.length d4, .slice B5 l5.length d5, .int .i64 a6]) := by rw [ha]; exact putSel_on (e := (19, 22, .agg #[.int .i64 a0, .int .i64 tv, .slice AS tl.length cS, .slice B3 l3.length d3, .slice B4 l4.length d4, .slice B5 l5.length d5, .int .i64 a6])) 19 rfl rfl (hon 19 (by kernel_rfl)) rfl
      have e2 : a.tmps[2]? = some (.pointer (some ⟨n2, 0, none⟩)) := by rw [ha]; exact (putSel_off rfl).trans rfl
      replace ha := Aside0.mk ha
      have z0 : w'.cell? ⟨n2, 0, none⟩ = some (.int .i64 0) := (cn_cell (cn_below H2.out QB)).trans rfl
      have y0 : w'.frozen? ⟨n2, 0, none⟩ = false := cn_free (cn_below H2.out QB)
      have z1 : w'.cell? ⟨n2, 1, none⟩ = some (.int .i64 0) := (cn_cell (cn_below H2.out QB)).trans rfl
      have y1 : w'.frozen? ⟨n2, 1, none⟩ = false := cn_free (cn_below H2.out QB)
      have z2 : w'.cell? ⟨n2, 2, none⟩ = some (.slice none 0 0) := (cn_cell (cn_below H2.out QB)).trans rfl
      have y2 : w'.frozen? ⟨n2, 2, none⟩ = false := cn_free (cn_below H2.out QB)
      have z3 : w'.cell? ⟨n2, 3, none⟩ = some (.slice none 0 0) := (cn_cell (cn_below H2.out QB)).trans rfl
      have y3 : w'.frozen? ⟨n2, 3, none⟩ = false := cn_free (cn_below H2.out QB)
      have z4 : w'.cell? ⟨n2, 4, none⟩ = some (.slice none 0 0) := (cn_cell (cn_below H2.out QB)).trans rfl
      have y4 : w'.frozen? ⟨n2, 4, none⟩ = false := cn_free (cn_below H2.out QB)
      have z5 : w'.cell? ⟨n2, 5, none⟩ = some (.slice none 0 0) := (cn_cell (cn_below H2.out QB)).trans rfl
      have y5 : w'.frozen? ⟨n2, 5, none⟩ = false := cn_free (cn_below H2.out QB)
      have z6 : w'.cell? ⟨n2, 6, none⟩ = some (.int .i64 0) := (cn_cell (cn_below H2.out QB)).trans rfl
      have y6 : w'.frozen? ⟨n2, 6, none⟩ = false := cn_free (cn_below H2.out QB)
      refine skip_ (w1 := (((((((w'.setCell ⟨n2, 0, none⟩ (.int .i64 a0)).setCell ⟨n2, 1, none⟩ (.int .i64 tv)).setCell ⟨n2, 2, none⟩ (.slice AS tl.length cS)).setCell ⟨n2, 3, none⟩ (.slice B3 l3.length d3)).setCell ⟨n2, 4, none⟩ (.slice B4 l4.length d4)).setCell ⟨n2, 5, none⟩ (.slice B5 l5.length d5)).setCell ⟨n2, 6, none⟩ (.int .i64 a6))) (by rfl) rfl ?_ ?_
      · go_simp
        try rfl
      exact hK.out _ _ ⟨AS, cS, B3, d3, B4, d4, B5, d5, s3, s4, s5, .agg #[.int .i64 a0, .int .i64 tv, .slice AS tl.length cS, .slice B3 l3.length d3, .slice B4 l4.length d4, .slice B5 l5.length d5, .int .i64 a6], w', (by rw [ha.out]; exact (putSel_same rfl).symm), QB, fun h_ => absurd ((up_self b 20).symm.trans h_) (by decide), fun _ => rfl, fun _ => rfl, QS, L3, R3, L4, R4, L5, R5⟩
    exact steps_nil
  rintro b a wx hall ⟨AS, cS, B3, d3, B4, d4, B5, d5, s3, s4, s5, vz, wq, ha, QB, Wf, Wt, QZ, QS, L3, R3, L4, R4, L5, R5⟩
  have hb0_ := hall 0 (by kernel_rfl)
  have hb1_ := hall 1 (by kernel_rfl)
  have hb2_ := hall 2 (by kernel_rfl)
  have hb3_ := hall 3 (by kernel_rfl)
  have hb4_ := hall 4 (by kernel_rfl)
  have hb5_ := hall 5 (by kernel_rfl)
  have hb6_ := hall 6 (by kernel_rfl)
  have hb7_ := hall 7 (by kernel_rfl)
  have hb8_ := hall 8 (by kernel_rfl)
  have hb9_ := hall 9 (by kernel_rfl)
  have hb10_ := hall 10 (by kernel_rfl)
  have hb11_ := hall 11 (by kernel_rfl)
  have hb12_ := hall 12 (by kernel_rfl)
  have hb13_ := hall 13 (by kernel_rfl)
  have hb14_ := hall 14 (by kernel_rfl)
  have hb15_ := hall 15 (by kernel_rfl)
  have hb16_ := hall 16 (by kernel_rfl)
  have hb17_ := hall 17 (by kernel_rfl)
  have hb18_ := hall 18 (by kernel_rfl)
  have hb19_ := hall 19 (by kernel_rfl)
  have hb20_ := hall 20 (by kernel_rfl)
  subst ha
  simp only [putSel, hb0_, hb1_, hb2_, hb3_, hb4_, hb5_, hb6_, hb7_, hb8_, hb9_, hb10_, hb11_, hb12_, hb13_, hb14_, hb15_, hb16_, hb17_, hb18_, hb19_, if_true, Act.put, List.setIfInBounds_toArray, List.set_cons_zero, List.set_cons_succ]
  obtain rfl := Wt hb20_
  have QSb := QS hb6_
  have R3b := R3 hb10_
  have R4b := R4 hb14_
  have R5b := R5 hb18_
  clear QS L3 R3 L4 R4 L5 R5 Wf Wt
  have hz : ((((((((wq.setCell ⟨n2, 0, none⟩ (.int .i64 a0)).setCell ⟨n2, 1, none⟩ (.int .i64 tv)).setCell ⟨n2, 2, none⟩ (.slice AS tl.length cS)).setCell ⟨n2, 3, none⟩ (.slice B3 l3.length d3)).setCell ⟨n2, 4, none⟩ (.slice B4 l4.length d4)).setCell ⟨n2, 5, none⟩ (.slice B5 l5.length d5)).setCell ⟨n2, 6, none⟩ (.int .i64 a6))).heap[n2]? = some (.cells #[.int .i64 a0, .int .i64 tv, .slice AS tl.length cS, .slice B3 l3.length d3, .slice B4 l4.length d4, .slice B5 l5.length d5, .int .i64 a6] 29 (0, 0)) := by refine blk_put (cs := #[.int .i64 a0, .int .i64 tv, .slice AS tl.length cS, .slice B3 l3.length d3, .slice B4 l4.length d4, .slice B5 l5.length d5, .int .i64 0]) ?_ 6 _ rfl; refine blk_put (cs := #[.int .i64 a0, .int .i64 tv, .slice AS tl.length cS, .slice B3 l3.length d3, .slice B4 l4.length d4, .slice none 0 0, .int .i64 0]) ?_ 5 _ rfl; refine blk_put (cs := #[.int .i64 a0, .int .i64 tv, .slice AS tl.length cS, .slice B3 l3.length d3, .slice none 0 0, .slice none 0 0, .int .i64 0]) ?_ 4 _ rfl; refine blk_put (cs := #[.int .i64 a0, .int .i64 tv, .slice AS tl.length cS, .slice none 0 0, .slice none 0 0, .slice none 0 0, .int .i64 0]) ?_ 3 _ rfl; refine blk_put (cs := #[.int .i64 a0, .int .i64 tv, .slice none 0 0, .slice none 0 0, .slice none 0 0, .slice none 0 0, .int .i64 0]) ?_ 2 _ rfl; refine blk_put (cs := #[.int .i64 a0, .int .i64 0, .slice none 0 0, .slice none 0 0, .slice none 0 0, .slice none 0 0, .int .i64 0]) ?_ 1 _ rfl; refine blk_put (cs := #[.int .i64 0, .int .i64 0, .slice none 0 0, .slice none 0 0, .slice none 0 0, .slice none 0 0, .int .i64 0]) ?_ 0 _ rfl; exact cn_below H2.out QB
  have hk : KeepBut wq ((((((((wq.setCell ⟨n2, 0, none⟩ (.int .i64 a0)).setCell ⟨n2, 1, none⟩ (.int .i64 tv)).setCell ⟨n2, 2, none⟩ (.slice AS tl.length cS)).setCell ⟨n2, 3, none⟩ (.slice B3 l3.length d3)).setCell ⟨n2, 4, none⟩ (.slice B4 l4.length d4)).setCell ⟨n2, 5, none⟩ (.slice B5 l5.length d5)).setCell ⟨n2, 6, none⟩ (.int .i64 a6))) n2 none := by with_reducible repeat (first | exact KeepBut.refl _ _ _ | refine KeepBut.set_ ?_ _ _)
  have hb : Below w.heap.size w ((((((((wq.setCell ⟨n2, 0, none⟩ (.int .i64 a0)).setCell ⟨n2, 1, none⟩ (.int .i64 tv)).setCell ⟨n2, 2, none⟩ (.slice AS tl.length cS)).setCell ⟨n2, 3, none⟩ (.slice B3 l3.length d3)).setCell ⟨n2, 4, none⟩ (.slice B4 l4.length d4)).setCell ⟨n2, 5, none⟩ (.slice B5 l5.length d5)).setCell ⟨n2, 6, none⟩ (.int .i64 a6))) := by (with_reducible repeat (first | exact below_step HB.out QB | refine below_set ?_ HNN.out.2.1))
  generalize hZ : ((((((((wq.setCell ⟨n2, 0, none⟩ (.int .i64 a0)).setCell ⟨n2, 1, none⟩ (.int .i64 tv)).setCell ⟨n2, 2, none⟩ (.slice AS tl.length cS)).setCell ⟨n2, 3, none⟩ (.slice B3 l3.length d3)).setCell ⟨n2, 4, none⟩ (.slice B4 l4.length d4)).setCell ⟨n2, 5, none⟩ (.slice B5 l5.length d5)).setCell ⟨n2, 6, none⟩ (.int .i64 a6))) = Z at hz hk hb ⊢
  clear hZ
  have hu := Try.underlying29
  go_wp2_with fail
  refine bodyPost_ret (results_cell_row rfl _ _ n2 29 #[.int .i64 a0, .int .i64 tv, .slice AS tl.length cS, .slice B3 l3.length d3, .slice B4 l4.length d4, .slice B5 l5.length d5, .int .i64 a6] (0, 0) _ rfl hz Try.underlying29 rfl (by kernel_rfl)) rfl ?_
  have hle : w.heap.size ≤ wb.heap.size := below_size HB.out
  have hn2 : n2 < wb.heap.size := cn_lt H2.out
  exact ⟨_, _, _, _, rfl, Kd.S_lower (Kd.S_mono (Kd.S_keep (Kd.S_bound QSb) hk (fun k hq => by have := hq.2.1; omega)) (fun _ _ => trivial)) hle, Kd.R_lower (Kd.R_mono (Kd.R_keep (Kd.R_bound R3b) hk (fun k hq => by have := hq.2.1; omega)) (fun _ _ => trivial)) hle, Kd.R_lower (Kd.R_mono (Kd.R_keep (Kd.R_bound R4b) hk (fun k hq => by have := hq.2.1; omega)) (fun _ _ => trivial)) hle, Kd.R_lower (Kd.R_mono (Kd.R_keep (Kd.R_bound R5b) hk (fun k hq => by have := hq.2.1; omega)) (fun _ _ => trivial)) hle, hb⟩


end Go.Proofs.Ytlapbhgkmmeeoaa.PSpareRoom
