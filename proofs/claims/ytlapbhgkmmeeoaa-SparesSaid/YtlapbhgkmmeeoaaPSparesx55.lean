/- Several texts of this proof in one file (put together by a program of this session). -/
import Derived.Test.YtlapbhgkmmeeoaaPSparesx17
import Derived.Test.YtlapbhgkmmeeoaaPSparesx4
import Derived.Test.YtlapbhgkmmeeoaaPSparesx35
import Derived.Test.YtlapbhgkmmeeoaaPSparesx28
section
/- Contracts: what calls of these functions of the program do, each as a plain function; written by a program of this session. -/
namespace Go.Proofs.Ytlapbhgkmmeeoaa.PSpares
open Go.RowKit Go.Proofs.YtlapbhgkmmeeoaaW.PrintWords Go.Proofs.YtlapbhgkmmeeoaaW.PrintLast Go.Proofs.YtlapbhgkmmeeoaaW.PrintMore
attribute [local go_sem] max2_int min2_int max_two min_two max_three min_three max_four min_four   -- for this text's walks alone
set_option linter.unusedVariables false
set_option linter.unusedSimpArgs false

attribute [local go_sem high] eqA83
/-! ### wharfagelaw0_SameBacks: function 44 -/
def wharfagelaw0_SameBacks.l0 : Nat → List (S83) → List (S83) → Int → Option (Bool)
 | 0, _, _, _ => none
 | k + 1, x0, x1, x5 => if x5 < (x0.length : Int) then (if 0 ≤ x5 then (if x5 < (x1.length : Int) then (if (!(((rd_T83 x0 x5).f0) == ((rd_T83 x1 x5).f0)) || (!(((rd_T83 x0 x5).f1) == ((rd_T83 x1 x5).f1)))) = true then (none) else (wharfagelaw0_SameBacks.l0 k x0 x1 (wrap64 (x5 + 1)))) else (none)) else (none)) else (some true)
def wharfagelaw0_SameBacks.f (k : Nat) (l0 : List (S83)) (l1 : List (S83)) : Option (Bool) := if (l0.length : Int) = (l1.length : Int) then (wharfagelaw0_SameBacks.l0 k l0 l1 0) else (none)
theorem wharfagelaw0_SameBacks.mono_l : ∀ k, (∀ y0 y1 y2, LeO (wharfagelaw0_SameBacks.l0 k y0 y1 y2) (wharfagelaw0_SameBacks.l0 (k + 1) y0 y1 y2))
 | 0 => fun _ _ _ r h => by simp [wharfagelaw0_SameBacks.l0] at h
 | k + 1 => by
  have ih0 := wharfagelaw0_SameBacks.mono_l k
  ·intro y0 y1 y2
   unfold wharfagelaw0_SameBacks.l0
   repeat' first
   | (with_reducible exact ih0 _ _ _)
   | (with_reducible exact LeO.refl _)
   | (with_reducible exact LeO.none _)
   | (with_reducible refine LeO.ite ?_ ?_)
   | (with_reducible refine LeO.bind ?_ (fun _ => ?_))
   | exact ih0 _ _ _
   | exact LeO.none _
   | refine LeO.ite ?_ ?_
   | refine LeO.bind ?_ (fun _ => ?_)
theorem wharfagelaw0_SameBacks.mono : ∀ a0 a1 k, LeO (wharfagelaw0_SameBacks.f k a0 a1) (wharfagelaw0_SameBacks.f (k + 1) a0 a1) := by
 intro a0 a1 k
 have ih0 := wharfagelaw0_SameBacks.mono_l k
 unfold wharfagelaw0_SameBacks.f
 repeat' first
   | (with_reducible exact ih0 _ _ _)
   | (with_reducible exact LeO.refl _)
   | (with_reducible exact LeO.none _)
   | (with_reducible refine LeO.ite ?_ ?_)
   | (with_reducible refine LeO.bind ?_ (fun _ => ?_))
   | exact ih0 _ _ _
   | exact LeO.none _
   | refine LeO.ite ?_ ?_
   | refine LeO.bind ?_ (fun _ => ?_)
set_option maxHeartbeats 8000000 in
set_option maxRecDepth 100000 in
theorem wharfagelaw0_SameBacks.calls (k : Nat) (A0 : Option Addr) (c0 : Nat) (l0 : List (S83)) (A1 : Option Addr) (c1 : Nat) (l1 : List (S83)) (r : Bool) (w : World) (hr0 : Kd.C k83 w A0 l0.length l0) (hc0 : l0.length ≤ c0) (hr1 : Kd.C k83 w A1 l1.length l1) (hc1 : l1.length ≤ c1) (h : wharfagelaw0_SameBacks.f k l0 l1 = some r) :
  Calls Try.prog 44 #[.slice A0 l0.length c0, .slice A1 l1.length c1] w fun e w' => e = .returned (.bool r) ∧ Drawn0 w w' := by
 have hu83 := Try.underlying83
 have HR0 := Aside0.mk hr0
 have HC0 := Aside0.mk hc0
 clear hr0 hc0
 have HR1 := Aside0.mk hr1
 have HC1 := Aside0.mk hc1
 clear hr1 hc1
 have H : (if (l0.length : Int) = (l1.length : Int) then (wharfagelaw0_SameBacks.l0 k l0 l1 0) else (none)) = some r := h
 clear h
 by_cases c3 : (l0.length : Int) = (l1.length : Int)
 ·rw [if_pos c3] at H
  have c3b0 : ((l0.length : Int) == (l1.length : Int)) = true := beq_iff_eq.mpr c3
  have c3b1 : ((l0.length : Int) != (l1.length : Int)) = false := bne_eq_false_iff_eq.mpr c3
  have c3b2 : (l0.length == l1.length) = true := by first | simpa using c3 | (simp at c3 ⊢; omega)
  clear c3
  have H' := Aside0.mk H
  clear H
  go_enter Try.func44, Try.ntmps44
  go_wp2
  repeat (go_quiet (fail); try go_wp2)
  go_loopg [5] k (fun kq v5 w' => ∃ (x5_1 : Int), v5 = .int .i64 x5_1 ∧ Aside0 (wharfagelaw0_SameBacks.l0 kq l0 l1 x5_1 = some r) ∧ Aside0 (kq ≤ k) ∧ Drawn0 w w')
  case atStart => exact ⟨(0), (by first | rfl | (simp; done) | (simp [*]; done)), H', ⟨Nat.le_refl _⟩, by repeat (first | exact Drawn0.refl _ | apply Drawn0.step)⟩
  case round =>
   clear H'
   try clear c1
   try clear p2
   try clear c3
   try clear c3b0
   try clear c3b1
   try clear c3b2
   obtain ⟨x5_1, rfl, HA, HK1, ⟨m1, rfl⟩⟩ := hrel
   cases gk with
   | zero => exact absurd HA.out (by simp [wharfagelaw0_SameBacks.l0])
   | succ k1 =>
    have H := HA.out
    clear HA
    simp only [wharfagelaw0_SameBacks.l0] at H
    by_cases c4 : x5_1 < (l0.length : Int)
    ·rw [if_pos c4] at H
     have c4b0 : decide (x5_1 < (l0.length : Int)) = true := decide_eq_true c4
     clear c4
     by_cases c5 : 0 ≤ x5_1
     ·rw [if_pos c5] at H
      have c5b0 : decide (0 ≤ x5_1) = true := decide_eq_true c5
      clear c5
      by_cases c6 : x5_1 < (l1.length : Int)
      ·rw [if_pos c6] at H
       have c6b0 : decide (x5_1 < (l1.length : Int)) = true := decide_eq_true c6
       clear c6
       by_cases c7 : (!(((rd_T83 l0 x5_1).f0) == ((rd_T83 l1 x5_1).f0)) || (!(((rd_T83 l0 x5_1).f1) == ((rd_T83 l1 x5_1).f1)))) = true
       ·rw [if_pos c7] at H
        exact absurd H (by simp)
       ·rw [if_neg c7] at H
        have c7b0 : (!(((rd_T83 l0 x5_1).f0) == ((rd_T83 l1 x5_1).f0)) || (!(((rd_T83 l0 x5_1).f1) == ((rd_T83 l1 x5_1).f1)))) = false := by simpa using c7
        clear c7
        have H' := Aside0.mk H
        clear H
        have p212 : 0 ≤ (x5_1 : Int) := of_decide_eq_true (by first | (with_reducible assumption) | assumption)
        have q212 : x5_1 < (l0.length : Int) := of_decide_eq_true (by first | (with_reducible assumption) | assumption)
        obtain ⟨ad212, e212, hx212_0, hx212_1⟩ := at_T83 HR0.out x5_1 p212 q212
        cases e212
        replace p212 := eq_true p212
        replace q212 := eq_true q212
        have p213 : 0 ≤ (x5_1 : Int) := of_decide_eq_true (by first | (with_reducible assumption) | assumption)
        have q213 : x5_1 < (l1.length : Int) := of_decide_eq_true (by first | (with_reducible assumption) | assumption)
        obtain ⟨ad213, e213, hx213_0, hx213_1⟩ := at_T83 HR1.out x5_1 p213 q213
        cases e213
        replace p213 := eq_true p213
        replace q213 := eq_true q213
        go_wp2
        repeat (go_quiet (fail); try go_wp2)
        go_roundg k1
        case measure => have := HK1.out; omega
        case rel => exact ⟨(wrap64 (x5_1 + 1)), (by first | rfl | (simp; done) | (simp [*]; done)), H', ⟨by have := HK1.out; omega⟩, by repeat (first | exact Drawn0.refl _ | apply Drawn0.step)⟩
      ·rw [if_neg c6] at H
       exact absurd H (by simp)
     ·rw [if_neg c5] at H
      exact absurd H (by simp)
    ·rw [if_neg c4] at H
     have c4b0 : decide (x5_1 < (l0.length : Int)) = false := decide_eq_false c4
     clear c4
     obtain rfl := Option.some.inj H
     go_wp2
     repeat (go_quiet (fail); try go_wp2)
     go_ret
     exact ⟨by first | rfl | (simp; done) | (simp [*]; done), by repeat (first | exact Drawn0.refl _ | apply Drawn0.step)⟩
 ·rw [if_neg c3] at H
  exact absurd H (by simp)

end Go.Proofs.Ytlapbhgkmmeeoaa.PSpares
end
section
/- Contracts: what calls of these functions of the program do, each as a plain function; written by a program of this session. -/
namespace Go.Proofs.Ytlapbhgkmmeeoaa.PSpares
open Go.RowKit Go.Proofs.YtlapbhgkmmeeoaaW.PrintWords Go.Proofs.YtlapbhgkmmeeoaaW.PrintLast Go.Proofs.YtlapbhgkmmeeoaaW.PrintMore
attribute [local go_sem] max2_int min2_int max_two min_two max_three min_three max_four min_four   -- for this text's walks alone
set_option linter.unusedVariables false
set_option linter.unusedSimpArgs false

/-! ### wharfagelaw0_SameConfig: function 28, by hand -/
instance wharfagelaw0_SameConfig.decB : DecidableEq S83 := fun a b => decidable_of_iff (a.f0 = b.f0 ∧ a.f1 = b.f1) (by cases a; cases b; simp)
instance wharfagelaw0_SameConfig.decS : DecidableEq S53 := fun a b => decidable_of_iff (a.f0 = b.f0 ∧ a.f1 = b.f1 ∧ a.f2 = b.f2 ∧ a.f3 = b.f3) (by cases a; cases b; simp)
def wharfagelaw0_SameConfig.f (k : Nat) (a0 : Int) (l0 : List S53) (a1 : Int) (l1 : List S53) : Option Bool := if a0 = a1 ∧ l0 = l1 ∧ l0.length < 2932031007402 ∧ (∀ x ∈ l0, x.f3.length < k ∧ x.f3.length < 8796093022208) then some true else none
theorem wharfagelaw0_SameConfig.mono : ∀ a0 a1 a2 a3 k, LeO (wharfagelaw0_SameConfig.f k a0 a1 a2 a3) (wharfagelaw0_SameConfig.f (k + 1) a0 a1 a2 a3) := by
 intro a0 a1 a2 a3 k
 unfold wharfagelaw0_SameConfig.f
 by_cases h : a0 = a2 ∧ a1 = a3 ∧ a1.length < 2932031007402 ∧ (∀ x ∈ a1, x.f3.length < k ∧ x.f3.length < 8796093022208)
 ·rw [if_pos h, if_pos ⟨h.1, h.2.1, h.2.2.1, fun x hx => ⟨Nat.lt_succ_of_lt (h.2.2.2 x hx).1, (h.2.2.2 x hx).2⟩⟩]
  exact LeO.refl _
 ·rw [if_neg h]
  exact LeO.none _
theorem wharfagelaw0_SameConfig.backs (l : List S83) (hl : l.length ≤ 9223372036854775806) (d : Nat) : ∀ (k i : Nat), l.length - i ≤ d → d < k → i ≤ l.length → wharfagelaw0_SameBacks.l0 k l l (i : Int) = some true := by
 induction d with
 | zero =>
  intro k i hd hk hi
  obtain ⟨k, rfl⟩ : ∃ m, k = m + 1 := ⟨k - 1, by omega⟩
  simp only [wharfagelaw0_SameBacks.l0]
  rw [if_neg (by omega)]
 | succ d ih =>
  intro k i hd hk hi
  obtain ⟨k, rfl⟩ : ∃ m, k = m + 1 := ⟨k - 1, by omega⟩
  simp only [wharfagelaw0_SameBacks.l0]
  by_cases h : (i : Int) < (l.length : Int)
  ·rw [if_pos h, if_pos (by omega), if_pos h, if_neg (by simp), show wrap64 ((i : Int) + 1) = ((i + 1 : Nat) : Int) by unfold wrap64; omega]
   exact ih k (i + 1) (by omega) (by omega) (by omega)
  ·rw [if_neg h]
theorem wharfagelaw0_SameConfig.backs_f (l : List S83) (hl : l.length ≤ 9223372036854775806) (k : Nat) (hk : l.length < k) : wharfagelaw0_SameBacks.f k l l = some true := by
 unfold wharfagelaw0_SameBacks.f
 rw [if_pos rfl]
 exact wharfagelaw0_SameConfig.backs l hl l.length k 0 (by omega) hk (by omega)
theorem wharfagelaw0_SameConfig.cn_lt {w : World} {b : Nat} {o : Obj} (h : w.heap[b]? = some o) : b < w.heap.size := (Array.getElem?_eq_some_iff.1 h).1
theorem wharfagelaw0_SameConfig.cn_below {w w1 : World} {b : Nat} {o : Obj} (h : w.heap[b]? = some o) (hb : Below w.heap.size w w1) : w1.heap[b]? = some o := (hb.block b (wharfagelaw0_SameConfig.cn_lt h)).trans h
theorem wharfagelaw0_SameConfig.cn_alloc {w : World} {b : Nat} {o : Obj} (h : w.heap[b]? = some o) (o2 : Obj) : (w.alloc o2).heap[b]? = some o := (Below.heap_alloc w o2 _ (wharfagelaw0_SameConfig.cn_lt h)).trans h
theorem wharfagelaw0_SameConfig.cn_cell {w : World} {b j : Nat} {cs : Array Value} {t : TypeId} {m : Nat × Nat} (h : w.heap[b]? = some (.cells cs t m)) : w.cell? ⟨b, j, none⟩ = cs[j]? := by simp [World.cell?, h]
theorem wharfagelaw0_SameConfig.cn_free {w : World} {b j : Nat} {cs : Array Value} {t : TypeId} (h : w.heap[b]? = some (.cells cs t (0, 0))) : w.frozen? ⟨b, j, none⟩ = false := by simp [World.frozen?, h]
theorem wharfagelaw0_SameConfig.tab6 : rtab .any (opsOf Try.f28 6) = rtab .any (opsOf Try.f28 6) := rfl
def wharfagelaw0_SameConfig.B6 : List Nat := [0, 1, 0, 7, 15, 0, 32, 0, 224, 480, 0, 0, 3103, 8191]
theorem wharfagelaw0_SameConfig.bits6 : waitsOk (rtab .any (opsOf Try.f28 6)).2 wharfagelaw0_SameConfig.B6 = true := by kernel_rfl
set_option maxHeartbeats 8000000 in
set_option maxRecDepth 100000 in
theorem wharfagelaw0_SameConfig.calls (k : Nat) (a0 : Int) (A0 : Option Addr) (c0 : Nat) (l : List S53) (a1 : Int) (A1 : Option Addr) (c1 : Nat) (l1 : List S53) (r : Bool) (w : World) (hr0 : Kd.C k53 w A0 l.length l) (hc0 : l.length ≤ c0) (hr1 : Kd.C k53 w A1 l1.length l1) (hc1 : l1.length ≤ c1) (h : wharfagelaw0_SameConfig.f k a0 l a1 l1 = some r) :
    Calls Try.prog 28 #[.agg #[.int .i64 a0, .slice A0 l.length c0], .agg #[.int .i64 a1, .slice A1 l1.length c1]] w fun e w' => e = .returned (.bool r) ∧ Below w.heap.size w w' := by
  unfold wharfagelaw0_SameConfig.f at h
  by_cases hh : a0 = a1 ∧ l = l1 ∧ l.length < 2932031007402 ∧ (∀ x ∈ l, x.f3.length < k ∧ x.f3.length < 8796093022208)
  case neg => rw [if_neg hh] at h; cases h
  rw [if_pos hh] at h
  obtain rfl : true = r := Option.some.inj h
  obtain ⟨rfl, rfl, hll, hk⟩ := hh
  have HLL := Aside0.mk hll
  have hu24 := Try.underlying24
  have hu53 := Try.underlying53
  have HR0 := Aside0.mk hr0
  have HR1 := Aside0.mk hr1
  have HC0 := Aside0.mk hc0
  have HC1 := Aside0.mk hc1
  have HK := Aside0.mk hk
  clear hr0 hr1 h hk hc0 hc1 hll
  have ea : (a0 != a0) = false := bne_self_eq_false a0
  have eb : (a0 == a0) = true := beq_self_eq_true a0
  have ec : ((l.length : Int) != (l.length : Int)) = false := bne_self_eq_false _
  have ed : ((l.length : Int) == (l.length : Int)) = true := beq_self_eq_true _
  go_enter Try.func28, Try.ntmps28
  go_upto_region 3 with fail
  obtain ⟨n1, hn1⟩ : ∃ n, n = w.heap.size + 1 := ⟨_, rfl⟩
  obtain ⟨n0, hn0⟩ : ∃ n, n = w.heap.size := ⟨_, rfl⟩
  obtain ⟨wb, hwb⟩ : ∃ x_, x_ = (w.alloc (.cells #[.int .i64 a0, .slice A0 l.length c0] 24)).alloc (.cells #[.int .i64 a0, .slice A1 l.length c1] 24) := ⟨_, rfl⟩
  have H0 := Aside0.mk (show wb.heap[n0]? = some (.cells #[.int .i64 a0, .slice A0 l.length c0] 24 (0, 0)) by rw [hwb, hn0]; exact wharfagelaw0_SameConfig.cn_alloc (heap_alloc_new w _) _)
  have H1 := Aside0.mk (show wb.heap[n1]? = some (.cells #[.int .i64 a0, .slice A1 l.length c1] 24 (0, 0)) by rw [hwb, hn1]; simpa only [World.size_alloc] using heap_alloc_new (w.alloc (.cells #[.int .i64 a0, .slice A0 l.length c0] 24)) (.cells #[.int .i64 a0, .slice A1 l.length c1] 24 (0, 0)))
  have HB := Aside0.mk (show Below w.heap.size w wb by rw [hwb]; exact below_alloc (below_alloc (Below.refl _ _) _) _)
  rw [← hwb, ← hn1, ← hn0]
  clear hwb hn0 hn1 ea eb ec ed
  go_wp2_with fail
  go_loopg [5] (l.length + 1) (fun kq v5 w' => ∃ (i : Nat), v5 = .int .i64 (i : Int) ∧ Aside0 (i ≤ l.length ∧ (kq : Int) + i = l.length + 1) ∧ Aside0 (Below wb.heap.size wb w'))
  case atStart => exact ⟨0, rfl, ⟨by omega⟩, ⟨Below.refl _ _⟩⟩
  case round =>
    obtain ⟨i, rfl, HX, HBW⟩ := hrel
    cases gk with
    | zero => have := HX.out; omega
    | succ k1 =>
      have m0 : wr.cell? ⟨n0, 1, none⟩ = some (.slice A0 l.length c0) := (wharfagelaw0_SameConfig.cn_cell (wharfagelaw0_SameConfig.cn_below H0.out HBW.out)).trans rfl
      by_cases c3 : (i : Int) < (l.length : Int)
      · have c3b := decide_eq_true c3
        have p1 : (0 : Int) ≤ (i : Int) := by omega
        have p1b := decide_eq_true p1
        obtain ⟨ad, A9, c9, ea, hx0, hx1, hx2, hx3, hlx, hix⟩ := at_T53 (Kd.C_below HR0.out (below_step HB.out HBW.out)) (i : Int) p1 c3
        obtain ⟨bd, B9, d9, eb, hy0, hy1, hy2, hy3, hly, hiy⟩ := at_T53 (Kd.C_below HR1.out (below_step HB.out HBW.out)) (i : Int) p1 c3
        cases ea
        cases eb
        obtain ⟨x, hx⟩ : ∃ x, rd_T53 l (i : Int) = x := ⟨_, rfl⟩
        have HXK := Aside0.mk (show x.f3.length < k ∧ x.f3.length < 8796093022208 by
          have hlt : i < l.length := by omega
          have e9 : rd_T53 l (i : Int) = l[i] := by simp [rd_T53, hlt]
          rw [← hx, e9]
          exact HK.out _ (List.getElem_mem hlt))
        rw [hx] at hx0 hx1 hx2 hx3 hlx hix hy0 hy1 hy2 hy3 hly hiy
        rw [Int.toNat_natCast] at hx0 hx1 hx2 hx3 hy0 hy1 hy2 hy3
        have HX0 := Aside0.mk hx0
        have HX1 := Aside0.mk hx1
        have HX2 := Aside0.mk hx2
        have HX3 := Aside0.mk hx3
        have HY0 := Aside0.mk hy0
        have HY1 := Aside0.mk hy1
        have HY2 := Aside0.mk hy2
        have HY3 := Aside0.mk hy3
        have HLX := Aside0.mk hlx
        have HIX := Aside0.mk hix
        have HLY := Aside0.mk hly
        have HIY := Aside0.mk hiy
        have c3' := eq_true c3
        have p1' := eq_true p1
        have hlen := hix.1
        clear hx hx0 hx1 hx2 hx3 hy0 hy1 hy2 hy3 hlx hix hly hiy
        go_upto_region 6 with fail
        refine start_ (n := 14) (S := fun w' => True) (ds := []) #[false, false, false, false, false, false, false, false, false, false, false, false, false, false] (by kernel_rfl) rfl rfl trivial (fun hHeld => ?_); refine with_tabW wharfagelaw0_SameConfig.tab6 wharfagelaw0_SameConfig.bits6 (fun HT_ HW_ => ?_)
        refine inv_at [0, 1, 2, 3, 4, 5, 6, 7, 8, 9, 10, 11, 12, 13] (fun a0_ b a w' => ∃ (gx gy : Nat), a = putSel a0_ b [(0, 29, .pointer (some ⟨n0, 1, none⟩)), (1, 30, .slice (some ad) l.length c0), (2, 31, .int .i64 (i : Int)), (3, 32, .pointer (some (ad.add (i * 4)))), (4, 33, .agg #[.int .i64 x.f0, .bool x.f1, .int .i64 x.f2, .slice A9 x.f3.length c9]), (5, 34, .pointer (some ⟨n1, 1, none⟩)), (6, 35, .slice (some bd) l.length c1), (7, 36, .int .i64 (i : Int)), (8, 37, .pointer (some (bd.add (i * 4)))), (9, 38, .agg #[.int .i64 x.f0, .bool x.f1, .int .i64 x.f2, .slice B9 x.f3.length d9]), (10, 6, .pointer (some ⟨gx, 0, none⟩)), (11, 7, .pointer (some ⟨gy, 0, none⟩))] ∧ Below wr.heap.size wr w' ∧ (b 10 = true → wr.heap.size ≤ gx) ∧ (b 11 = true → wr.heap.size ≤ gy) ∧ (b 10 = true → b 11 = true → gx ≠ gy) ∧ (b 10 = true → b 12 = false → w'.heap[gx]? = some (.cells #[.int .i64 0, .bool false, .int .i64 0, .slice none 0 0] 53 (0, 0))) ∧ (b 12 = true → w'.heap[gx]? = some (.cells #[.int .i64 x.f0, .bool x.f1, .int .i64 x.f2, .slice A9 x.f3.length c9] 53 (0, 0))) ∧ (b 11 = true → b 13 = false → w'.heap[gy]? = some (.cells #[.int .i64 0, .bool false, .int .i64 0, .slice none 0 0] 53 (0, 0))) ∧ (b 13 = true → w'.heap[gy]? = some (.cells #[.int .i64 x.f0, .bool x.f1, .int .i64 x.f2, .slice B9 x.f3.length d9] 53 (0, 0)))) HT_.out HW_.out (by kernel_rfl) (by kernel_rfl) ?_ ?_ ?_
        · exact ⟨0, 0, by simp only [putSel, Bool.false_eq_true, if_false], below_drew1 (Below.refl _ _), fun h_ => absurd h_ (by decide), fun h_ => absurd h_ (by decide), fun h_ => absurd h_ (by decide), fun h_ => absurd h_ (by decide), fun h_ => absurd h_ (by decide), fun h_ => absurd h_ (by decide), fun h_ => absurd h_ (by decide)⟩
        · skip
          refine steps_cons ?_ ?_
          · rintro b a w' ⟨gx, gy, ha, QB, GX, GY, NE, X0, X1, Y0, Y1⟩ hb_ hon hoff
            refine ⟨_, rfl, fun K hK => ?_⟩
            have e2 : a.tmps[2]? = some (.pointer (some ⟨n0, 0, none⟩)) := by rw [ha]; exact (putSel_off rfl).trans rfl
            replace ha := Aside0.mk ha
            refine value_ (w1 := w') (v := .pointer (some ⟨n0, 1, none⟩)) (by rfl) rfl ?_ ?_
            · go_simp
              try rfl
            exact hK.out _ _ ⟨gx, gy, (by rw [ha.out]; exact putSel_upk 0 hb_ rfl rfl rfl), QB, GX, GY, NE, X0, X1, Y0, Y1⟩
          refine steps_cons ?_ ?_
          · rintro b a w' ⟨gx, gy, ha, QB, GX, GY, NE, X0, X1, Y0, Y1⟩ hb_ hon hoff
            refine ⟨_, rfl, fun K hK => ?_⟩
            have e29 : a.tmps[29]? = some (.pointer (some ⟨n0, 1, none⟩)) := by rw [ha]; exact putSel_on (e := (0, 29, .pointer (some ⟨n0, 1, none⟩))) 0 rfl rfl (hon 0 (by kernel_rfl)) rfl
            have q1 : w'.cell? ⟨n0, 1, none⟩ = some (.slice (some ad) l.length c0) := (wharfagelaw0_SameConfig.cn_cell (wharfagelaw0_SameConfig.cn_below H0.out (below_step HBW.out QB))).trans rfl
            replace ha := Aside0.mk ha
            refine value_ (w1 := w') (v := .slice (some ad) l.length c0) (by rfl) rfl ?_ ?_
            · go_simp
              try rfl
            exact hK.out _ _ ⟨gx, gy, (by rw [ha.out]; exact putSel_upk 1 hb_ rfl rfl rfl), QB, GX, GY, NE, X0, X1, Y0, Y1⟩
          refine steps_cons ?_ ?_
          · rintro b a w' ⟨gx, gy, ha, QB, GX, GY, NE, X0, X1, Y0, Y1⟩ hb_ hon hoff
            refine ⟨_, rfl, fun K hK => ?_⟩
            have e5 : a.tmps[5]? = some (.int .i64 (i : Int)) := by rw [ha]; exact (putSel_off rfl).trans rfl
            replace ha := Aside0.mk ha
            refine value_ (w1 := w') (v := .int .i64 (i : Int)) (by rfl) rfl ?_ ?_
            · go_simp
              try rfl
            exact hK.out _ _ ⟨gx, gy, (by rw [ha.out]; exact putSel_upk 2 hb_ rfl rfl rfl), QB, GX, GY, NE, X0, X1, Y0, Y1⟩
          refine steps_cons ?_ ?_
          · rintro b a w' ⟨gx, gy, ha, QB, GX, GY, NE, X0, X1, Y0, Y1⟩ hb_ hon hoff
            refine ⟨_, rfl, fun K hK => ?_⟩
            have e30 : a.tmps[30]? = some (.slice (some ad) l.length c0) := by rw [ha]; exact putSel_on (e := (1, 30, .slice (some ad) l.length c0)) 1 rfl rfl (hon 1 (by kernel_rfl)) rfl
            have e31 : a.tmps[31]? = some (.int .i64 (i : Int)) := by rw [ha]; exact putSel_on (e := (2, 31, .int .i64 (i : Int))) 2 rfl rfl (hon 2 (by kernel_rfl)) rfl
            replace ha := Aside0.mk ha
            refine value_ (w1 := w') (v := .pointer (some (ad.add (i * 4)))) (by rfl) rfl ?_ ?_
            · go_simp
              try rfl
            exact hK.out _ _ ⟨gx, gy, (by rw [ha.out]; exact putSel_upk 3 hb_ rfl rfl rfl), QB, GX, GY, NE, X0, X1, Y0, Y1⟩
          refine steps_cons ?_ ?_
          · rintro b a w' ⟨gx, gy, ha, QB, GX, GY, NE, X0, X1, Y0, Y1⟩ hb_ hon hoff
            refine ⟨_, rfl, fun K hK => ?_⟩
            have e32 : a.tmps[32]? = some (.pointer (some (ad.add (i * 4)))) := by rw [ha]; exact putSel_on (e := (3, 32, .pointer (some (ad.add (i * 4))))) 3 rfl rfl (hon 3 (by kernel_rfl)) rfl
            have hx0 := pw_cell_below QB HX0.out
            have hx1 := pw_cell_below QB HX1.out
            have hx2 := pw_cell_below QB HX2.out
            have hx3 := pw_cell_below QB HX3.out
            replace ha := Aside0.mk ha
            refine value_ (w1 := w') (v := .agg #[.int .i64 x.f0, .bool x.f1, .int .i64 x.f2, .slice A9 x.f3.length c9]) (by rfl) rfl ?_ ?_
            · go_simp
              try rfl
            exact hK.out _ _ ⟨gx, gy, (by rw [ha.out]; exact putSel_upk 4 hb_ rfl rfl rfl), QB, GX, GY, NE, X0, X1, Y0, Y1⟩
          refine steps_cons ?_ ?_
          · rintro b a w' ⟨gx, gy, ha, QB, GX, GY, NE, X0, X1, Y0, Y1⟩ hb_ hon hoff
            refine ⟨_, rfl, fun K hK => ?_⟩
            have e3 : a.tmps[3]? = some (.pointer (some ⟨n1, 0, none⟩)) := by rw [ha]; exact (putSel_off rfl).trans rfl
            replace ha := Aside0.mk ha
            refine value_ (w1 := w') (v := .pointer (some ⟨n1, 1, none⟩)) (by rfl) rfl ?_ ?_
            · go_simp
              try rfl
            exact hK.out _ _ ⟨gx, gy, (by rw [ha.out]; exact putSel_upk 5 hb_ rfl rfl rfl), QB, GX, GY, NE, X0, X1, Y0, Y1⟩
          refine steps_cons ?_ ?_
          · rintro b a w' ⟨gx, gy, ha, QB, GX, GY, NE, X0, X1, Y0, Y1⟩ hb_ hon hoff
            refine ⟨_, rfl, fun K hK => ?_⟩
            have e34 : a.tmps[34]? = some (.pointer (some ⟨n1, 1, none⟩)) := by rw [ha]; exact putSel_on (e := (5, 34, .pointer (some ⟨n1, 1, none⟩))) 5 rfl rfl (hon 5 (by kernel_rfl)) rfl
            have q1 : w'.cell? ⟨n1, 1, none⟩ = some (.slice (some bd) l.length c1) := (wharfagelaw0_SameConfig.cn_cell (wharfagelaw0_SameConfig.cn_below H1.out (below_step HBW.out QB))).trans rfl
            replace ha := Aside0.mk ha
            refine value_ (w1 := w') (v := .slice (some bd) l.length c1) (by rfl) rfl ?_ ?_
            · go_simp
              try rfl
            exact hK.out _ _ ⟨gx, gy, (by rw [ha.out]; exact putSel_upk 6 hb_ rfl rfl rfl), QB, GX, GY, NE, X0, X1, Y0, Y1⟩
          refine steps_cons ?_ ?_
          · rintro b a w' ⟨gx, gy, ha, QB, GX, GY, NE, X0, X1, Y0, Y1⟩ hb_ hon hoff
            refine ⟨_, rfl, fun K hK => ?_⟩
            have e5 : a.tmps[5]? = some (.int .i64 (i : Int)) := by rw [ha]; exact (putSel_off rfl).trans rfl
            replace ha := Aside0.mk ha
            refine value_ (w1 := w') (v := .int .i64 (i : Int)) (by rfl) rfl ?_ ?_
            · go_simp
              try rfl
            exact hK.out _ _ ⟨gx, gy, (by rw [ha.out]; exact putSel_upk 7 hb_ rfl rfl rfl), QB, GX, GY, NE, X0, X1, Y0, Y1⟩
          refine steps_cons ?_ ?_
          · rintro b a w' ⟨gx, gy, ha, QB, GX, GY, NE, X0, X1, Y0, Y1⟩ hb_ hon hoff
            refine ⟨_, rfl, fun K hK => ?_⟩
            have e35 : a.tmps[35]? = some (.slice (some bd) l.length c1) := by rw [ha]; exact putSel_on (e := (6, 35, .slice (some bd) l.length c1)) 6 rfl rfl (hon 6 (by kernel_rfl)) rfl
            have e36 : a.tmps[36]? = some (.int .i64 (i : Int)) := by rw [ha]; exact putSel_on (e := (7, 36, .int .i64 (i : Int))) 7 rfl rfl (hon 7 (by kernel_rfl)) rfl
            replace ha := Aside0.mk ha
            refine value_ (w1 := w') (v := .pointer (some (bd.add (i * 4)))) (by rfl) rfl ?_ ?_
            · go_simp
              try rfl
            exact hK.out _ _ ⟨gx, gy, (by rw [ha.out]; exact putSel_upk 8 hb_ rfl rfl rfl), QB, GX, GY, NE, X0, X1, Y0, Y1⟩
          refine steps_cons ?_ ?_
          · rintro b a w' ⟨gx, gy, ha, QB, GX, GY, NE, X0, X1, Y0, Y1⟩ hb_ hon hoff
            refine ⟨_, rfl, fun K hK => ?_⟩
            have e37 : a.tmps[37]? = some (.pointer (some (bd.add (i * 4)))) := by rw [ha]; exact putSel_on (e := (8, 37, .pointer (some (bd.add (i * 4))))) 8 rfl rfl (hon 8 (by kernel_rfl)) rfl
            have hx0 := pw_cell_below QB HY0.out
            have hx1 := pw_cell_below QB HY1.out
            have hx2 := pw_cell_below QB HY2.out
            have hx3 := pw_cell_below QB HY3.out
            replace ha := Aside0.mk ha
            refine value_ (w1 := w') (v := .agg #[.int .i64 x.f0, .bool x.f1, .int .i64 x.f2, .slice B9 x.f3.length d9]) (by rfl) rfl ?_ ?_
            · go_simp
              try rfl
            exact hK.out _ _ ⟨gx, gy, (by rw [ha.out]; exact putSel_upk 9 hb_ rfl rfl rfl), QB, GX, GY, NE, X0, X1, Y0, Y1⟩
          refine steps_cons ?_ ?_
          · rintro b a w' ⟨gx, gy, ha, QB, GX, GY, NE, X0, X1, Y0, Y1⟩ hb_ hon hoff
            refine ⟨_, rfl, fun K hK => ?_⟩
            replace ha := Aside0.mk ha
            refine value_ (w1 := w'.alloc (.cells #[.int .i64 0, .bool false, .int .i64 0, .slice none 0 0] 53)) (v := .pointer (some ⟨w'.heap.size, 0, none⟩)) (by rfl) rfl ?_ ?_
            · go_simp
              try rfl
            exact hK.out _ _ ⟨w'.heap.size, gy, (by rw [ha.out]; exact putSel_upk 10 hb_ rfl rfl rfl), below_alloc QB _, fun _ => below_size QB, GY, fun _ h2_ => Nat.ne_of_gt (wharfagelaw0_SameConfig.cn_lt (Y0 h2_ (hoff 13 (by kernel_rfl)))), fun _ _ => heap_alloc_new w' _, fun h_ => absurd ((hoff 12 (by kernel_rfl)).symm.trans h_) (by decide), fun h1_ h2_ => wharfagelaw0_SameConfig.cn_alloc (Y0 h1_ h2_) _, fun h_ => absurd ((hoff 13 (by kernel_rfl)).symm.trans h_) (by decide)⟩
          refine steps_cons ?_ ?_
          · rintro b a w' ⟨gx, gy, ha, QB, GX, GY, NE, X0, X1, Y0, Y1⟩ hb_ hon hoff
            refine ⟨_, rfl, fun K hK => ?_⟩
            replace ha := Aside0.mk ha
            refine value_ (w1 := w'.alloc (.cells #[.int .i64 0, .bool false, .int .i64 0, .slice none 0 0] 53)) (v := .pointer (some ⟨w'.heap.size, 0, none⟩)) (by rfl) rfl ?_ ?_
            · go_simp
              try rfl
            exact hK.out _ _ ⟨gx, w'.heap.size, (by rw [ha.out]; exact putSel_upk 11 hb_ rfl rfl rfl), below_alloc QB _, GX, fun _ => below_size QB, fun h1_ _ => Nat.ne_of_lt (wharfagelaw0_SameConfig.cn_lt (X0 h1_ (hoff 12 (by kernel_rfl)))), fun h1_ h2_ => wharfagelaw0_SameConfig.cn_alloc (X0 h1_ h2_) _, fun h_ => absurd ((hoff 12 (by kernel_rfl)).symm.trans h_) (by decide), fun _ _ => heap_alloc_new w' _, fun h_ => absurd ((hoff 13 (by kernel_rfl)).symm.trans h_) (by decide)⟩
          refine steps_cons ?_ ?_
          · rintro b a w' ⟨gx, gy, ha, QB, GX, GY, NE, X0, X1, Y0, Y1⟩ hb_ hon hoff
            refine ⟨_, rfl, fun K hK => ?_⟩
            have e33 : a.tmps[33]? = some (.agg #[.int .i64 x.f0, .bool x.f1, .int .i64 x.f2, .slice A9 x.f3.length c9]) := by rw [ha]; exact putSel_on (e := (4, 33, .agg #[.int .i64 x.f0, .bool x.f1, .int .i64 x.f2, .slice A9 x.f3.length c9])) 4 rfl rfl (hon 4 (by kernel_rfl)) rfl
            have e6 : a.tmps[6]? = some (.pointer (some ⟨gx, 0, none⟩)) := by rw [ha]; exact putSel_on (e := (10, 6, .pointer (some ⟨gx, 0, none⟩))) 10 rfl rfl (hon 10 (by kernel_rfl)) rfl
            replace ha := Aside0.mk ha
            have g0 := X0 (hon 10 (by kernel_rfl)) hb_
            have o0 := Y0 (hon 11 (by kernel_rfl)) (hoff 13 (by kernel_rfl))
            have ne := NE (hon 10 (by kernel_rfl)) (hon 11 (by kernel_rfl))
            have ge := GX (hon 10 (by kernel_rfl))
            have z0 : w'.cell? ⟨gx, 0, none⟩ = some (.int .i64 0) := (wharfagelaw0_SameConfig.cn_cell g0).trans rfl
            have y0 : w'.frozen? ⟨gx, 0, none⟩ = false := wharfagelaw0_SameConfig.cn_free g0
            have z1 : w'.cell? ⟨gx, 1, none⟩ = some (.bool false) := (wharfagelaw0_SameConfig.cn_cell g0).trans rfl
            have y1 : w'.frozen? ⟨gx, 1, none⟩ = false := wharfagelaw0_SameConfig.cn_free g0
            have z2 : w'.cell? ⟨gx, 2, none⟩ = some (.int .i64 0) := (wharfagelaw0_SameConfig.cn_cell g0).trans rfl
            have y2 : w'.frozen? ⟨gx, 2, none⟩ = false := wharfagelaw0_SameConfig.cn_free g0
            have z3 : w'.cell? ⟨gx, 3, none⟩ = some (.slice none 0 0) := (wharfagelaw0_SameConfig.cn_cell g0).trans rfl
            have y3 : w'.frozen? ⟨gx, 3, none⟩ = false := wharfagelaw0_SameConfig.cn_free g0
            have hgo := Aside0.mk (And.intro g0 (And.intro o0 (And.intro ne ge)))
            clear g0 o0 ne ge
            refine skip_ (w1 := ((((w'.setCell ⟨gx, 0, none⟩ (.int .i64 x.f0)).setCell ⟨gx, 1, none⟩ (.bool x.f1)).setCell ⟨gx, 2, none⟩ (.int .i64 x.f2)).setCell ⟨gx, 3, none⟩ (.slice A9 x.f3.length c9))) (by rfl) rfl ?_ ?_
            · go_simp
              try rfl
            obtain ⟨g0, o0, ne, ge⟩ := hgo.out
            exact hK.out _ _ ⟨gx, gy, (by rw [ha.out]; exact (putSel_same rfl).symm), below_set (below_set (below_set (below_set QB ge) ge) ge) ge, GX, GY, NE, fun _ h_ => absurd ((up_self b 12).symm.trans h_) (by decide), fun _ => (by refine blk_put (cs := #[.int .i64 x.f0, .bool x.f1, .int .i64 x.f2, .slice none 0 0]) ?_ 3 _ rfl; refine blk_put (cs := #[.int .i64 x.f0, .bool x.f1, .int .i64 0, .slice none 0 0]) ?_ 2 _ rfl; refine blk_put (cs := #[.int .i64 x.f0, .bool false, .int .i64 0, .slice none 0 0]) ?_ 1 _ rfl; refine blk_put (cs := #[.int .i64 0, .bool false, .int .i64 0, .slice none 0 0]) ?_ 0 _ rfl; exact g0), fun _ _ => (blk_far (blk_far (blk_far (blk_far (o0) (Ne.symm ne) _) (Ne.symm ne) _) (Ne.symm ne) _) (Ne.symm ne) _), fun h_ => absurd ((hoff 13 (by kernel_rfl)).symm.trans h_) (by decide)⟩
          refine steps_cons ?_ ?_
          · rintro b a w' ⟨gx, gy, ha, QB, GX, GY, NE, X0, X1, Y0, Y1⟩ hb_ hon hoff
            refine ⟨_, rfl, fun K hK => ?_⟩
            have e38 : a.tmps[38]? = some (.agg #[.int .i64 x.f0, .bool x.f1, .int .i64 x.f2, .slice B9 x.f3.length d9]) := by rw [ha]; exact putSel_on (e := (9, 38, .agg #[.int .i64 x.f0, .bool x.f1, .int .i64 x.f2, .slice B9 x.f3.length d9])) 9 rfl rfl (hon 9 (by kernel_rfl)) rfl
            have e7 : a.tmps[7]? = some (.pointer (some ⟨gy, 0, none⟩)) := by rw [ha]; exact putSel_on (e := (11, 7, .pointer (some ⟨gy, 0, none⟩))) 11 rfl rfl (hon 11 (by kernel_rfl)) rfl
            replace ha := Aside0.mk ha
            have g0 := Y0 (hon 11 (by kernel_rfl)) hb_
            have o0 := X1 (hon 12 (by kernel_rfl))
            have ne := NE (hon 10 (by kernel_rfl)) (hon 11 (by kernel_rfl))
            have ge := GY (hon 11 (by kernel_rfl))
            have z0 : w'.cell? ⟨gy, 0, none⟩ = some (.int .i64 0) := (wharfagelaw0_SameConfig.cn_cell g0).trans rfl
            have y0 : w'.frozen? ⟨gy, 0, none⟩ = false := wharfagelaw0_SameConfig.cn_free g0
            have z1 : w'.cell? ⟨gy, 1, none⟩ = some (.bool false) := (wharfagelaw0_SameConfig.cn_cell g0).trans rfl
            have y1 : w'.frozen? ⟨gy, 1, none⟩ = false := wharfagelaw0_SameConfig.cn_free g0
            have z2 : w'.cell? ⟨gy, 2, none⟩ = some (.int .i64 0) := (wharfagelaw0_SameConfig.cn_cell g0).trans rfl
            have y2 : w'.frozen? ⟨gy, 2, none⟩ = false := wharfagelaw0_SameConfig.cn_free g0
            have z3 : w'.cell? ⟨gy, 3, none⟩ = some (.slice none 0 0) := (wharfagelaw0_SameConfig.cn_cell g0).trans rfl
            have y3 : w'.frozen? ⟨gy, 3, none⟩ = false := wharfagelaw0_SameConfig.cn_free g0
            have hgo := Aside0.mk (And.intro g0 (And.intro o0 (And.intro ne ge)))
            clear g0 o0 ne ge
            refine skip_ (w1 := ((((w'.setCell ⟨gy, 0, none⟩ (.int .i64 x.f0)).setCell ⟨gy, 1, none⟩ (.bool x.f1)).setCell ⟨gy, 2, none⟩ (.int .i64 x.f2)).setCell ⟨gy, 3, none⟩ (.slice B9 x.f3.length d9))) (by rfl) rfl ?_ ?_
            · go_simp
              try rfl
            obtain ⟨g0, o0, ne, ge⟩ := hgo.out
            exact hK.out _ _ ⟨gx, gy, (by rw [ha.out]; exact (putSel_same rfl).symm), below_set (below_set (below_set (below_set QB ge) ge) ge) ge, GX, GY, NE, fun _ h_ => absurd ((hon 12 (by kernel_rfl)).symm.trans h_) (by decide), fun _ => (blk_far (blk_far (blk_far (blk_far (o0) ne _) ne _) ne _) ne _), fun _ h_ => absurd ((up_self b 13).symm.trans h_) (by decide), fun _ => (by refine blk_put (cs := #[.int .i64 x.f0, .bool x.f1, .int .i64 x.f2, .slice none 0 0]) ?_ 3 _ rfl; refine blk_put (cs := #[.int .i64 x.f0, .bool x.f1, .int .i64 0, .slice none 0 0]) ?_ 2 _ rfl; refine blk_put (cs := #[.int .i64 x.f0, .bool false, .int .i64 0, .slice none 0 0]) ?_ 1 _ rfl; refine blk_put (cs := #[.int .i64 0, .bool false, .int .i64 0, .slice none 0 0]) ?_ 0 _ rfl; exact g0)⟩
          exact steps_nil
        rintro b a wx hall ⟨gx, gy, ha, QB, GX, GY, NE, X0, X1, Y0, Y1⟩
        have hb0_ := hall 0 (by kernel_rfl)
        have hb1_ := hall 1 (by kernel_rfl)
        have hb2_ := hall 2 (by kernel_rfl)
        have hb3_ := hall 3 (by kernel_rfl)
        have hb4_ := hall 4 (by kernel_rfl)
        have hb5_ := hall 5 (by kernel_rfl)
        have hb6_ := hall 6 (by kernel_rfl)
        have hb7_ := hall 7 (by kernel_rfl)
        have hb8_ := hall 8 (by kernel_rfl)
        have hb9_ := hall 9 (by kernel_rfl)
        have hb10_ := hall 10 (by kernel_rfl)
        have hb11_ := hall 11 (by kernel_rfl)
        have hb12_ := hall 12 (by kernel_rfl)
        have hb13_ := hall 13 (by kernel_rfl)
        subst ha
        simp only [putSel, hb0_, hb1_, hb2_, hb3_, hb4_, hb5_, hb6_, hb7_, hb8_, hb9_, hb10_, hb11_, if_true, Act.put, List.setIfInBounds_toArray, List.set_cons_zero, List.set_cons_succ]
        have BXX := Aside0.mk (X1 hb12_)
        have BYY := Aside0.mk (Y1 hb13_)
        have HBX := Aside0.mk (below_step HBW.out QB)
        have u0 : wx.cell? ⟨gx, 0, none⟩ = some (.int .i64 x.f0) := (blk_cell BXX.out 0).trans rfl
        have v0 : wx.cell? ⟨gy, 0, none⟩ = some (.int .i64 x.f0) := (blk_cell BYY.out 0).trans rfl
        have u1 : wx.cell? ⟨gx, 1, none⟩ = some (.bool x.f1) := (blk_cell BXX.out 1).trans rfl
        have v1 : wx.cell? ⟨gy, 1, none⟩ = some (.bool x.f1) := (blk_cell BYY.out 1).trans rfl
        have u2 : wx.cell? ⟨gx, 2, none⟩ = some (.int .i64 x.f2) := (blk_cell BXX.out 2).trans rfl
        have v2 : wx.cell? ⟨gy, 2, none⟩ = some (.int .i64 x.f2) := (blk_cell BYY.out 2).trans rfl
        have u3 : wx.cell? ⟨gx, 3, none⟩ = some (.slice A9 x.f3.length c9) := (blk_cell BXX.out 3).trans rfl
        have v3 : wx.cell? ⟨gy, 3, none⟩ = some (.slice B9 x.f3.length d9) := (blk_cell BYY.out 3).trans rfl
        have e1 : (x.f0 != x.f0) = false := bne_self_eq_false _
        have e2 : (x.f0 == x.f0) = true := beq_self_eq_true _
        have e3 : (x.f1 != x.f1) = false := bne_self_eq_false _
        have e4 : (x.f1 == x.f1) = true := beq_self_eq_true _
        have e5 : (x.f2 != x.f2) = false := bne_self_eq_false _
        have e6 : (x.f2 == x.f2) = true := beq_self_eq_true _
        have HQB := Aside0.mk QB
        clear GX GY NE X0 X1 Y0 Y1 QB
        go_wp2_with (go_at_call 44; refine (wharfagelaw0_SameBacks.calls k A9 c9 x.f3 B9 d9 x.f3 true _ (Kd.C_below HIX.out HQB.out) HLX.out (Kd.C_below HIY.out HQB.out) HLY.out (wharfagelaw0_SameConfig.backs_f x.f3 (by have h2 := HXK.out.2; omega) k HXK.out.1)).mono ?_; rintro e w5 ⟨rfl, hn⟩; have hb := Go.Proofs.Ytlapbhgkmmeeoaa.Hand.hk_drawn hn; clear hn; replace HBX := Aside0.mk (below_step HBX.out hb); clear hb u0 u1 u2 u3 v0 v1 v2 v3)
        go_roundg k1
        case measure => have := HX.out; omega
        case rel =>
          have h1 := HX.out
          have h2 := HLL.out
          exact ⟨i + 1, by rw [show wrap64 ((i : Int) + 1) = ((i + 1 : Nat) : Int) by unfold wrap64; omega], ⟨by omega⟩, HBX⟩
      · have c3b := decide_eq_false c3
        go_wp2_with fail
        go_ret
        exact ⟨rfl, below_step HB.out HBW.out⟩


end Go.Proofs.Ytlapbhgkmmeeoaa.PSpares
end
section
/- Contracts: what calls of these functions of the program do, each as a plain function; written by a program of this session. -/
namespace Go.Proofs.Ytlapbhgkmmeeoaa.PSpares
open Go.RowKit Go.Proofs.YtlapbhgkmmeeoaaW.PrintWords Go.Proofs.YtlapbhgkmmeeoaaW.PrintLast Go.Proofs.YtlapbhgkmmeeoaaW.PrintMore
attribute [local go_sem] max2_int min2_int max_two min_two max_three min_three max_four min_four   -- for this text's walks alone
set_option linter.unusedVariables false
set_option linter.unusedSimpArgs false

theorem eqA86 (d : Nat) (w : World) (x0 y0 : Bool) (x1 y1 : Int) :
  (Op.equalIn (d + 2) 86 (.agg #[.bool x0, .int .i64 x1]) (.agg #[.bool y0, .int .i64 y1])).run Try.prog w = .ok (x0 == y0 && (x1 == y1)) w := by
 refine eqA_of Try.underlying86 (by kernel_rfl) ?_
 refine eqf_cons (by rfl) (by go_simp; rfl) (by go_simp; rfl) (by go_simp) ?_
 exact eqf_last (by rfl) (by go_simp; rfl) (by go_simp; rfl) (by go_simp)
end Go.Proofs.Ytlapbhgkmmeeoaa.PSpares
end
section
/- Contracts: what calls of these functions of the program do, each as a plain function; written by a program of this session. -/
namespace Go.Proofs.Ytlapbhgkmmeeoaa.PSpares
open Go.RowKit Go.Proofs.YtlapbhgkmmeeoaaW.PrintWords Go.Proofs.YtlapbhgkmmeeoaaW.PrintLast Go.Proofs.YtlapbhgkmmeeoaaW.PrintMore
attribute [local go_sem] max2_int min2_int max_two min_two max_three min_three max_four min_four   -- for this text's walks alone
set_option linter.unusedVariables false
set_option linter.unusedSimpArgs false

attribute [local go_sem high] eqA86
/-! ### wharfagelaw0_SameHealths: function 29 -/
def wharfagelaw0_SameHealths.l0 : Nat → List (S86) → List (S86) → Int → Option (Bool)
 | 0, _, _, _ => none
 | k + 1, x0, x1, x5 => if x5 < (x0.length : Int) then (if 0 ≤ x5 then (if x5 < (x1.length : Int) then (if (!(((rd_T86 x0 x5).f0) == ((rd_T86 x1 x5).f0)) || (!(((rd_T86 x0 x5).f1) == ((rd_T86 x1 x5).f1)))) = true then (none) else (wharfagelaw0_SameHealths.l0 k x0 x1 (wrap64 (x5 + 1)))) else (none)) else (none)) else (some true)
def wharfagelaw0_SameHealths.f (k : Nat) (l0 : List (S86)) (l1 : List (S86)) : Option (Bool) := if (l0.length : Int) = (l1.length : Int) then (wharfagelaw0_SameHealths.l0 k l0 l1 0) else (none)
theorem wharfagelaw0_SameHealths.mono_l : ∀ k, (∀ y0 y1 y2, LeO (wharfagelaw0_SameHealths.l0 k y0 y1 y2) (wharfagelaw0_SameHealths.l0 (k + 1) y0 y1 y2))
 | 0 => fun _ _ _ r h => by simp [wharfagelaw0_SameHealths.l0] at h
 | k + 1 => by
  have ih0 := wharfagelaw0_SameHealths.mono_l k
  ·intro y0 y1 y2
   unfold wharfagelaw0_SameHealths.l0
   repeat' first
   | (with_reducible exact ih0 _ _ _)
   | (with_reducible exact LeO.refl _)
   | (with_reducible exact LeO.none _)
   | (with_reducible refine LeO.ite ?_ ?_)
   | (with_reducible refine LeO.bind ?_ (fun _ => ?_))
   | exact ih0 _ _ _
   | exact LeO.none _
   | refine LeO.ite ?_ ?_
   | refine LeO.bind ?_ (fun _ => ?_)
theorem wharfagelaw0_SameHealths.mono : ∀ a0 a1 k, LeO (wharfagelaw0_SameHealths.f k a0 a1) (wharfagelaw0_SameHealths.f (k + 1) a0 a1) := by
 intro a0 a1 k
 have ih0 := wharfagelaw0_SameHealths.mono_l k
 unfold wharfagelaw0_SameHealths.f
 repeat' first
   | (with_reducible exact ih0 _ _ _)
   | (with_reducible exact LeO.refl _)
   | (with_reducible exact LeO.none _)
   | (with_reducible refine LeO.ite ?_ ?_)
   | (with_reducible refine LeO.bind ?_ (fun _ => ?_))
   | exact ih0 _ _ _
   | exact LeO.none _
   | refine LeO.ite ?_ ?_
   | refine LeO.bind ?_ (fun _ => ?_)
set_option maxHeartbeats 8000000 in
set_option maxRecDepth 100000 in
theorem wharfagelaw0_SameHealths.calls (k : Nat) (A0 : Option Addr) (c0 : Nat) (l0 : List (S86)) (A1 : Option Addr) (c1 : Nat) (l1 : List (S86)) (r : Bool) (w : World) (hr0 : Kd.C k86 w A0 l0.length l0) (hc0 : l0.length ≤ c0) (hr1 : Kd.C k86 w A1 l1.length l1) (hc1 : l1.length ≤ c1) (h : wharfagelaw0_SameHealths.f k l0 l1 = some r) :
  Calls Try.prog 29 #[.slice A0 l0.length c0, .slice A1 l1.length c1] w fun e w' => e = .returned (.bool r) ∧ Drawn0 w w' := by
 have hu86 := Try.underlying86
 have HR0 := Aside0.mk hr0
 have HC0 := Aside0.mk hc0
 clear hr0 hc0
 have HR1 := Aside0.mk hr1
 have HC1 := Aside0.mk hc1
 clear hr1 hc1
 have H : (if (l0.length : Int) = (l1.length : Int) then (wharfagelaw0_SameHealths.l0 k l0 l1 0) else (none)) = some r := h
 clear h
 by_cases c3 : (l0.length : Int) = (l1.length : Int)
 ·rw [if_pos c3] at H
  have c3b0 : ((l0.length : Int) == (l1.length : Int)) = true := beq_iff_eq.mpr c3
  have c3b1 : ((l0.length : Int) != (l1.length : Int)) = false := bne_eq_false_iff_eq.mpr c3
  have c3b2 : (l0.length == l1.length) = true := by first | simpa using c3 | (simp at c3 ⊢; omega)
  clear c3
  have H' := Aside0.mk H
  clear H
  go_enter Try.func29, Try.ntmps29
  go_wp2
  repeat (go_quiet (fail); try go_wp2)
  go_loopg [5] k (fun kq v5 w' => ∃ (x5_1 : Int), v5 = .int .i64 x5_1 ∧ Aside0 (wharfagelaw0_SameHealths.l0 kq l0 l1 x5_1 = some r) ∧ Aside0 (kq ≤ k) ∧ Drawn0 w w')
  case atStart => exact ⟨(0), (by first | rfl | (simp; done) | (simp [*]; done)), H', ⟨Nat.le_refl _⟩, by repeat (first | exact Drawn0.refl _ | apply Drawn0.step)⟩
  case round =>
   clear H'
   try clear c1
   try clear c2
   try clear p2
   try clear c3
   try clear c3b0
   try clear c3b1
   try clear c3b2
   obtain ⟨x5_1, rfl, HA, HK1, ⟨m1, rfl⟩⟩ := hrel
   cases gk with
   | zero => exact absurd HA.out (by simp [wharfagelaw0_SameHealths.l0])
   | succ k1 =>
    have H := HA.out
    clear HA
    simp only [wharfagelaw0_SameHealths.l0] at H
    by_cases c4 : x5_1 < (l0.length : Int)
    ·rw [if_pos c4] at H
     have c4b0 : decide (x5_1 < (l0.length : Int)) = true := decide_eq_true c4
     clear c4
     by_cases c5 : 0 ≤ x5_1
     ·rw [if_pos c5] at H
      have c5b0 : decide (0 ≤ x5_1) = true := decide_eq_true c5
      clear c5
      by_cases c6 : x5_1 < (l1.length : Int)
      ·rw [if_pos c6] at H
       have c6b0 : decide (x5_1 < (l1.length : Int)) = true := decide_eq_true c6
       clear c6
       by_cases c7 : (!(((rd_T86 l0 x5_1).f0) == ((rd_T86 l1 x5_1).f0)) || (!(((rd_T86 l0 x5_1).f1) == ((rd_T86 l1 x5_1).f1)))) = true
       ·rw [if_pos c7] at H
        exact absurd H (by simp)
       ·rw [if_neg c7] at H
        have c7b0 : (!(((rd_T86 l0 x5_1).f0) == ((rd_T86 l1 x5_1).f0)) || (!(((rd_T86 l0 x5_1).f1) == ((rd_T86 l1 x5_1).f1)))) = false := by simpa using c7
        clear c7
        have H' := Aside0.mk H
        clear H
        have p214 : 0 ≤ (x5_1 : Int) := of_decide_eq_true (by first | (with_reducible assumption) | assumption)
        have q214 : x5_1 < (l0.length : Int) := of_decide_eq_true (by first | (with_reducible assumption) | assumption)
        obtain ⟨ad214, e214, hx214_0, hx214_1⟩ := at_T86 HR0.out x5_1 p214 q214
        cases e214
        replace p214 := eq_true p214
        replace q214 := eq_true q214
        have p215 : 0 ≤ (x5_1 : Int) := of_decide_eq_true (by first | (with_reducible assumption) | assumption)
        have q215 : x5_1 < (l1.length : Int) := of_decide_eq_true (by first | (with_reducible assumption) | assumption)
        obtain ⟨ad215, e215, hx215_0, hx215_1⟩ := at_T86 HR1.out x5_1 p215 q215
        cases e215
        replace p215 := eq_true p215
        replace q215 := eq_true q215
        go_wp2
        repeat (go_quiet (fail); try go_wp2)
        go_roundg k1
        case measure => have := HK1.out; omega
        case rel => exact ⟨(wrap64 (x5_1 + 1)), (by first | rfl | (simp; done) | (simp [*]; done)), H', ⟨by have := HK1.out; omega⟩, by repeat (first | exact Drawn0.refl _ | apply Drawn0.step)⟩
      ·rw [if_neg c6] at H
       exact absurd H (by simp)
     ·rw [if_neg c5] at H
      exact absurd H (by simp)
    ·rw [if_neg c4] at H
     have c4b0 : decide (x5_1 < (l0.length : Int)) = false := decide_eq_false c4
     clear c4
     obtain rfl := Option.some.inj H
     go_wp2
     repeat (go_quiet (fail); try go_wp2)
     go_ret
     exact ⟨by first | rfl | (simp; done) | (simp [*]; done), by repeat (first | exact Drawn0.refl _ | apply Drawn0.step)⟩
 ·rw [if_neg c3] at H
  exact absurd H (by simp)

end Go.Proofs.Ytlapbhgkmmeeoaa.PSpares
end
section
/- Contracts: what calls of these functions of the program do, each as a plain function; written by a program of this session. -/
namespace Go.Proofs.Ytlapbhgkmmeeoaa.PSpares
open Go.RowKit Go.Proofs.YtlapbhgkmmeeoaaW.PrintWords Go.Proofs.YtlapbhgkmmeeoaaW.PrintLast Go.Proofs.YtlapbhgkmmeeoaaW.PrintMore
attribute [local go_sem] max2_int min2_int max_two min_two max_three min_three max_four min_four   -- for this text's walks alone
set_option linter.unusedVariables false
set_option linter.unusedSimpArgs false

theorem eqA91 (d : Nat) (w : World) (x0 y0 : Int) (x1 y1 : Int) (x2 y2 : Int) (x3 y3 : Int) (x4 y4 : Int) :
  (Op.equalIn (d + 3) 91 (.agg #[.int .i64 x0, .int .i64 x1, .int .i64 x2, .int .i64 x3, .int .i64 x4]) (.agg #[.int .i64 y0, .int .i64 y1, .int .i64 y2, .int .i64 y3, .int .i64 y4])).run Try.prog w = .ok ((x0 == y0 && (x1 == y1 && (x2 == y2 && (x3 == y3)))) && (x4 == y4)) w := by
 refine eqA_of Try.underlying91 (by kernel_rfl) ?_
 refine eqf_cons (by rfl) (by go_simp) (by go_simp) (eqA89 (d + 0) w _ _ _ _ _ _ _ _) ?_
 exact eqf_last (by rfl) (by go_simp; rfl) (by go_simp; rfl) (by go_simp)
end Go.Proofs.Ytlapbhgkmmeeoaa.PSpares
end
section
/- Contracts: what calls of these functions of the program do, each as a plain function; written by a program of this session. -/
namespace Go.Proofs.Ytlapbhgkmmeeoaa.PSpares
open Go.RowKit Go.Proofs.YtlapbhgkmmeeoaaW.PrintWords Go.Proofs.YtlapbhgkmmeeoaaW.PrintLast Go.Proofs.YtlapbhgkmmeeoaaW.PrintMore
attribute [local go_sem] max2_int min2_int max_two min_two max_three min_three max_four min_four   -- for this text's walks alone
set_option linter.unusedVariables false
set_option linter.unusedSimpArgs false

attribute [local go_sem high] eqA91
/-! ### wharfagelaw0_SameSeens: function 30 -/
def wharfagelaw0_SameSeens.l0 : Nat → List (S91) → List (S91) → Int → Option (Bool)
 | 0, _, _, _ => none
 | k + 1, x0, x1, x5 => if x5 < (x0.length : Int) then (if 0 ≤ x5 then (if x5 < (x1.length : Int) then (if ((!(((rd_T91 x0 x5).f0.f0) == ((rd_T91 x1 x5).f0.f0)) || (!(((rd_T91 x0 x5).f0.f1) == ((rd_T91 x1 x5).f0.f1)) || (!(((rd_T91 x0 x5).f0.f2) == ((rd_T91 x1 x5).f0.f2)) || (!(((rd_T91 x0 x5).f0.f3) == ((rd_T91 x1 x5).f0.f3)))))) || (!(((rd_T91 x0 x5).f1) == ((rd_T91 x1 x5).f1)))) = true then (none) else (wharfagelaw0_SameSeens.l0 k x0 x1 (wrap64 (x5 + 1)))) else (none)) else (none)) else (some true)
def wharfagelaw0_SameSeens.f (k : Nat) (l0 : List (S91)) (l1 : List (S91)) : Option (Bool) := if (l0.length : Int) = (l1.length : Int) then (wharfagelaw0_SameSeens.l0 k l0 l1 0) else (none)
theorem wharfagelaw0_SameSeens.mono_l : ∀ k, (∀ y0 y1 y2, LeO (wharfagelaw0_SameSeens.l0 k y0 y1 y2) (wharfagelaw0_SameSeens.l0 (k + 1) y0 y1 y2))
 | 0 => fun _ _ _ r h => by simp [wharfagelaw0_SameSeens.l0] at h
 | k + 1 => by
  have ih0 := wharfagelaw0_SameSeens.mono_l k
  ·intro y0 y1 y2
   unfold wharfagelaw0_SameSeens.l0
   repeat' first
   | (with_reducible exact ih0 _ _ _)
   | (with_reducible exact LeO.refl _)
   | (with_reducible exact LeO.none _)
   | (with_reducible refine LeO.ite ?_ ?_)
   | (with_reducible refine LeO.bind ?_ (fun _ => ?_))
   | exact ih0 _ _ _
   | exact LeO.none _
   | refine LeO.ite ?_ ?_
   | refine LeO.bind ?_ (fun _ => ?_)
theorem wharfagelaw0_SameSeens.mono : ∀ a0 a1 k, LeO (wharfagelaw0_SameSeens.f k a0 a1) (wharfagelaw0_SameSeens.f (k + 1) a0 a1) := by
 intro a0 a1 k
 have ih0 := wharfagelaw0_SameSeens.mono_l k
 unfold wharfagelaw0_SameSeens.f
 repeat' first
   | (with_reducible exact ih0 _ _ _)
   | (with_reducible exact LeO.refl _)
   | (with_reducible exact LeO.none _)
   | (with_reducible refine LeO.ite ?_ ?_)
   | (with_reducible refine LeO.bind ?_ (fun _ => ?_))
   | exact ih0 _ _ _
   | exact LeO.none _
   | refine LeO.ite ?_ ?_
   | refine LeO.bind ?_ (fun _ => ?_)
set_option maxHeartbeats 8000000 in
set_option maxRecDepth 100000 in
theorem wharfagelaw0_SameSeens.calls (k : Nat) (A0 : Option Addr) (c0 : Nat) (l0 : List (S91)) (A1 : Option Addr) (c1 : Nat) (l1 : List (S91)) (r : Bool) (w : World) (hr0 : Kd.C k91 w A0 l0.length l0) (hc0 : l0.length ≤ c0) (hr1 : Kd.C k91 w A1 l1.length l1) (hc1 : l1.length ≤ c1) (h : wharfagelaw0_SameSeens.f k l0 l1 = some r) :
  Calls Try.prog 30 #[.slice A0 l0.length c0, .slice A1 l1.length c1] w fun e w' => e = .returned (.bool r) ∧ Drawn0 w w' := by
 have hu91 := Try.underlying91
 have HR0 := Aside0.mk hr0
 have HC0 := Aside0.mk hc0
 clear hr0 hc0
 have HR1 := Aside0.mk hr1
 have HC1 := Aside0.mk hc1
 clear hr1 hc1
 have H : (if (l0.length : Int) = (l1.length : Int) then (wharfagelaw0_SameSeens.l0 k l0 l1 0) else (none)) = some r := h
 clear h
 by_cases c3 : (l0.length : Int) = (l1.length : Int)
 ·rw [if_pos c3] at H
  have c3b0 : ((l0.length : Int) == (l1.length : Int)) = true := beq_iff_eq.mpr c3
  have c3b1 : ((l0.length : Int) != (l1.length : Int)) = false := bne_eq_false_iff_eq.mpr c3
  have c3b2 : (l0.length == l1.length) = true := by first | simpa using c3 | (simp at c3 ⊢; omega)
  clear c3
  have H' := Aside0.mk H
  clear H
  go_enter Try.func30, Try.ntmps30
  go_wp2
  repeat (go_quiet (fail); try go_wp2)
  go_loopg [5] k (fun kq v5 w' => ∃ (x5_1 : Int), v5 = .int .i64 x5_1 ∧ Aside0 (wharfagelaw0_SameSeens.l0 kq l0 l1 x5_1 = some r) ∧ Aside0 (kq ≤ k) ∧ Drawn0 w w')
  case atStart => exact ⟨(0), (by first | rfl | (simp; done) | (simp [*]; done)), H', ⟨Nat.le_refl _⟩, by repeat (first | exact Drawn0.refl _ | apply Drawn0.step)⟩
  case round =>
   clear H'
   try clear c1
   try clear p2
   try clear c3
   try clear c3b0
   try clear c3b1
   try clear c3b2
   obtain ⟨x5_1, rfl, HA, HK1, ⟨m1, rfl⟩⟩ := hrel
   cases gk with
   | zero => exact absurd HA.out (by simp [wharfagelaw0_SameSeens.l0])
   | succ k1 =>
    have H := HA.out
    clear HA
    simp only [wharfagelaw0_SameSeens.l0] at H
    by_cases c4 : x5_1 < (l0.length : Int)
    ·rw [if_pos c4] at H
     have c4b0 : decide (x5_1 < (l0.length : Int)) = true := decide_eq_true c4
     clear c4
     by_cases c5 : 0 ≤ x5_1
     ·rw [if_pos c5] at H
      have c5b0 : decide (0 ≤ x5_1) = true := decide_eq_true c5
      clear c5
      by_cases c6 : x5_1 < (l1.length : Int)
      ·rw [if_pos c6] at H
       have c6b0 : decide (x5_1 < (l1.length : Int)) = true := decide_eq_true c6
       clear c6
       by_cases c7 : ((!(((rd_T91 l0 x5_1).f0.f0) == ((rd_T91 l1 x5_1).f0.f0)) || (!(((rd_T91 l0 x5_1).f0.f1) == ((rd_T91 l1 x5_1).f0.f1)) || (!(((rd_T91 l0 x5_1).f0.f2) == ((rd_T91 l1 x5_1).f0.f2)) || (!(((rd_T91 l0 x5_1).f0.f3) == ((rd_T91 l1 x5_1).f0.f3)))))) || (!(((rd_T91 l0 x5_1).f1) == ((rd_T91 l1 x5_1).f1)))) = true
       ·rw [if_pos c7] at H
        exact absurd H (by simp)
       ·rw [if_neg c7] at H
        have c7b0 : ((!(((rd_T91 l0 x5_1).f0.f0) == ((rd_T91 l1 x5_1).f0.f0)) || (!(((rd_T91 l0 x5_1).f0.f1) == ((rd_T91 l1 x5_1).f0.f1)) || (!(((rd_T91 l0 x5_1).f0.f2) == ((rd_T91 l1 x5_1).f0.f2)) || (!(((rd_T91 l0 x5_1).f0.f3) == ((rd_T91 l1 x5_1).f0.f3)))))) || (!(((rd_T91 l0 x5_1).f1) == ((rd_T91 l1 x5_1).f1)))) = false := by simpa using c7
        clear c7
        have H' := Aside0.mk H
        clear H
        have p216 : 0 ≤ (x5_1 : Int) := of_decide_eq_true (by first | (with_reducible assumption) | assumption)
        have q216 : x5_1 < (l0.length : Int) := of_decide_eq_true (by first | (with_reducible assumption) | assumption)
        obtain ⟨ad216, e216, hx216_0, hx216_1, hx216_2, hx216_3, hx216_4⟩ := at_T91 HR0.out x5_1 p216 q216
        cases e216
        replace p216 := eq_true p216
        replace q216 := eq_true q216
        have p217 : 0 ≤ (x5_1 : Int) := of_decide_eq_true (by first | (with_reducible assumption) | assumption)
        have q217 : x5_1 < (l1.length : Int) := of_decide_eq_true (by first | (with_reducible assumption) | assumption)
        obtain ⟨ad217, e217, hx217_0, hx217_1, hx217_2, hx217_3, hx217_4⟩ := at_T91 HR1.out x5_1 p217 q217
        cases e217
        replace p217 := eq_true p217
        replace q217 := eq_true q217
        go_wp2
        repeat (go_quiet (fail); try go_wp2)
        go_roundg k1
        case measure => have := HK1.out; omega
        case rel => exact ⟨(wrap64 (x5_1 + 1)), (by first | rfl | (simp; done) | (simp [*]; done)), H', ⟨by have := HK1.out; omega⟩, by repeat (first | exact Drawn0.refl _ | apply Drawn0.step)⟩
      ·rw [if_neg c6] at H
       exact absurd H (by simp)
     ·rw [if_neg c5] at H
      exact absurd H (by simp)
    ·rw [if_neg c4] at H
     have c4b0 : decide (x5_1 < (l0.length : Int)) = false := decide_eq_false c4
     clear c4
     obtain rfl := Option.some.inj H
     go_wp2
     repeat (go_quiet (fail); try go_wp2)
     go_ret
     exact ⟨by first | rfl | (simp; done) | (simp [*]; done), by repeat (first | exact Drawn0.refl _ | apply Drawn0.step)⟩
 ·rw [if_neg c3] at H
  exact absurd H (by simp)

end Go.Proofs.Ytlapbhgkmmeeoaa.PSpares
end
section
/- Contracts: what calls of these functions of the program do, each as a plain function; written by a program of this session. -/
namespace Go.Proofs.Ytlapbhgkmmeeoaa.PSpares
open Go.RowKit Go.Proofs.YtlapbhgkmmeeoaaW.PrintWords Go.Proofs.YtlapbhgkmmeeoaaW.PrintLast Go.Proofs.YtlapbhgkmmeeoaaW.PrintMore
attribute [local go_sem] max2_int min2_int max_two min_two max_three min_three max_four min_four   -- for this text's walks alone
set_option linter.unusedVariables false
set_option linter.unusedSimpArgs false

theorem eqA50 (d : Nat) (w : World) (x0 y0 : Int) (x1 y1 : Int) (x2 y2 : Int) (x3 y3 : Int) (x4 y4 : Int) (x5 y5 : Int) (x6 y6 : Bool) (x7 y7 : Int) (x8 y8 : Int) :
  (Op.equalIn (d + 3) 50 (.agg #[.int .i64 x0, .int .i64 x1, .int .i64 x2, .int .i64 x3, .int .i64 x4, .int .i64 x5, .bool x6, .int .i64 x7, .int .i64 x8]) (.agg #[.int .i64 y0, .int .i64 y1, .int .i64 y2, .int .i64 y3, .int .i64 y4, .int .i64 y5, .bool y6, .int .i64 y7, .int .i64 y8])).run Try.prog w = .ok ((x0 == y0 && (x1 == y1 && (x2 == y2 && (x3 == y3 && (x4 == y4))))) && (x5 == y5 && (x6 == y6 && (x7 == y7 && (x8 == y8))))) w := by
 refine eqA_of Try.underlying50 (by kernel_rfl) ?_
 refine eqf_cons (by rfl) (by go_simp) (by go_simp) (eqA48 (d + 0) w _ _ _ _ _ _ _ _ _ _) ?_
 refine eqf_cons (by rfl) (by go_simp; rfl) (by go_simp; rfl) (by go_simp) ?_
 refine eqf_cons (by rfl) (by go_simp; rfl) (by go_simp; rfl) (by go_simp) ?_
 refine eqf_cons (by rfl) (by go_simp; rfl) (by go_simp; rfl) (by go_simp) ?_
 exact eqf_last (by rfl) (by go_simp; rfl) (by go_simp; rfl) (by go_simp)
end Go.Proofs.Ytlapbhgkmmeeoaa.PSpares
end
section
/- Contracts: what calls of these functions of the program do, each as a plain function; written by a program of this session. -/
namespace Go.Proofs.Ytlapbhgkmmeeoaa.PSpares
open Go.RowKit Go.Proofs.YtlapbhgkmmeeoaaW.PrintWords Go.Proofs.YtlapbhgkmmeeoaaW.PrintLast Go.Proofs.YtlapbhgkmmeeoaaW.PrintMore
attribute [local go_sem] max2_int min2_int max_two min_two max_three min_three max_four min_four   -- for this text's walks alone
set_option linter.unusedVariables false
set_option linter.unusedSimpArgs false

attribute [local go_sem high] eqA50
/-! ### wharfagelaw0_SameEntrys: function 31 -/
def wharfagelaw0_SameEntrys.l0 : Nat → List (S50) → List (S50) → Int → Option (Bool)
 | 0, _, _, _ => none
 | k + 1, x0, x1, x5 => if x5 < (x0.length : Int) then (if 0 ≤ x5 then (if x5 < (x1.length : Int) then (if ((!(((rd_T50 x0 x5).f0.f0) == ((rd_T50 x1 x5).f0.f0)) || (!(((rd_T50 x0 x5).f0.f1) == ((rd_T50 x1 x5).f0.f1)) || (!(((rd_T50 x0 x5).f0.f2) == ((rd_T50 x1 x5).f0.f2)) || (!(((rd_T50 x0 x5).f0.f3) == ((rd_T50 x1 x5).f0.f3)) || (!(((rd_T50 x0 x5).f0.f4) == ((rd_T50 x1 x5).f0.f4))))))) || (!(((rd_T50 x0 x5).f1) == ((rd_T50 x1 x5).f1)) || (!(((rd_T50 x0 x5).f2) == ((rd_T50 x1 x5).f2)) || (!(((rd_T50 x0 x5).f3) == ((rd_T50 x1 x5).f3)) || (!(((rd_T50 x0 x5).f4) == ((rd_T50 x1 x5).f4))))))) = true then (none) else (wharfagelaw0_SameEntrys.l0 k x0 x1 (wrap64 (x5 + 1)))) else (none)) else (none)) else (some true)
def wharfagelaw0_SameEntrys.f (k : Nat) (l0 : List (S50)) (l1 : List (S50)) : Option (Bool) := if (l0.length : Int) = (l1.length : Int) then (wharfagelaw0_SameEntrys.l0 k l0 l1 0) else (none)
theorem wharfagelaw0_SameEntrys.mono_l : ∀ k, (∀ y0 y1 y2, LeO (wharfagelaw0_SameEntrys.l0 k y0 y1 y2) (wharfagelaw0_SameEntrys.l0 (k + 1) y0 y1 y2))
 | 0 => fun _ _ _ r h => by simp [wharfagelaw0_SameEntrys.l0] at h
 | k + 1 => by
  have ih0 := wharfagelaw0_SameEntrys.mono_l k
  ·intro y0 y1 y2
   unfold wharfagelaw0_SameEntrys.l0
   repeat' first
   | (with_reducible exact ih0 _ _ _)
   | (with_reducible exact LeO.refl _)
   | (with_reducible exact LeO.none _)
   | (with_reducible refine LeO.ite ?_ ?_)
   | (with_reducible refine LeO.bind ?_ (fun _ => ?_))
   | exact ih0 _ _ _
   | exact LeO.none _
   | refine LeO.ite ?_ ?_
   | refine LeO.bind ?_ (fun _ => ?_)
theorem wharfagelaw0_SameEntrys.mono : ∀ a0 a1 k, LeO (wharfagelaw0_SameEntrys.f k a0 a1) (wharfagelaw0_SameEntrys.f (k + 1) a0 a1) := by
 intro a0 a1 k
 have ih0 := wharfagelaw0_SameEntrys.mono_l k
 unfold wharfagelaw0_SameEntrys.f
 repeat' first
   | (with_reducible exact ih0 _ _ _)
   | (with_reducible exact LeO.refl _)
   | (with_reducible exact LeO.none _)
   | (with_reducible refine LeO.ite ?_ ?_)
   | (with_reducible refine LeO.bind ?_ (fun _ => ?_))
   | exact ih0 _ _ _
   | exact LeO.none _
   | refine LeO.ite ?_ ?_
   | refine LeO.bind ?_ (fun _ => ?_)
set_option maxHeartbeats 8000000 in
set_option maxRecDepth 100000 in
theorem wharfagelaw0_SameEntrys.calls (k : Nat) (A0 : Option Addr) (c0 : Nat) (l0 : List (S50)) (A1 : Option Addr) (c1 : Nat) (l1 : List (S50)) (r : Bool) (w : World) (hr0 : Kd.C k50 w A0 l0.length l0) (hc0 : l0.length ≤ c0) (hr1 : Kd.C k50 w A1 l1.length l1) (hc1 : l1.length ≤ c1) (h : wharfagelaw0_SameEntrys.f k l0 l1 = some r) :
  Calls Try.prog 31 #[.slice A0 l0.length c0, .slice A1 l1.length c1] w fun e w' => e = .returned (.bool r) ∧ Drawn0 w w' := by
 have hu50 := Try.underlying50
 have HR0 := Aside0.mk hr0
 have HC0 := Aside0.mk hc0
 clear hr0 hc0
 have HR1 := Aside0.mk hr1
 have HC1 := Aside0.mk hc1
 clear hr1 hc1
 have H : (if (l0.length : Int) = (l1.length : Int) then (wharfagelaw0_SameEntrys.l0 k l0 l1 0) else (none)) = some r := h
 clear h
 by_cases c3 : (l0.length : Int) = (l1.length : Int)
 ·rw [if_pos c3] at H
  have c3b0 : ((l0.length : Int) == (l1.length : Int)) = true := beq_iff_eq.mpr c3
  have c3b1 : ((l0.length : Int) != (l1.length : Int)) = false := bne_eq_false_iff_eq.mpr c3
  have c3b2 : (l0.length == l1.length) = true := by first | simpa using c3 | (simp at c3 ⊢; omega)
  clear c3
  have H' := Aside0.mk H
  clear H
  go_enter Try.func31, Try.ntmps31
  go_wp2
  repeat (go_quiet (fail); try go_wp2)
  go_loopg [5] k (fun kq v5 w' => ∃ (x5_1 : Int), v5 = .int .i64 x5_1 ∧ Aside0 (wharfagelaw0_SameEntrys.l0 kq l0 l1 x5_1 = some r) ∧ Aside0 (kq ≤ k) ∧ Drawn0 w w')
  case atStart => exact ⟨(0), (by first | rfl | (simp; done) | (simp [*]; done)), H', ⟨Nat.le_refl _⟩, by repeat (first | exact Drawn0.refl _ | apply Drawn0.step)⟩
  case round =>
   clear H'
   try clear c1
   try clear p2
   try clear c3
   try clear c3b0
   try clear c3b1
   try clear c3b2
   obtain ⟨x5_1, rfl, HA, HK1, ⟨m1, rfl⟩⟩ := hrel
   cases gk with
   | zero => exact absurd HA.out (by simp [wharfagelaw0_SameEntrys.l0])
   | succ k1 =>
    have H := HA.out
    clear HA
    simp only [wharfagelaw0_SameEntrys.l0] at H
    by_cases c4 : x5_1 < (l0.length : Int)
    ·rw [if_pos c4] at H
     have c4b0 : decide (x5_1 < (l0.length : Int)) = true := decide_eq_true c4
     clear c4
     by_cases c5 : 0 ≤ x5_1
     ·rw [if_pos c5] at H
      have c5b0 : decide (0 ≤ x5_1) = true := decide_eq_true c5
      clear c5
      by_cases c6 : x5_1 < (l1.length : Int)
      ·rw [if_pos c6] at H
       have c6b0 : decide (x5_1 < (l1.length : Int)) = true := decide_eq_true c6
       clear c6
       by_cases c7 : ((!(((rd_T50 l0 x5_1).f0.f0) == ((rd_T50 l1 x5_1).f0.f0)) || (!(((rd_T50 l0 x5_1).f0.f1) == ((rd_T50 l1 x5_1).f0.f1)) || (!(((rd_T50 l0 x5_1).f0.f2) == ((rd_T50 l1 x5_1).f0.f2)) || (!(((rd_T50 l0 x5_1).f0.f3) == ((rd_T50 l1 x5_1).f0.f3)) || (!(((rd_T50 l0 x5_1).f0.f4) == ((rd_T50 l1 x5_1).f0.f4))))))) || (!(((rd_T50 l0 x5_1).f1) == ((rd_T50 l1 x5_1).f1)) || (!(((rd_T50 l0 x5_1).f2) == ((rd_T50 l1 x5_1).f2)) || (!(((rd_T50 l0 x5_1).f3) == ((rd_T50 l1 x5_1).f3)) || (!(((rd_T50 l0 x5_1).f4) == ((rd_T50 l1 x5_1).f4))))))) = true
       ·rw [if_pos c7] at H
        exact absurd H (by simp)
       ·rw [if_neg c7] at H
        have c7b0 : ((!(((rd_T50 l0 x5_1).f0.f0) == ((rd_T50 l1 x5_1).f0.f0)) || (!(((rd_T50 l0 x5_1).f0.f1) == ((rd_T50 l1 x5_1).f0.f1)) || (!(((rd_T50 l0 x5_1).f0.f2) == ((rd_T50 l1 x5_1).f0.f2)) || (!(((rd_T50 l0 x5_1).f0.f3) == ((rd_T50 l1 x5_1).f0.f3)) || (!(((rd_T50 l0 x5_1).f0.f4) == ((rd_T50 l1 x5_1).f0.f4))))))) || (!(((rd_T50 l0 x5_1).f1) == ((rd_T50 l1 x5_1).f1)) || (!(((rd_T50 l0 x5_1).f2) == ((rd_T50 l1 x5_1).f2)) || (!(((rd_T50 l0 x5_1).f3) == ((rd_T50 l1 x5_1).f3)) || (!(((rd_T50 l0 x5_1).f4) == ((rd_T50 l1 x5_1).f4))))))) = false := by simpa using c7
        clear c7
        have H' := Aside0.mk H
        clear H
        have p218 : 0 ≤ (x5_1 : Int) := of_decide_eq_true (by first | (with_reducible assumption) | assumption)
        have q218 : x5_1 < (l0.length : Int) := of_decide_eq_true (by first | (with_reducible assumption) | assumption)
        obtain ⟨ad218, e218, hx218_0, hx218_1, hx218_2, hx218_3, hx218_4, hx218_5, hx218_6, hx218_7, hx218_8⟩ := at_T50 HR0.out x5_1 p218 q218
        cases e218
        replace p218 := eq_true p218
        replace q218 := eq_true q218
        have p219 : 0 ≤ (x5_1 : Int) := of_decide_eq_true (by first | (with_reducible assumption) | assumption)
        have q219 : x5_1 < (l1.length : Int) := of_decide_eq_true (by first | (with_reducible assumption) | assumption)
        obtain ⟨ad219, e219, hx219_0, hx219_1, hx219_2, hx219_3, hx219_4, hx219_5, hx219_6, hx219_7, hx219_8⟩ := at_T50 HR1.out x5_1 p219 q219
        cases e219
        replace p219 := eq_true p219
        replace q219 := eq_true q219
        go_wp2
        repeat (go_quiet (fail); try go_wp2)
        go_roundg k1
        case measure => have := HK1.out; omega
        case rel => exact ⟨(wrap64 (x5_1 + 1)), (by first | rfl | (simp; done) | (simp [*]; done)), H', ⟨by have := HK1.out; omega⟩, by repeat (first | exact Drawn0.refl _ | apply Drawn0.step)⟩
      ·rw [if_neg c6] at H
       exact absurd H (by simp)
     ·rw [if_neg c5] at H
      exact absurd H (by simp)
    ·rw [if_neg c4] at H
     have c4b0 : decide (x5_1 < (l0.length : Int)) = false := decide_eq_false c4
     clear c4
     obtain rfl := Option.some.inj H
     go_wp2
     repeat (go_quiet (fail); try go_wp2)
     go_ret
     exact ⟨by first | rfl | (simp; done) | (simp [*]; done), by repeat (first | exact Drawn0.refl _ | apply Drawn0.step)⟩
 ·rw [if_neg c3] at H
  exact absurd H (by simp)

end Go.Proofs.Ytlapbhgkmmeeoaa.PSpares
end
section
/- Contracts: what calls of these functions of the program do, each as a plain function; written by a program of this session. -/
namespace Go.Proofs.Ytlapbhgkmmeeoaa.PSpares
open Go.RowKit Go.Proofs.YtlapbhgkmmeeoaaW.PrintWords Go.Proofs.YtlapbhgkmmeeoaaW.PrintLast Go.Proofs.YtlapbhgkmmeeoaaW.PrintMore
attribute [local go_sem] max2_int min2_int max_two min_two max_three min_three max_four min_four   -- for this text's walks alone
set_option linter.unusedVariables false
set_option linter.unusedSimpArgs false

/-! ### wharfagelaw0_SameNode: function 13 -/
def wharfagelaw0_SameNode.f (k : Nat) (a0_0 : Int) (a0_1 : Int) (l0_2 : List (S53)) (l0_3 : List (S86)) (l0_4 : List (S91)) (l0_5 : List (S50)) (a0_6 : Int) (a1_0 : Int) (a1_1 : Int) (l1_2 : List (S53)) (l1_3 : List (S86)) (l1_4 : List (S91)) (l1_5 : List (S50)) (a1_6 : Int) : Option (Bool) := if a0_0 = a1_0 then (if a0_6 = a1_6 then ((wharfagelaw0_SameConfig.f k a0_1 l0_2 a1_1 l1_2).bind fun t222 => (if t222 = true then ((wharfagelaw0_SameHealths.f k l0_3 l1_3).bind fun t223 => (if t223 = true then ((wharfagelaw0_SameSeens.f k l0_4 l1_4).bind fun t224 => (if t224 = true then ((wharfagelaw0_SameEntrys.f k l0_5 l1_5).bind fun t225 => (some t225)) else (none))) else (none))) else (none))) else (none)) else (none)
theorem wharfagelaw0_SameNode.mono : ∀ a0 a1 a2 a3 a4 a5 a6 a7 a8 a9 a10 a11 a12 a13 k, LeO (wharfagelaw0_SameNode.f k a0 a1 a2 a3 a4 a5 a6 a7 a8 a9 a10 a11 a12 a13) (wharfagelaw0_SameNode.f (k + 1) a0 a1 a2 a3 a4 a5 a6 a7 a8 a9 a10 a11 a12 a13) := by
 intro a0 a1 a2 a3 a4 a5 a6 a7 a8 a9 a10 a11 a12 a13 k
 unfold wharfagelaw0_SameNode.f
 repeat' first
   | (with_reducible exact wharfagelaw0_SameConfig.mono _ _ _ _ _)
   | (with_reducible exact wharfagelaw0_SameEntrys.mono _ _ _)
   | (with_reducible exact wharfagelaw0_SameHealths.mono _ _ _)
   | (with_reducible exact wharfagelaw0_SameSeens.mono _ _ _)
   | (with_reducible exact LeO.refl _)
   | (with_reducible exact LeO.none _)
   | (with_reducible refine LeO.ite ?_ ?_)
   | (with_reducible refine LeO.bind ?_ (fun _ => ?_))
   | exact wharfagelaw0_SameConfig.mono _ _ _ _ _
   | exact wharfagelaw0_SameEntrys.mono _ _ _
   | exact wharfagelaw0_SameHealths.mono _ _ _
   | exact wharfagelaw0_SameSeens.mono _ _ _
   | exact LeO.none _
   | refine LeO.ite ?_ ?_
   | refine LeO.bind ?_ (fun _ => ?_)
set_option maxHeartbeats 8000000 in
set_option maxRecDepth 100000 in
theorem wharfagelaw0_SameNode.calls (k : Nat) (a0_0 : Int) (a0_1 : Int) (A0_2 : Option Addr) (c0_2 : Nat) (l0_2 : List (S53)) (A0_3 : Option Addr) (c0_3 : Nat) (l0_3 : List (S86)) (A0_4 : Option Addr) (c0_4 : Nat) (l0_4 : List (S91)) (A0_5 : Option Addr) (c0_5 : Nat) (l0_5 : List (S50)) (a0_6 : Int) (a1_0 : Int) (a1_1 : Int) (A1_2 : Option Addr) (c1_2 : Nat) (l1_2 : List (S53)) (A1_3 : Option Addr) (c1_3 : Nat) (l1_3 : List (S86)) (A1_4 : Option Addr) (c1_4 : Nat) (l1_4 : List (S91)) (A1_5 : Option Addr) (c1_5 : Nat) (l1_5 : List (S50)) (a1_6 : Int) (r : Bool) (w : World) (hr0_2 : Kd.C k53 w A0_2 l0_2.length l0_2) (hc0_2 : l0_2.length ≤ c0_2) (hr0_3 : Kd.C k86 w A0_3 l0_3.length l0_3) (hc0_3 : l0_3.length ≤ c0_3) (hr0_4 : Kd.C k91 w A0_4 l0_4.length l0_4) (hc0_4 : l0_4.length ≤ c0_4) (hr0_5 : Kd.C k50 w A0_5 l0_5.length l0_5) (hc0_5 : l0_5.length ≤ c0_5) (hr1_2 : Kd.C k53 w A1_2 l1_2.length l1_2) (hc1_2 : l1_2.length ≤ c1_2) (hr1_3 : Kd.C k86 w A1_3 l1_3.length l1_3) (hc1_3 : l1_3.length ≤ c1_3) (hr1_4 : Kd.C k91 w A1_4 l1_4.length l1_4) (hc1_4 : l1_4.length ≤ c1_4) (hr1_5 : Kd.C k50 w A1_5 l1_5.length l1_5) (hc1_5 : l1_5.length ≤ c1_5) (h : wharfagelaw0_SameNode.f k a0_0 a0_1 l0_2 l0_3 l0_4 l0_5 a0_6 a1_0 a1_1 l1_2 l1_3 l1_4 l1_5 a1_6 = some r) :
  Calls Try.prog 13 #[.agg #[.int .i64 a0_0, .int .i64 a0_1, .slice A0_2 l0_2.length c0_2, .slice A0_3 l0_3.length c0_3, .slice A0_4 l0_4.length c0_4, .slice A0_5 l0_5.length c0_5, .int .i64 a0_6], .agg #[.int .i64 a1_0, .int .i64 a1_1, .slice A1_2 l1_2.length c1_2, .slice A1_3 l1_3.length c1_3, .slice A1_4 l1_4.length c1_4, .slice A1_5 l1_5.length c1_5, .int .i64 a1_6]] w fun e w' => e = .returned (.bool r) ∧ Below w.heap.size w w' := by
 have hu29 := Try.underlying29
 have hu24 := Try.underlying24
 have HR0_2 := Aside0.mk hr0_2
 have HC0_2 := Aside0.mk hc0_2
 clear hr0_2 hc0_2
 have HR0_3 := Aside0.mk hr0_3
 have HC0_3 := Aside0.mk hc0_3
 clear hr0_3 hc0_3
 have HR0_4 := Aside0.mk hr0_4
 have HC0_4 := Aside0.mk hc0_4
 clear hr0_4 hc0_4
 have HR0_5 := Aside0.mk hr0_5
 have HC0_5 := Aside0.mk hc0_5
 clear hr0_5 hc0_5
 have HR1_2 := Aside0.mk hr1_2
 have HC1_2 := Aside0.mk hc1_2
 clear hr1_2 hc1_2
 have HR1_3 := Aside0.mk hr1_3
 have HC1_3 := Aside0.mk hc1_3
 clear hr1_3 hc1_3
 have HR1_4 := Aside0.mk hr1_4
 have HC1_4 := Aside0.mk hc1_4
 clear hr1_4 hc1_4
 have HR1_5 := Aside0.mk hr1_5
 have HC1_5 := Aside0.mk hc1_5
 clear hr1_5 hc1_5
 have HB := Aside0.mk (Below.refl w.heap.size w)
 have H : (if a0_0 = a1_0 then (if a0_6 = a1_6 then ((wharfagelaw0_SameConfig.f k a0_1 l0_2 a1_1 l1_2).bind fun t222 => (if t222 = true then ((wharfagelaw0_SameHealths.f k l0_3 l1_3).bind fun t223 => (if t223 = true then ((wharfagelaw0_SameSeens.f k l0_4 l1_4).bind fun t224 => (if t224 = true then ((wharfagelaw0_SameEntrys.f k l0_5 l1_5).bind fun t225 => (some t225)) else (none))) else (none))) else (none))) else (none)) else (none)) = some r := h
 clear h
 by_cases c3 : a0_0 = a1_0
 ·rw [if_pos c3] at H
  have c3b0 : (a0_0 == a1_0) = true := beq_iff_eq.mpr c3
  have c3b1 : (a0_0 != a1_0) = false := bne_eq_false_iff_eq.mpr c3
  clear c3
  by_cases c4 : a0_6 = a1_6
  ·rw [if_pos c4] at H
   have c4b0 : (a0_6 == a1_6) = true := beq_iff_eq.mpr c4
   have c4b1 : (a0_6 != a1_6) = false := bne_eq_false_iff_eq.mpr c4
   clear c4
   replace H := Option.bind_eq_some_iff.mp H
   obtain ⟨t222, A50, H⟩ := H
   replace H : (if t222 = true then ((wharfagelaw0_SameHealths.f k l0_3 l1_3).bind fun t223 => (if t223 = true then ((wharfagelaw0_SameSeens.f k l0_4 l1_4).bind fun t224 => (if t224 = true then ((wharfagelaw0_SameEntrys.f k l0_5 l1_5).bind fun t225 => (some t225)) else (none))) else (none))) else (none)) = some r := H
   have A5 := Aside0.mk A50
   clear A50
   by_cases c6 : t222 = true
   ·subst c6
    have H1 : ((wharfagelaw0_SameHealths.f k l0_3 l1_3).bind fun t223 => (if t223 = true then ((wharfagelaw0_SameSeens.f k l0_4 l1_4).bind fun t224 => (if t224 = true then ((wharfagelaw0_SameEntrys.f k l0_5 l1_5).bind fun t225 => (some t225)) else (none))) else (none))) = some r := by rw [if_pos rfl] at H; exact H
    clear H
    have H := H1
    clear H1
    replace H := Option.bind_eq_some_iff.mp H
    obtain ⟨t223, A70, H⟩ := H
    replace H : (if t223 = true then ((wharfagelaw0_SameSeens.f k l0_4 l1_4).bind fun t224 => (if t224 = true then ((wharfagelaw0_SameEntrys.f k l0_5 l1_5).bind fun t225 => (some t225)) else (none))) else (none)) = some r := H
    have A7 := Aside0.mk A70
    clear A70
    by_cases c8 : t223 = true
    ·subst c8
     have H1 : ((wharfagelaw0_SameSeens.f k l0_4 l1_4).bind fun t224 => (if t224 = true then ((wharfagelaw0_SameEntrys.f k l0_5 l1_5).bind fun t225 => (some t225)) else (none))) = some r := by rw [if_pos rfl] at H; exact H
     clear H
     have H := H1
     clear H1
     replace H := Option.bind_eq_some_iff.mp H
     obtain ⟨t224, A90, H⟩ := H
     replace H : (if t224 = true then ((wharfagelaw0_SameEntrys.f k l0_5 l1_5).bind fun t225 => (some t225)) else (none)) = some r := H
     have A9 := Aside0.mk A90
     clear A90
     by_cases c10 : t224 = true
     ·subst c10
      have H1 : ((wharfagelaw0_SameEntrys.f k l0_5 l1_5).bind fun t225 => (some t225)) = some r := by rw [if_pos rfl] at H; exact H
      clear H
      have H := H1
      clear H1
      replace H := Option.bind_eq_some_iff.mp H
      obtain ⟨t225, A110, H⟩ := H
      replace H : (some t225) = some r := H
      have A11 := Aside0.mk A110
      clear A110
      obtain rfl := Option.some.inj H
      go_enter Try.func13, Try.ntmps13
      go_wp2_with (first | ((with_reducible refine gate_dst (N := 2) rfl ?_); refine box_event ?hg (N := 2) ?hd (cs := #[.int .i64 a0_0, .int .i64 a0_1, .slice A0_2 l0_2.length c0_2, .slice A0_3 l0_3.length c0_3, .slice A0_4 l0_4.length c0_4, .slice A0_5 l0_5.length c0_5, .int .i64 a0_6]) (t := 29) ?hr ?_; (case hd => rfl); (case hg => rfl); (case hr => first | (go_simp; done) | (go_simp; rfl)); intro g0 hg w12 hbox hb; have n0_ := Aside0.mk (below_step (by repeat (first | (with_reducible first | exact HB.out | apply below_alloc | apply pw_below_drewN | apply below_drew1) | exact HB.out)) hb); have n1_ := Aside0.mk (hbox); have n2_ := Aside0.mk ((by rw [hg]; exact (below_size (by repeat (first | (with_reducible first | exact HB.out | apply below_alloc | apply pw_below_drewN | apply below_drew1) | exact HB.out))) : w.heap.size ≤ g0)); have n3_ := Aside0.mk ((by rw [hg]; exact (below_size (by repeat (first | (with_reducible first | exact HB.out | apply below_alloc | apply pw_below_drewN | apply below_drew1) | exact HB.out))) : w.heap.size ≤ g0)); clear HB; have HB := n0_; have K0 := n1_; have G0 := n2_; have E0 := n3_; clear n0_ n1_ n2_ n3_; clear hb hbox hg) | ((with_reducible refine gate_dst (N := 3) rfl ?_); refine box_event ?hg (N := 3) ?hd (cs := #[.int .i64 a1_0, .int .i64 a1_1, .slice A1_2 l1_2.length c1_2, .slice A1_3 l1_3.length c1_3, .slice A1_4 l1_4.length c1_4, .slice A1_5 l1_5.length c1_5, .int .i64 a1_6]) (t := 29) ?hr ?_; (case hd => rfl); (case hg => rfl); (case hr => first | (go_simp; done) | (go_simp; rfl)); intro g1 hg w13 hbox hb; have n0_ := Aside0.mk (blk_below (g := g0) (o := .cells #[.int .i64 a0_0, .int .i64 a0_1, .slice A0_2 l0_2.length c0_2, .slice A0_3 l0_3.length c0_3, .slice A0_4 l0_4.length c0_4, .slice A0_5 l0_5.length c0_5, .int .i64 a0_6] 29 (0, 0)) (by (with_reducible repeat (first | refine blk_drewN ?_ _ | refine blk_drew ?_ | refine blk_alloc ?_ _)); exact K0.out) hb); have n1_ := Aside0.mk (below_step (by repeat (first | (with_reducible first | exact HB.out | apply below_alloc | apply pw_below_drewN | apply below_drew1 | refine below_set ?_ E0.out) | exact HB.out)) hb); have n2_ := Aside0.mk (hbox); have n3_ := Aside0.mk ((by rw [hg]; exact (below_size (by repeat (first | (with_reducible first | exact HB.out | apply below_alloc | apply pw_below_drewN | apply below_drew1 | refine below_set ?_ E0.out) | exact HB.out))) : w.heap.size ≤ g1)); have n4_ := Aside0.mk ((by rw [hg]; exact (below_size (by repeat (first | (with_reducible first | exact HB.out | apply below_alloc | apply pw_below_drewN | apply below_drew1 | refine below_set ?_ E0.out) | exact HB.out))) : w.heap.size ≤ g1)); have n5_ := Aside0.mk ((by rw [hg]; exact Nat.ne_of_lt (blk_lt (g := g0) (o := .cells #[.int .i64 a0_0, .int .i64 a0_1, .slice A0_2 l0_2.length c0_2, .slice A0_3 l0_3.length c0_3, .slice A0_4 l0_4.length c0_4, .slice A0_5 l0_5.length c0_5, .int .i64 a0_6] 29 (0, 0)) (by (with_reducible repeat (first | refine blk_drewN ?_ _ | refine blk_drew ?_ | refine blk_alloc ?_ _)); exact K0.out)) : g0 ≠ g1)); have n6_ := Aside0.mk ((by rw [hg]; exact Nat.ne_of_gt (blk_lt (g := g0) (o := .cells #[.int .i64 a0_0, .int .i64 a0_1, .slice A0_2 l0_2.length c0_2, .slice A0_3 l0_3.length c0_3, .slice A0_4 l0_4.length c0_4, .slice A0_5 l0_5.length c0_5, .int .i64 a0_6] 29 (0, 0)) (by (with_reducible repeat (first | refine blk_drewN ?_ _ | refine blk_drew ?_ | refine blk_alloc ?_ _)); exact K0.out)) : g1 ≠ g0)); clear K0; clear HB; have K0 := n0_; have HB := n1_; have K1 := n2_; have G1 := n3_; have E1 := n4_; have N0 := n5_; have N1 := n6_; clear n0_ n1_ n2_ n3_ n4_ n5_ n6_; clear hb hbox hg; have hnb14 := N0.out; have hnc14 := N1.out; have hcz15_0 : w13.cell? ⟨g0, 0, none⟩ = some (.int .i64 a0_0) := (blk_cell K0.out 0).trans rfl; have hcz15_1 : w13.cell? ⟨g0, 1, none⟩ = some (.int .i64 a0_1) := (blk_cell K0.out 1).trans rfl; have hcz15_2 : w13.cell? ⟨g0, 2, none⟩ = some (.slice A0_2 l0_2.length c0_2) := (blk_cell K0.out 2).trans rfl; have hcz15_3 : w13.cell? ⟨g0, 3, none⟩ = some (.slice A0_3 l0_3.length c0_3) := (blk_cell K0.out 3).trans rfl; have hcz15_4 : w13.cell? ⟨g0, 4, none⟩ = some (.slice A0_4 l0_4.length c0_4) := (blk_cell K0.out 4).trans rfl; have hcz15_5 : w13.cell? ⟨g0, 5, none⟩ = some (.slice A0_5 l0_5.length c0_5) := (blk_cell K0.out 5).trans rfl; have hcz15_6 : w13.cell? ⟨g0, 6, none⟩ = some (.int .i64 a0_6) := (blk_cell K0.out 6).trans rfl; have hfz15_0 := blk_frozen K0.out 0; have hfz15_1 := blk_frozen K0.out 1; have hfz15_2 := blk_frozen K0.out 2; have hfz15_3 := blk_frozen K0.out 3; have hfz15_4 := blk_frozen K0.out 4; have hfz15_5 := blk_frozen K0.out 5; have hfz15_6 := blk_frozen K0.out 6; have hcz16_0 : w13.cell? ⟨g1, 0, none⟩ = some (.int .i64 a1_0) := (blk_cell K1.out 0).trans rfl; have hcz16_1 : w13.cell? ⟨g1, 1, none⟩ = some (.int .i64 a1_1) := (blk_cell K1.out 1).trans rfl; have hcz16_2 : w13.cell? ⟨g1, 2, none⟩ = some (.slice A1_2 l1_2.length c1_2) := (blk_cell K1.out 2).trans rfl; have hcz16_3 : w13.cell? ⟨g1, 3, none⟩ = some (.slice A1_3 l1_3.length c1_3) := (blk_cell K1.out 3).trans rfl; have hcz16_4 : w13.cell? ⟨g1, 4, none⟩ = some (.slice A1_4 l1_4.length c1_4) := (blk_cell K1.out 4).trans rfl; have hcz16_5 : w13.cell? ⟨g1, 5, none⟩ = some (.slice A1_5 l1_5.length c1_5) := (blk_cell K1.out 5).trans rfl; have hcz16_6 : w13.cell? ⟨g1, 6, none⟩ = some (.int .i64 a1_6) := (blk_cell K1.out 6).trans rfl; have hfz16_0 := blk_frozen K1.out 0; have hfz16_1 := blk_frozen K1.out 1; have hfz16_2 := blk_frozen K1.out 2; have hfz16_3 := blk_frozen K1.out 3; have hfz16_4 := blk_frozen K1.out 4; have hfz16_5 := blk_frozen K1.out 5; have hfz16_6 := blk_frozen K1.out 6) | (go_at_call 28; (with_reducible refine (wharfagelaw0_SameConfig.calls k a0_1 _ _ l0_2 a1_1 _ _ l1_2 true _ ?side1 ?side2 ?side3 ?side4 A5.out).mono ?_); (case side1 => repeat (first | exact (Kd.C_below HR0_2.out HB.out) | (with_reducible refine Kd.C_alloc ?_ _) | (with_reducible refine Kd.C_drewN ?_ _) | (with_reducible refine Kd.C_drew ?_))); (case side2 => exact HC0_2.out); (case side3 => repeat (first | exact (Kd.C_below HR1_2.out HB.out) | (with_reducible refine Kd.C_alloc ?_ _) | (with_reducible refine Kd.C_drewN ?_ _) | (with_reducible refine Kd.C_drew ?_))); (case side4 => exact HC1_2.out); rintro e w17 ⟨rfl, hb⟩; have n0_ := Aside0.mk (blk_below (g := g0) (o := .cells #[.int .i64 a0_0, .int .i64 a0_1, .slice A0_2 l0_2.length c0_2, .slice A0_3 l0_3.length c0_3, .slice A0_4 l0_4.length c0_4, .slice A0_5 l0_5.length c0_5, .int .i64 a0_6] 29 (0, 0)) (by (with_reducible repeat (first | refine blk_drewN ?_ _ | refine blk_drew ?_ | refine blk_alloc ?_ _)); exact K0.out) hb); have n1_ := Aside0.mk (blk_below (g := g1) (o := .cells #[.int .i64 a1_0, .int .i64 a1_1, .slice A1_2 l1_2.length c1_2, .slice A1_3 l1_3.length c1_3, .slice A1_4 l1_4.length c1_4, .slice A1_5 l1_5.length c1_5, .int .i64 a1_6] 29 (0, 0)) (by (with_reducible repeat (first | refine blk_drewN ?_ _ | refine blk_drew ?_ | refine blk_alloc ?_ _)); exact K1.out) hb); have n2_ := Aside0.mk (below_step (by repeat (first | (with_reducible first | exact HB.out | apply below_alloc | apply pw_below_drewN | apply below_drew1 | refine below_set ?_ E0.out | refine below_set ?_ E1.out) | exact HB.out)) hb); clear K0; clear K1; clear HB; have K0 := n0_; have K1 := n1_; have HB := n2_; clear n0_ n1_ n2_; (try clear hb); (try clear hb2); (try clear hk); (try clear hi); have hcz18_0 : w17.cell? ⟨g0, 0, none⟩ = some (.int .i64 a0_0) := (blk_cell K0.out 0).trans rfl; have hcz18_1 : w17.cell? ⟨g0, 1, none⟩ = some (.int .i64 a0_1) := (blk_cell K0.out 1).trans rfl; have hcz18_2 : w17.cell? ⟨g0, 2, none⟩ = some (.slice A0_2 l0_2.length c0_2) := (blk_cell K0.out 2).trans rfl; have hcz18_3 : w17.cell? ⟨g0, 3, none⟩ = some (.slice A0_3 l0_3.length c0_3) := (blk_cell K0.out 3).trans rfl; have hcz18_4 : w17.cell? ⟨g0, 4, none⟩ = some (.slice A0_4 l0_4.length c0_4) := (blk_cell K0.out 4).trans rfl; have hcz18_5 : w17.cell? ⟨g0, 5, none⟩ = some (.slice A0_5 l0_5.length c0_5) := (blk_cell K0.out 5).trans rfl; have hcz18_6 : w17.cell? ⟨g0, 6, none⟩ = some (.int .i64 a0_6) := (blk_cell K0.out 6).trans rfl; have hfz18_0 := blk_frozen K0.out 0; have hfz18_1 := blk_frozen K0.out 1; have hfz18_2 := blk_frozen K0.out 2; have hfz18_3 := blk_frozen K0.out 3; have hfz18_4 := blk_frozen K0.out 4; have hfz18_5 := blk_frozen K0.out 5; have hfz18_6 := blk_frozen K0.out 6; have hcz19_0 : w17.cell? ⟨g1, 0, none⟩ = some (.int .i64 a1_0) := (blk_cell K1.out 0).trans rfl; have hcz19_1 : w17.cell? ⟨g1, 1, none⟩ = some (.int .i64 a1_1) := (blk_cell K1.out 1).trans rfl; have hcz19_2 : w17.cell? ⟨g1, 2, none⟩ = some (.slice A1_2 l1_2.length c1_2) := (blk_cell K1.out 2).trans rfl; have hcz19_3 : w17.cell? ⟨g1, 3, none⟩ = some (.slice A1_3 l1_3.length c1_3) := (blk_cell K1.out 3).trans rfl; have hcz19_4 : w17.cell? ⟨g1, 4, none⟩ = some (.slice A1_4 l1_4.length c1_4) := (blk_cell K1.out 4).trans rfl; have hcz19_5 : w17.cell? ⟨g1, 5, none⟩ = some (.slice A1_5 l1_5.length c1_5) := (blk_cell K1.out 5).trans rfl; have hcz19_6 : w17.cell? ⟨g1, 6, none⟩ = some (.int .i64 a1_6) := (blk_cell K1.out 6).trans rfl; have hfz19_0 := blk_frozen K1.out 0; have hfz19_1 := blk_frozen K1.out 1; have hfz19_2 := blk_frozen K1.out 2; have hfz19_3 := blk_frozen K1.out 3; have hfz19_4 := blk_frozen K1.out 4; have hfz19_5 := blk_frozen K1.out 5; have hfz19_6 := blk_frozen K1.out 6) | (go_at_call 29; (with_reducible refine (wharfagelaw0_SameHealths.calls k _ _ l0_3 _ _ l1_3 true _ ?side1 ?side2 ?side3 ?side4 A7.out).mono ?_); (case side1 => repeat (first | exact (Kd.C_below HR0_3.out HB.out) | (with_reducible refine Kd.C_alloc ?_ _) | (with_reducible refine Kd.C_drewN ?_ _) | (with_reducible refine Kd.C_drew ?_))); (case side2 => exact HC0_3.out); (case side3 => repeat (first | exact (Kd.C_below HR1_3.out HB.out) | (with_reducible refine Kd.C_alloc ?_ _) | (with_reducible refine Kd.C_drewN ?_ _) | (with_reducible refine Kd.C_drew ?_))); (case side4 => exact HC1_3.out); rintro e w' ⟨rfl, ⟨nd, rfl⟩⟩) | (go_at_call 30; (with_reducible refine (wharfagelaw0_SameSeens.calls k _ _ l0_4 _ _ l1_4 true _ ?side1 ?side2 ?side3 ?side4 A9.out).mono ?_); (case side1 => repeat (first | exact (Kd.C_below HR0_4.out (by repeat (first | (with_reducible first | exact HB.out | apply below_alloc | apply pw_below_drewN | apply below_drew1 | refine below_set ?_ E0.out | refine below_set ?_ E1.out) | exact HB.out))) | (with_reducible refine Kd.C_alloc ?_ _) | (with_reducible refine Kd.C_drewN ?_ _) | (with_reducible refine Kd.C_drew ?_))); (case side2 => exact HC0_4.out); (case side3 => repeat (first | exact (Kd.C_below HR1_4.out (by repeat (first | (with_reducible first | exact HB.out | apply below_alloc | apply pw_below_drewN | apply below_drew1 | refine below_set ?_ E0.out | refine below_set ?_ E1.out) | exact HB.out))) | (with_reducible refine Kd.C_alloc ?_ _) | (with_reducible refine Kd.C_drewN ?_ _) | (with_reducible refine Kd.C_drew ?_))); (case side4 => exact HC1_4.out); rintro e w' ⟨rfl, ⟨nd, rfl⟩⟩) | (go_at_call 31; (with_reducible refine (wharfagelaw0_SameEntrys.calls k _ _ l0_5 _ _ l1_5 t225 _ ?side1 ?side2 ?side3 ?side4 A11.out).mono ?_); (case side1 => repeat (first | exact (Kd.C_below HR0_5.out (by repeat (first | (with_reducible first | exact HB.out | apply below_alloc | apply pw_below_drewN | apply below_drew1 | refine below_set ?_ E0.out | refine below_set ?_ E1.out) | exact HB.out))) | (with_reducible refine Kd.C_alloc ?_ _) | (with_reducible refine Kd.C_drewN ?_ _) | (with_reducible refine Kd.C_drew ?_))); (case side2 => exact HC0_5.out); (case side3 => repeat (first | exact (Kd.C_below HR1_5.out (by repeat (first | (with_reducible first | exact HB.out | apply below_alloc | apply pw_below_drewN | apply below_drew1 | refine below_set ?_ E0.out | refine below_set ?_ E1.out) | exact HB.out))) | (with_reducible refine Kd.C_alloc ?_ _) | (with_reducible refine Kd.C_drewN ?_ _) | (with_reducible refine Kd.C_drew ?_))); (case side4 => exact HC1_5.out); rintro e w' ⟨rfl, ⟨nd, rfl⟩⟩))
      go_ret
      exact ⟨by first | rfl | (simp [errW_none, errW_some] <;> rfl) | (simp [*, errW_none, errW_some] <;> rfl), by repeat (first | (with_reducible first | exact HB.out | apply below_alloc | apply pw_below_drewN | apply below_drew1 | refine below_set ?_ E0.out | refine below_set ?_ E1.out) | exact HB.out)⟩
     ·replace c10 := Bool.eq_false_iff.mpr c10
      subst c10
      have H1 : (none) = some r := by rw [if_neg (show ¬ (false = true) by decide)] at H; exact H
      clear H
      have H := H1
      clear H1
      exact absurd H (by simp)
    ·replace c8 := Bool.eq_false_iff.mpr c8
     subst c8
     have H1 : (none) = some r := by rw [if_neg (show ¬ (false = true) by decide)] at H; exact H
     clear H
     have H := H1
     clear H1
     exact absurd H (by simp)
   ·replace c6 := Bool.eq_false_iff.mpr c6
    subst c6
    have H1 : (none) = some r := by rw [if_neg (show ¬ (false = true) by decide)] at H; exact H
    clear H
    have H := H1
    clear H1
    exact absurd H (by simp)
  ·rw [if_neg c4] at H
   exact absurd H (by simp)
 ·rw [if_neg c3] at H
  exact absurd H (by simp)

end Go.Proofs.Ytlapbhgkmmeeoaa.PSpares
end
section
/- Contracts: what calls of these functions of the program do, each as a plain function; written by a program of this session. -/
namespace Go.Proofs.Ytlapbhgkmmeeoaa.PSpares
open Go.RowKit Go.Proofs.YtlapbhgkmmeeoaaW.PrintWords Go.Proofs.YtlapbhgkmmeeoaaW.PrintLast Go.Proofs.YtlapbhgkmmeeoaaW.PrintMore
attribute [local go_sem] max2_int min2_int max_two min_two max_three min_three max_four min_four   -- for this text's walks alone
set_option linter.unusedVariables false
set_option linter.unusedSimpArgs false

/-! ### wharfageref10_NewView: function 45 -/
def wharfageref10_NewView.l0 : Nat → List (S91) → Int → Option ((List (S91)))
 | 0, _, _ => none
 | k + 1, x1, x2 => if x2 < 3 then (if x1.length < 3518437208883 then (wharfageref10_NewView.l0 k (x1 ++ [(⟨(⟨0, 0, 0, 0⟩ : S89), (-1)⟩ : S91)]) (wrap64 (x2 + 1))) else (none)) else (some x1)
def wharfageref10_NewView.f (k : Nat)  : Option ((List (S91))) := wharfageref10_NewView.l0 k ([] : List (S91)) 0
theorem wharfageref10_NewView.mono_l : ∀ k, (∀ y0 y1, LeO (wharfageref10_NewView.l0 k y0 y1) (wharfageref10_NewView.l0 (k + 1) y0 y1))
 | 0 => fun _ _ r h => by simp [wharfageref10_NewView.l0] at h
 | k + 1 => by
  have ih0 := wharfageref10_NewView.mono_l k
  ·intro y0 y1
   unfold wharfageref10_NewView.l0
   repeat' first
   | (with_reducible exact ih0 _ _)
   | (with_reducible exact LeO.refl _)
   | (with_reducible exact LeO.none _)
   | (with_reducible refine LeO.ite ?_ ?_)
   | (with_reducible refine LeO.bind ?_ (fun _ => ?_))
   | exact ih0 _ _
   | exact LeO.none _
   | refine LeO.ite ?_ ?_
   | refine LeO.bind ?_ (fun _ => ?_)
theorem wharfageref10_NewView.mono : ∀ k, LeO (wharfageref10_NewView.f k ) (wharfageref10_NewView.f (k + 1) ) := by
 intro  k
 have ih0 := wharfageref10_NewView.mono_l k
 unfold wharfageref10_NewView.f
 repeat' first
   | (with_reducible exact ih0 _ _)
   | (with_reducible exact LeO.refl _)
   | (with_reducible exact LeO.none _)
   | (with_reducible refine LeO.ite ?_ ?_)
   | (with_reducible refine LeO.bind ?_ (fun _ => ?_))
   | exact ih0 _ _
   | exact LeO.none _
   | refine LeO.ite ?_ ?_
   | refine LeO.bind ?_ (fun _ => ?_)
set_option maxHeartbeats 8000000 in
set_option maxRecDepth 100000 in
theorem wharfageref10_NewView.calls (k : Nat)  (r : List (S91)) (w : World) (h : wharfageref10_NewView.f k  = some r) :
  Calls Try.prog 45 #[] w fun e w' => ∃ v0_ : Value, e = .returned (v0_) ∧ Kd.R k91 91 w' w.heap.size (fun _ => True) v0_ r ∧ Below w.heap.size w w' := by
 have hu91 := Try.underlying91
 have HB := Aside0.mk (Below.refl w.heap.size w)
 have H : (wharfageref10_NewView.l0 k ([] : List (S91)) 0) = some r := h
 clear h
 have H' := Aside0.mk H
 clear H
 go_enter Try.func45, Try.ntmps45
 go_wp2
 go_loopg [1, 2] k (fun kq v1 v2 w' => ∃ (x1_1 : List (S91)) (x2_1 : Int), v2 = .int .i64 x2_1 ∧ Aside0 (wharfageref10_NewView.l0 kq x1_1 x2_1 = some r) ∧ Aside0 (kq ≤ k) ∧ Aside0 (Kd.R k91 91 w' w.heap.size (fun _ => True) v1 x1_1) ∧ Aside0 (Below w.heap.size w w'))
 case atStart => exact ⟨(([] : List (S91))), (0), (by first | rfl | (simp; done) | (simp [*]; done)), H', ⟨Nat.le_refl _⟩, ⟨by first | exact Kd.R_nil _ _ _ _ _ | exact Kd.N_nil _ _ _ _ _ | exact Kd.V_nil _ _ _ _ _ | exact Kd.Q_nil _ _ _ _ _ | exact Kd.S_nil _ _ _ _ _⟩, ⟨by repeat (first | (with_reducible first | exact HB.out | apply below_alloc | apply pw_below_drewN | apply below_drew1) | exact HB.out)⟩⟩
 case round =>
  clear H'
  obtain ⟨x1_1, x2_1, rfl, HA, HK1, HO_1, HB⟩ := hrel
  cases gk with
  | zero => exact absurd HA.out (by simp [wharfageref10_NewView.l0])
  | succ k1 =>
   have H := HA.out
   clear HA
   simp only [wharfageref10_NewView.l0] at H
   by_cases c1 : x2_1 < 3
   ·rw [if_pos c1] at H
    have c1b0 : decide (x2_1 < 3) = true := decide_eq_true c1
    clear c1
    by_cases c2 : x1_1.length < 3518437208883
    ·rw [if_pos c2] at H
     have LMc2 := Aside0.mk c2
     clear c2
     obtain ⟨y226, hy226⟩ : ∃ y_ : List (S91), y_ = (x1_1 ++ [(⟨(⟨0, 0, 0, 0⟩ : S89), (-1)⟩ : S91)]) := ⟨_, rfl⟩
     replace H : (wharfageref10_NewView.l0 k1 y226 (wrap64 (x2_1 + 1))) = some r := by first | (rw [hy226]; with_reducible exact H) | (have H2_ := (Option.bind_some _ _).symm.trans H; rw [hy226]; with_reducible exact H2_) | (have H2_ := (Option.bind_some _ _).symm.trans H; with_reducible exact H2_) | with_reducible exact H | (rw [hy226]; exact H) | exact H
     have Ny226 := Aside0.mk hy226
     clear hy226
     have H' := Aside0.mk H
     clear H
     go_wp2_with (first | ((with_reducible refine gate_builtin (b := .append) (xs := #[.tmp 7, .tmp 9]) rfl ?_); at_builtin; refine Kd.R_append k91 (w0 := w) w.heap.size rfl (.tmp 7) (.tmp 9) 26 91 (.agg #[(.int .i64 0), (.int .i64 0), (.int .i64 0), (.int .i64 0), (.int .i64 0)]) 40 rfl Try.underlying26 info91 rfl (by decide) (by omega) u1 x1_1 (⟨(⟨0, 0, 0, 0⟩ : S89), (-1)⟩ : S91) [.int .i64 0, .int .i64 0, .int .i64 0, .int .i64 0, .int .i64 (-1)] (fun _ => True) (fun _ => False) rfl rfl ?aP (fun _ hk => hk.elim) ?aF ?aO ?aB ?aS ?aL ?_; (case aP => exact k91_mkM _ _ _ (⟨(⟨0, 0, 0, 0⟩ : S89), (-1)⟩ : S91)); (case aB => exact (by repeat (first | (with_reducible first | exact HB.out | apply below_alloc | apply pw_below_drewN | apply below_drew1) | exact HB.out))); (case aF => exact (fun _ _ => trivial)); (case aO => exact (by (with_reducible repeat (first | apply Kd.R_alloc | apply Kd.R_drewN | apply Kd.R_drew)); exact HO_1.out)); (case aS => exact (below_size (by repeat (first | (with_reducible first | exact HB.out | apply below_alloc | apply pw_below_drewN | apply below_drew1) | exact HB.out)))); (case aL => have := LMc2.out; omega); intro v227 w3 ho hb hg hat; rw [← Ny226.out] at ho; have n0_ := Aside0.mk (hb); have n1_ := Aside0.mk (ho); clear HB; clear HO_1; have HB := n0_; have O0 := n1_; clear n0_ n1_; clear ho hb hg hat))
     go_roundg k1
     case measure => have := HK1.out; omega
     case rel => exact ⟨(y226), (wrap64 (x2_1 + 1)), (by first | rfl | (simp; done) | (simp [*]; done)), H', ⟨by have := HK1.out; omega⟩, ⟨by (with_reducible repeat (first | apply Kd.R_alloc | apply Kd.R_drewN | apply Kd.R_drew)); exact O0.out⟩, ⟨by repeat (first | (with_reducible first | exact HB.out | apply below_alloc | apply pw_below_drewN | apply below_drew1) | exact HB.out)⟩⟩
    ·rw [if_neg c2] at H
     exact absurd H (by simp)
   ·rw [if_neg c1] at H
    have c1b0 : decide (x2_1 < 3) = false := decide_eq_false c1
    clear c1
    obtain rfl := Option.some.inj H
    go_wp2
    go_ret
    exact ⟨_, by first | rfl | (simp [errW_none, errW_some] <;> rfl) | (simp [*, errW_none, errW_some] <;> rfl), by (with_reducible repeat (first | apply Kd.R_alloc | apply Kd.R_drewN | apply Kd.R_drew)); exact HO_1.out, by repeat (first | (with_reducible first | exact HB.out | apply below_alloc | apply pw_below_drewN | apply below_drew1) | exact HB.out)⟩

end Go.Proofs.Ytlapbhgkmmeeoaa.PSpares
end
section
/- Contracts: what calls of these functions of the program do, each as a plain function; written by a program of this session. -/
namespace Go.Proofs.Ytlapbhgkmmeeoaa.PSpares
open Go.RowKit Go.Proofs.YtlapbhgkmmeeoaaW.PrintWords Go.Proofs.YtlapbhgkmmeeoaaW.PrintLast Go.Proofs.YtlapbhgkmmeeoaaW.PrintMore
attribute [local go_sem] max2_int min2_int max_two min_two max_three min_three max_four min_four   -- for this text's walks alone
set_option linter.unusedVariables false
set_option linter.unusedSimpArgs false

/-! ### wharfageref10_News: function 46 -/
def wharfageref10_News.l0 : Nat → Int → List (S86) → Int → Option ((List (S86)))
 | 0, _, _, _ => none
 | k + 1, x0, x3, x4 => if x4 < x0 then (if x3.length < 8796093022208 then (wharfageref10_News.l0 k x0 (x3 ++ [(⟨true, 0⟩ : S86)]) (wrap64 (x4 + 1))) else (none)) else (some x3)
def wharfageref10_News.f (k : Nat) (a0 : Int) : Option ((List (S86))) := wharfageref10_News.l0 k a0 ([] : List (S86)) 0
theorem wharfageref10_News.mono_l : ∀ k, (∀ y0 y1 y2, LeO (wharfageref10_News.l0 k y0 y1 y2) (wharfageref10_News.l0 (k + 1) y0 y1 y2))
 | 0 => fun _ _ _ r h => by simp [wharfageref10_News.l0] at h
 | k + 1 => by
  have ih0 := wharfageref10_News.mono_l k
  ·intro y0 y1 y2
   unfold wharfageref10_News.l0
   repeat' first
   | (with_reducible exact ih0 _ _ _)
   | (with_reducible exact LeO.refl _)
   | (with_reducible exact LeO.none _)
   | (with_reducible refine LeO.ite ?_ ?_)
   | (with_reducible refine LeO.bind ?_ (fun _ => ?_))
   | exact ih0 _ _ _
   | exact LeO.none _
   | refine LeO.ite ?_ ?_
   | refine LeO.bind ?_ (fun _ => ?_)
theorem wharfageref10_News.mono : ∀ a0 k, LeO (wharfageref10_News.f k a0) (wharfageref10_News.f (k + 1) a0) := by
 intro a0 k
 have ih0 := wharfageref10_News.mono_l k
 unfold wharfageref10_News.f
 repeat' first
   | (with_reducible exact ih0 _ _ _)
   | (with_reducible exact LeO.refl _)
   | (with_reducible exact LeO.none _)
   | (with_reducible refine LeO.ite ?_ ?_)
   | (with_reducible refine LeO.bind ?_ (fun _ => ?_))
   | exact ih0 _ _ _
   | exact LeO.none _
   | refine LeO.ite ?_ ?_
   | refine LeO.bind ?_ (fun _ => ?_)
set_option maxHeartbeats 8000000 in
set_option maxRecDepth 100000 in
theorem wharfageref10_News.calls (k : Nat) (a0 : Int) (r : List (S86)) (w : World) (h : wharfageref10_News.f k a0 = some r) :
  Calls Try.prog 46 #[.int .i64 a0] w fun e w' => ∃ v0_ : Value, e = .returned (v0_) ∧ Kd.R k86 86 w' w.heap.size (fun _ => True) v0_ r ∧ Below w.heap.size w w' := by
 have hu86 := Try.underlying86
 have HB := Aside0.mk (Below.refl w.heap.size w)
 have H : (wharfageref10_News.l0 k a0 ([] : List (S86)) 0) = some r := h
 clear h
 have H' := Aside0.mk H
 clear H
 go_enter Try.func46, Try.ntmps46
 go_wp2
 go_loopg [3, 4] k (fun kq v3 v4 w' => ∃ (x3_1 : List (S86)) (x4_1 : Int), v4 = .int .i64 x4_1 ∧ Aside0 (wharfageref10_News.l0 kq a0 x3_1 x4_1 = some r) ∧ Aside0 (kq ≤ k) ∧ Aside0 (Kd.R k86 86 w' w.heap.size (fun _ => True) v3 x3_1) ∧ Aside0 (Below w.heap.size w w'))
 case atStart => exact ⟨(([] : List (S86))), (0), (by first | rfl | (simp; done) | (simp [*]; done)), H', ⟨Nat.le_refl _⟩, ⟨by first | exact Kd.R_nil _ _ _ _ _ | exact Kd.N_nil _ _ _ _ _ | exact Kd.V_nil _ _ _ _ _ | exact Kd.Q_nil _ _ _ _ _ | exact Kd.S_nil _ _ _ _ _⟩, ⟨by repeat (first | (with_reducible first | exact HB.out | apply below_alloc | apply pw_below_drewN | apply below_drew1) | exact HB.out)⟩⟩
 case round =>
  clear H'
  obtain ⟨x3_1, x4_1, rfl, HA, HK1, HO_3, HB⟩ := hrel
  cases gk with
  | zero => exact absurd HA.out (by simp [wharfageref10_News.l0])
  | succ k1 =>
   have H := HA.out
   clear HA
   simp only [wharfageref10_News.l0] at H
   by_cases c2 : x4_1 < a0
   ·rw [if_pos c2] at H
    have c2b0 : decide (x4_1 < a0) = true := decide_eq_true c2
    clear c2
    by_cases c3 : x3_1.length < 8796093022208
    ·rw [if_pos c3] at H
     have LMc3 := Aside0.mk c3
     clear c3
     obtain ⟨y229, hy229⟩ : ∃ y_ : List (S86), y_ = (x3_1 ++ [(⟨true, 0⟩ : S86)]) := ⟨_, rfl⟩
     replace H : (wharfageref10_News.l0 k1 a0 y229 (wrap64 (x4_1 + 1))) = some r := by first | (rw [hy229]; with_reducible exact H) | (have H2_ := (Option.bind_some _ _).symm.trans H; rw [hy229]; with_reducible exact H2_) | (have H2_ := (Option.bind_some _ _).symm.trans H; with_reducible exact H2_) | with_reducible exact H | (rw [hy229]; exact H) | exact H
     have Ny229 := Aside0.mk hy229
     clear hy229
     have H' := Aside0.mk H
     clear H
     go_wp2_with (first | ((with_reducible refine gate_builtin (b := .append) (xs := #[.tmp 10, .tmp 12]) rfl ?_); at_builtin; refine Kd.R_append k86 (w0 := w) w.heap.size rfl (.tmp 10) (.tmp 12) 25 86 (.agg #[(.bool false), (.int .i64 0)]) 16 rfl Try.underlying25 info86 rfl (by decide) (by omega) u3 x3_1 (⟨true, 0⟩ : S86) [.bool true, .int .i64 0] (fun _ => True) (fun _ => False) rfl rfl ?aP (fun _ hk => hk.elim) ?aF ?aO ?aB ?aS ?aL ?_; (case aP => exact k86_mkM _ _ _ (⟨true, 0⟩ : S86)); (case aB => exact (by repeat (first | (with_reducible first | exact HB.out | apply below_alloc | apply pw_below_drewN | apply below_drew1) | exact HB.out))); (case aF => exact (fun _ _ => trivial)); (case aO => exact (by (with_reducible repeat (first | apply Kd.R_alloc | apply Kd.R_drewN | apply Kd.R_drew)); exact HO_3.out)); (case aS => exact (below_size (by repeat (first | (with_reducible first | exact HB.out | apply below_alloc | apply pw_below_drewN | apply below_drew1) | exact HB.out)))); (case aL => have := LMc3.out; omega); intro v230 w4 ho hb hg hat; rw [← Ny229.out] at ho; have n0_ := Aside0.mk (hb); have n1_ := Aside0.mk (ho); clear HB; clear HO_3; have HB := n0_; have O0 := n1_; clear n0_ n1_; clear ho hb hg hat))
     go_roundg k1
     case measure => have := HK1.out; omega
     case rel => exact ⟨(y229), (wrap64 (x4_1 + 1)), (by first | rfl | (simp; done) | (simp [*]; done)), H', ⟨by have := HK1.out; omega⟩, ⟨by (with_reducible repeat (first | apply Kd.R_alloc | apply Kd.R_drewN | apply Kd.R_drew)); exact O0.out⟩, ⟨by repeat (first | (with_reducible first | exact HB.out | apply below_alloc | apply pw_below_drewN | apply below_drew1) | exact HB.out)⟩⟩
    ·rw [if_neg c3] at H
     exact absurd H (by simp)
   ·rw [if_neg c2] at H
    have c2b0 : decide (x4_1 < a0) = false := decide_eq_false c2
    clear c2
    obtain rfl := Option.some.inj H
    go_wp2
    go_ret
    exact ⟨_, by first | rfl | (simp [errW_none, errW_some] <;> rfl) | (simp [*, errW_none, errW_some] <;> rfl), by (with_reducible repeat (first | apply Kd.R_alloc | apply Kd.R_drewN | apply Kd.R_drew)); exact HO_3.out, by repeat (first | (with_reducible first | exact HB.out | apply below_alloc | apply pw_below_drewN | apply below_drew1) | exact HB.out)⟩

end Go.Proofs.Ytlapbhgkmmeeoaa.PSpares
end
section
/- Contracts: what calls of these functions of the program do, each as a plain function; written by a program of this session. -/
namespace Go.Proofs.Ytlapbhgkmmeeoaa.PSpares
open Go.RowKit Go.Proofs.YtlapbhgkmmeeoaaW.PrintWords Go.Proofs.YtlapbhgkmmeeoaaW.PrintLast Go.Proofs.YtlapbhgkmmeeoaaW.PrintMore
attribute [local go_sem] max2_int min2_int max_two min_two max_three min_three max_four min_four   -- for this text's walks alone
set_option linter.unusedVariables false
set_option linter.unusedSimpArgs false

/-! ### wharfagelaw17_node: function 32 -/
def wharfagelaw17_node.f (k : Nat)  : Option (Int × Int × (List (S53)) × (List (S86)) × (List (S91)) × (List (S50)) × Int) := (wharfageref10_NewView.f k).bind fun t243 => (if 1 < (t243.length : Int) then ((wharfageref10_News.f k 4).bind fun t247 => (some (0, 3, (([(⟨2, false, 1, (([(⟨1, false⟩ : S83)] : List (S83)))⟩ : S53), (⟨1, false, 4, (([(⟨1, false⟩ : S83)] : List (S83)))⟩ : S53)] : List (S53))), t247, (t243.set (1 : Int).toNat (⟨(⟨1, 1, 1, 4⟩ : S89), 5⟩ : S91)), ([] : List (S50)), 0))) else (none))
theorem wharfagelaw17_node.mono : ∀ k, LeO (wharfagelaw17_node.f k ) (wharfagelaw17_node.f (k + 1) ) := by
 intro  k
 unfold wharfagelaw17_node.f
 repeat' first
   | (with_reducible exact wharfageref10_NewView.mono _)
   | (with_reducible exact wharfageref10_News.mono _ _)
   | (with_reducible exact LeO.refl _)
   | (with_reducible exact LeO.none _)
   | (with_reducible refine LeO.ite ?_ ?_)
   | (with_reducible refine LeO.bind ?_ (fun _ => ?_))
   | exact wharfageref10_NewView.mono _
   | exact wharfageref10_News.mono _ _
   | exact LeO.none _
   | refine LeO.ite ?_ ?_
   | refine LeO.bind ?_ (fun _ => ?_)
set_option maxHeartbeats 8000000 in
set_option maxRecDepth 100000 in
theorem wharfagelaw17_node.calls (k : Nat)  (r1 : Int) (r2 : Int) (r3 : List (S53)) (r4 : List (S86)) (r5 : List (S91)) (r6 : List (S50)) (r7 : Int) (w : World) (h : wharfagelaw17_node.f k  = some (r1, r2, r3, r4, r5, r6, r7)) :
  Calls Try.prog 32 #[] w fun e w' => ∃ v2_ v3_ v4_ v5_ : Value, e = .returned (.agg #[.int .i64 r1, .int .i64 r2, v2_, v3_, v4_, v5_, .int .i64 r7]) ∧ Kd.N k53 53 w' w.heap.size (fun k_ => (w.heap.size ≤ k_) ∧ some k_ ≠ (v3_ : Value).ownBlock ∧ some k_ ≠ (v4_ : Value).ownBlock ∧ some k_ ≠ (v5_ : Value).ownBlock) v2_ r3 ∧ Kd.R k86 86 w' w.heap.size (fun k_ => (w.heap.size ≤ k_)) v3_ r4 ∧ Kd.R k91 91 w' w.heap.size (fun k_ => (w.heap.size ≤ k_)) v4_ r5 ∧ Kd.R k50 50 w' w.heap.size (fun k_ => (w.heap.size ≤ k_)) v5_ r6 ∧ Below w.heap.size w w' := by
 have hu29 := Try.underlying29
 have hu83 := Try.underlying83
 have hu53 := Try.underlying53
 have hu24 := Try.underlying24
 have hu89 := Try.underlying89
 have hu91 := Try.underlying91
 have HB := Aside0.mk (Below.refl w.heap.size w)
 have H : ((wharfageref10_NewView.f k).bind fun t243 => (if 1 < (t243.length : Int) then ((wharfageref10_News.f k 4).bind fun t247 => (some (0, 3, (([(⟨2, false, 1, (([(⟨1, false⟩ : S83)] : List (S83)))⟩ : S53), (⟨1, false, 4, (([(⟨1, false⟩ : S83)] : List (S83)))⟩ : S53)] : List (S53))), t247, (t243.set (1 : Int).toNat (⟨(⟨1, 1, 1, 4⟩ : S89), 5⟩ : S91)), ([] : List (S50)), 0))) else (none))) = some (r1, r2, r3, r4, r5, r6, r7) := h
 clear h
 obtain ⟨y233, hy233⟩ : ∃ y_ : List (S83), y_ = (([(⟨1, false⟩ : S83)] : List (S83))) := ⟨_, rfl⟩
 replace H : ((wharfageref10_NewView.f k).bind fun t243 => (if 1 < (t243.length : Int) then ((wharfageref10_News.f k 4).bind fun t247 => (some (0, 3, (([(⟨2, false, 1, y233⟩ : S53), (⟨1, false, 4, (([(⟨1, false⟩ : S83)] : List (S83)))⟩ : S53)] : List (S53))), t247, (t243.set (1 : Int).toNat (⟨(⟨1, 1, 1, 4⟩ : S89), 5⟩ : S91)), ([] : List (S50)), 0))) else (none))) = some (r1, r2, r3, r4, r5, r6, r7) := by first | (rw [hy233]; with_reducible exact H) | (have H2_ := (Option.bind_some _ _).symm.trans H; rw [hy233]; with_reducible exact H2_) | (have H2_ := (Option.bind_some _ _).symm.trans H; with_reducible exact H2_) | with_reducible exact H | (rw [hy233]; exact H) | exact H
 have Ny233 := Aside0.mk hy233
 clear hy233
 obtain ⟨y236, hy236⟩ : ∃ y_ : List (S83), y_ = (([(⟨1, false⟩ : S83)] : List (S83))) := ⟨_, rfl⟩
 replace H : ((wharfageref10_NewView.f k).bind fun t243 => (if 1 < (t243.length : Int) then ((wharfageref10_News.f k 4).bind fun t247 => (some (0, 3, (([(⟨2, false, 1, y233⟩ : S53), (⟨1, false, 4, y236⟩ : S53)] : List (S53))), t247, (t243.set (1 : Int).toNat (⟨(⟨1, 1, 1, 4⟩ : S89), 5⟩ : S91)), ([] : List (S50)), 0))) else (none))) = some (r1, r2, r3, r4, r5, r6, r7) := by first | (rw [hy236]; with_reducible exact H) | (have H2_ := (Option.bind_some _ _).symm.trans H; rw [hy236]; with_reducible exact H2_) | (have H2_ := (Option.bind_some _ _).symm.trans H; with_reducible exact H2_) | with_reducible exact H | (rw [hy236]; exact H) | exact H
 have Ny236 := Aside0.mk hy236
 clear hy236
 obtain ⟨y239, hy239⟩ : ∃ y_ : List (S53), y_ = (([(⟨2, false, 1, y233⟩ : S53), (⟨1, false, 4, y236⟩ : S53)] : List (S53))) := ⟨_, rfl⟩
 replace H : ((wharfageref10_NewView.f k).bind fun t243 => (if 1 < (t243.length : Int) then ((wharfageref10_News.f k 4).bind fun t247 => (some (0, 3, y239, t247, (t243.set (1 : Int).toNat (⟨(⟨1, 1, 1, 4⟩ : S89), 5⟩ : S91)), ([] : List (S50)), 0))) else (none))) = some (r1, r2, r3, r4, r5, r6, r7) := by first | (rw [hy239]; with_reducible exact H) | (have H2_ := (Option.bind_some _ _).symm.trans H; rw [hy239]; with_reducible exact H2_) | (have H2_ := (Option.bind_some _ _).symm.trans H; with_reducible exact H2_) | with_reducible exact H | (rw [hy239]; exact H) | exact H
 have Ny239 := Aside0.mk hy239
 clear hy239
 replace H := Option.bind_eq_some_iff.mp H
 obtain ⟨t243, A10, H⟩ := H
 replace H : (if 1 < (t243.length : Int) then ((wharfageref10_News.f k 4).bind fun t247 => (some (0, 3, y239, t247, (t243.set (1 : Int).toNat (⟨(⟨1, 1, 1, 4⟩ : S89), 5⟩ : S91)), ([] : List (S50)), 0))) else (none)) = some (r1, r2, r3, r4, r5, r6, r7) := H
 have A1 := Aside0.mk A10
 clear A10
 by_cases c2 : 1 < (t243.length : Int)
 ·rw [if_pos c2] at H
  have c2b0 : decide (1 < (t243.length : Int)) = true := decide_eq_true c2
  have c2b1 : decide (1 < t243.length) = true := decide_eq_true (by omega)
  clear c2
  obtain ⟨y246, hy246⟩ : ∃ y_ : List (S91), y_ = (t243.set (1 : Int).toNat (⟨(⟨1, 1, 1, 4⟩ : S89), 5⟩ : S91)) := ⟨_, rfl⟩
  replace H : ((wharfageref10_News.f k 4).bind fun t247 => (some (0, 3, y239, t247, y246, ([] : List (S50)), 0))) = some (r1, r2, r3, r4, r5, r6, r7) := by first | (rw [hy246]; with_reducible exact H) | (have H2_ := (Option.bind_some _ _).symm.trans H; rw [hy246]; with_reducible exact H2_) | (have H2_ := (Option.bind_some _ _).symm.trans H; with_reducible exact H2_) | with_reducible exact H | (rw [hy246]; exact H) | exact H
  have Ny246 := Aside0.mk hy246
  clear hy246
  replace H := Option.bind_eq_some_iff.mp H
  obtain ⟨t247, A40, H⟩ := H
  replace H : (some (0, 3, y239, t247, y246, ([] : List (S50)), 0)) = some (r1, r2, r3, r4, r5, r6, r7) := H
  have A4 := Aside0.mk A40
  clear A40
  simp only [Option.some.injEq, Prod.mk.injEq] at H
  obtain ⟨rfl, rfl, rfl, rfl, rfl, rfl, rfl⟩ := H
  go_enter Try.func32, Try.ntmps32
  try go_wp2_with (first | ((with_reducible refine gate_dst (N := 0) rfl ?_); refine box_event ?hg (N := 0) ?hd (cs := #[.int .i64 0, .int .i64 0, .slice none 0 0, .slice none 0 0, .slice none 0 0, .slice none 0 0, .int .i64 0]) (t := 29) ?hr ?_; (case hd => rfl); (case hg => rfl); (case hr => first | (go_simp; done) | (go_simp; rfl)); intro g0 hg w5 hbox hb; have n0_ := Aside0.mk (below_step (by repeat (first | (with_reducible first | exact HB.out | apply below_alloc | apply pw_below_drewN | apply below_drew1) | exact HB.out)) hb); have n1_ := Aside0.mk (hbox); have n2_ := Aside0.mk ((by rw [hg]; exact (below_size (by repeat (first | (with_reducible first | exact HB.out | apply below_alloc | apply pw_below_drewN | apply below_drew1) | exact HB.out))) : w.heap.size ≤ g0)); have n3_ := Aside0.mk ((by rw [hg]; exact (below_size (by repeat (first | (with_reducible first | exact HB.out | apply below_alloc | apply pw_below_drewN | apply below_drew1) | exact HB.out))) : w.heap.size ≤ g0)); clear HB; have HB := n0_; have K0 := n1_; have G0 := n2_; have E0 := n3_; clear n0_ n1_ n2_ n3_; clear hb hbox hg) | ((with_reducible refine gate_dst (N := 4) rfl ?_); refine Kd.R_lit k83 _ 83 ?hg (N := 4) ?hd (xs := ([(⟨1, false⟩ : S83)] : List (S83))) (inner := [.int .i64 1, .bool false]) (ok := fun _ => True) (okp := fun _ => True) ?hr ?hp (fun _ hk => hk) trivial (Below.refl _ _) (Nat.le_refl _) (by simp) ?_; (case hd => rfl); (case hg => rfl); (case hr => first | (go_simp; done) | (go_simp; rfl)); (case hp => exact (Reps.c2 (show Kd.M k83 _ _ _ (⟨1, false⟩ : S83) [.int .i64 1, .bool false] from (k83_mkM _ _ _ (⟨1, false⟩ : S83) )) (Reps.none _ _))); intro v234 w6 ho7 hb hg_ hnew_; clear hg_ hnew_; (first | rw [← Ny233.out] at ho7 | (simp only [Int.reduceToNat] at ho7; rw [← Ny233.out] at ho7)); have n0_ := Aside0.mk (Kd.R_lower (Kd.R_newM (M := fun k_ => (w.heap.size ≤ k_)) ho7 (below_size (by repeat (first | (with_reducible first | exact HB.out | apply below_alloc | apply pw_below_drewN | apply below_drew1 | refine below_set ?_ E0.out) | exact HB.out))) (fun k_ h_ => h_)) (below_size (by repeat (first | (with_reducible first | exact HB.out | apply below_alloc | apply pw_below_drewN | apply below_drew1 | refine below_set ?_ E0.out) | exact HB.out)))); have n1_ := Aside0.mk (blk_below (g := g0) (o := .cells #[.int .i64 0, .int .i64 0, .slice none 0 0, .slice none 0 0, .slice none 0 0, .slice none 0 0, .int .i64 0] 29 (0, 0)) (by (with_reducible repeat (first | refine blk_drewN ?_ _ | refine blk_drew ?_ | refine blk_alloc ?_ _)); exact K0.out) hb); have n2_ := Aside0.mk (below_step (by repeat (first | (with_reducible first | exact HB.out | apply below_alloc | apply pw_below_drewN | apply below_drew1 | refine below_set ?_ E0.out) | exact HB.out)) hb); clear K0; clear HB; have O2 := n0_; have K0 := n1_; have HB := n2_; clear n0_ n1_ n2_; clear hb ho7; obtain ⟨Ao8, co8, eo8⟩ := Kd.R_slice O2.out; subst eo8) | ((with_reducible refine gate_dst (N := 7) rfl ?_); refine Kd.R_lit k83 _ 83 ?hg (N := 7) ?hd (xs := ([(⟨1, false⟩ : S83)] : List (S83))) (inner := [.int .i64 1, .bool false]) (ok := fun _ => True) (okp := fun _ => True) ?hr ?hp (fun _ hk => hk) trivial (Below.refl _ _) (Nat.le_refl _) (by simp) ?_; (case hd => rfl); (case hg => rfl); (case hr => first | (go_simp; done) | (go_simp; rfl)); (case hp => exact (Reps.c2 (show Kd.M k83 _ _ _ (⟨1, false⟩ : S83) [.int .i64 1, .bool false] from (k83_mkM _ _ _ (⟨1, false⟩ : S83) )) (Reps.none _ _))); intro v237 w9 ho10 hb hg_ hnew_; clear hg_ hnew_; (first | rw [← Ny236.out] at ho10 | (simp only [Int.reduceToNat] at ho10; rw [← Ny236.out] at ho10)); have n0_ := Aside0.mk (Kd.R_elder' (by (with_reducible repeat (first | apply Kd.R_alloc | apply Kd.R_drewN | apply Kd.R_drew)); exact O2.out) (Kd.R_base ho10) hb); have n1_ := Aside0.mk (Kd.R_lower (Kd.R_new' (Kd.R_newM (M := fun k_ => (w.heap.size ≤ k_)) ho10 (below_size (by repeat (first | (with_reducible first | exact HB.out | apply below_alloc | apply pw_below_drewN | apply below_drew1 | refine below_set ?_ E0.out) | exact HB.out))) (fun k_ h_ => h_)) (Kd.R_lt (by (with_reducible repeat (first | apply Kd.R_alloc | apply Kd.R_drewN | apply Kd.R_drew)); exact O2.out))) (below_size (by repeat (first | (with_reducible first | exact HB.out | apply below_alloc | apply pw_below_drewN | apply below_drew1 | refine below_set ?_ E0.out) | exact HB.out)))); have n2_ := Aside0.mk (blk_below (g := g0) (o := .cells #[.int .i64 0, .int .i64 0, .slice none 0 0, .slice none 0 0, .slice none 0 0, .slice none 0 0, .int .i64 0] 29 (0, 0)) (by (with_reducible repeat (first | refine blk_drewN ?_ _ | refine blk_drew ?_ | refine blk_alloc ?_ _)); exact K0.out) hb); have n3_ := Aside0.mk (below_step (by repeat (first | (with_reducible first | exact HB.out | apply below_alloc | apply pw_below_drewN | apply below_drew1 | refine below_set ?_ E0.out) | exact HB.out)) hb); clear O2; clear K0; clear HB; have O2 := n0_; have O3 := n1_; have K0 := n2_; have HB := n3_; clear n0_ n1_ n2_ n3_; clear hb ho10; obtain ⟨Ao11, co11, eo11⟩ := Kd.R_slice O3.out; subst eo11) | ((with_reducible refine gate_dst (N := 9) rfl ?_); refine Kd.N_lit k53 _ 53 ?hg (N' := 9) ?hd (xs := ([(⟨2, false, 1, y233⟩ : S53), (⟨1, false, 4, y236⟩ : S53)] : List (S53))) (inner := [.int .i64 2, .bool false, .int .i64 1, .slice Ao8 y233.length co8, .int .i64 1, .bool false, .int .i64 4, .slice Ao11 y236.length co11]) (ok := (fun k_ => (w.heap.size ≤ k_) ∧ k_ ≠ g0)) (okp := (fun k_ => (w.heap.size ≤ k_) ∧ k_ ≠ g0)) ?hr ?hp (fun _ hk => hk) ((show ∀ k_, w9.heap.size ≤ k_ → (fun k_ => (w.heap.size ≤ k_) ∧ k_ ≠ g0) k_ from fun k_ hk => ⟨(Nat.le_trans (below_size (by repeat (first | (with_reducible first | exact HB.out | apply below_alloc | apply pw_below_drewN | apply below_drew1 | refine below_set ?_ E0.out) | exact HB.out))) hk), Kd.freshB (g := g0) (o := .cells #[.int .i64 0, .int .i64 0, .slice none 0 0, .slice none 0 0, .slice none 0 0, .slice none 0 0, .int .i64 0] 29 (0, 0)) (by (with_reducible repeat (first | refine blk_drewN ?_ _ | refine blk_drew ?_ | refine blk_alloc ?_ _)); exact K0.out) k_ hk⟩) _ (Nat.le_refl _)) (Below.refl _ _) (Nat.le_refl _) (by simp) ?_; (case hd => rfl); (case hg => rfl); (case hr => first | (go_simp; done) | (go_simp; rfl)); (case hp => exact (Reps.c4 (show Kd.FK k53 _ _ (⟨2, false, 1, y233⟩ : S53) [.int .i64 2, .bool false, .int .i64 1, .slice Ao8 y233.length co8] from (k53_mkF _ _ (⟨2, false, 1, y233⟩ : S53) (Kd.R_reads' (Kd.R_mono (ok' := (fun k_ => (w.heap.size ≤ k_) ∧ k_ ≠ g0)) (Kd.R_types (O2.out) K0.out (by decide)) (fun k_ hk => ⟨hk.1.1.1, hk.2⟩))).2.1 (Kd.R_F (Kd.R_mono (ok' := (fun k_ => (w.heap.size ≤ k_) ∧ k_ ≠ g0)) (Kd.R_types (O2.out) K0.out (by decide)) (fun k_ hk => ⟨hk.1.1.1, hk.2⟩))))) (Reps.c4 (show Kd.FK k53 _ _ (⟨1, false, 4, y236⟩ : S53) [.int .i64 1, .bool false, .int .i64 4, .slice Ao11 y236.length co11] from (k53_mkF _ _ (⟨1, false, 4, y236⟩ : S53) (Kd.R_reads' (Kd.R_mono (ok' := (fun k_ => (w.heap.size ≤ k_) ∧ k_ ≠ g0)) (Kd.R_types (O3.out) K0.out (by decide)) (fun k_ hk => ⟨hk.1.1.1, hk.2⟩))).2.1 (Kd.R_F (Kd.R_mono (ok' := (fun k_ => (w.heap.size ≤ k_) ∧ k_ ≠ g0)) (Kd.R_types (O3.out) K0.out (by decide)) (fun k_ hk => ⟨hk.1.1.1, hk.2⟩))))) (Reps.none _ _)))); intro v240 w12 ho13 hb hg_ hnew_; clear hg_ hnew_; (first | rw [← Ny239.out] at ho13 | (simp only [Int.reduceToNat] at ho13; rw [← Ny239.out] at ho13)); have n0_ := Aside0.mk (Kd.N_lower ho13 (below_size (by repeat (first | (with_reducible first | exact HB.out | apply below_alloc | apply pw_below_drewN | apply below_drew1 | refine below_set ?_ E0.out) | exact HB.out)))); have n1_ := Aside0.mk (blk_below (g := g0) (o := .cells #[.int .i64 0, .int .i64 0, .slice none 0 0, .slice none 0 0, .slice none 0 0, .slice none 0 0, .int .i64 0] 29 (0, 0)) (by (with_reducible repeat (first | refine blk_drewN ?_ _ | refine blk_drew ?_ | refine blk_alloc ?_ _)); exact K0.out) hb); have n2_ := Aside0.mk (below_step (by repeat (first | (with_reducible first | exact HB.out | apply below_alloc | apply pw_below_drewN | apply below_drew1 | refine below_set ?_ E0.out) | exact HB.out)) hb); clear K0; clear HB; clear O2; clear O3; have O1 := n0_; have K0 := n1_; have HB := n2_; clear n0_ n1_ n2_; clear hb ho13; obtain ⟨Ao14, co14, eo14⟩ := Kd.N_slice O1.out; subst eo14) | ((with_reducible refine gate_dst (N := 1) rfl ?_); refine box_event ?hg (N := 1) ?hd (cs := #[.int .i64 0, .slice none 0 0]) (t := 24) ?hr ?_; (case hd => rfl); (case hg => rfl); (case hr => first | (go_simp; done) | (go_simp; rfl)); intro g1 hg w15 hbox hb; have n0_ := Aside0.mk (Kd.N_below (Kd.N_elderB (by (with_reducible repeat (first | apply Kd.N_alloc | apply Kd.N_drewN | apply Kd.N_drew)); exact O1.out) g1 (Nat.le_of_eq hg.symm)) hb); have n1_ := Aside0.mk (blk_below (g := g0) (o := .cells #[.int .i64 0, .int .i64 0, .slice none 0 0, .slice none 0 0, .slice none 0 0, .slice none 0 0, .int .i64 0] 29 (0, 0)) (by (with_reducible repeat (first | refine blk_drewN ?_ _ | refine blk_drew ?_ | refine blk_alloc ?_ _)); exact K0.out) hb); have n2_ := Aside0.mk (below_step (by repeat (first | (with_reducible first | exact HB.out | apply below_alloc | apply pw_below_drewN | apply below_drew1 | refine below_set ?_ E0.out) | exact HB.out)) hb); have n3_ := Aside0.mk (hbox); have n4_ := Aside0.mk ((by rw [hg]; exact (below_size (by repeat (first | (with_reducible first | exact HB.out | apply below_alloc | apply pw_below_drewN | apply below_drew1 | refine below_set ?_ E0.out) | exact HB.out))) : w.heap.size ≤ g1)); have n5_ := Aside0.mk ((by rw [hg]; exact (below_size (by repeat (first | (with_reducible first | exact HB.out | apply below_alloc | apply pw_below_drewN | apply below_drew1 | refine below_set ?_ E0.out) | exact HB.out))) : w.heap.size ≤ g1)); have n6_ := Aside0.mk ((by rw [hg]; exact Nat.ne_of_lt (blk_lt (g := g0) (o := .cells #[.int .i64 0, .int .i64 0, .slice none 0 0, .slice none 0 0, .slice none 0 0, .slice none 0 0, .int .i64 0] 29 (0, 0)) (by (with_reducible repeat (first | refine blk_drewN ?_ _ | refine blk_drew ?_ | refine blk_alloc ?_ _)); exact K0.out)) : g0 ≠ g1)); have n7_ := Aside0.mk ((by rw [hg]; exact Nat.ne_of_gt (blk_lt (g := g0) (o := .cells #[.int .i64 0, .int .i64 0, .slice none 0 0, .slice none 0 0, .slice none 0 0, .slice none 0 0, .int .i64 0] 29 (0, 0)) (by (with_reducible repeat (first | refine blk_drewN ?_ _ | refine blk_drew ?_ | refine blk_alloc ?_ _)); exact K0.out)) : g1 ≠ g0)); clear O1; clear K0; clear HB; have O1 := n0_; have K0 := n1_; have HB := n2_; have K1 := n3_; have G1 := n4_; have E1 := n5_; have N1 := n6_; have N0 := n7_; clear n0_ n1_ n2_ n3_ n4_ n5_ n6_ n7_; clear hb hbox hg; have hnb16 := N0.out; have hnc16 := N1.out; have hcz17_0 : w15.cell? ⟨g1, 0, none⟩ = some (.int .i64 0) := (blk_cell K1.out 0).trans rfl; have hcz17_1 : w15.cell? ⟨g1, 1, none⟩ = some (.slice none 0 0) := (blk_cell K1.out 1).trans rfl; have hfz17_0 := blk_frozen K1.out 0; have hfz17_1 := blk_frozen K1.out 1) | ((with_reducible refine gate_callee (f := 45) rfl ?_); refine goesL_ (some 11) rfl rfl Try.func45 (by kernel_rfl) rfl #[] rfl (by (try simp only [List.map_toArray, List.map_cons, List.map_nil]); first | done | rfl | (simp only [List.length_drop, List.length_take]; rfl)) ?_; (with_reducible refine (wharfageref10_NewView.calls k  t243 _ A1.out).mono ?_); rintro e w18 ⟨v244, rfl, ho0, hb⟩; refine ⟨_, rfl, ?_⟩; have n0_ := Aside0.mk (Kd.N_elder' (by (with_reducible repeat (first | apply Kd.N_alloc | apply Kd.N_drewN | apply Kd.N_drew)); exact (Kd.N_mono (Kd.N_far (p := ⟨g1, 1, none⟩) (Kd.N_far (p := ⟨g1, 0, none⟩) (Kd.N_mono O1.out (fun k_ hk => (⟨hk, hk.2⟩ : _ ∧ k_ ≠ g1))) (fun _ hk => hk.2) (.int .i64 3)) (fun _ hk => hk.2) (.slice Ao14 y239.length co14)) (fun _ h_ => h_.1))) (Kd.R_base ho0) hb); have n1_ := Aside0.mk (Kd.R_lower (Kd.R_newM (M := fun k_ => (w.heap.size ≤ k_)) ho0 (below_size (by repeat (first | (with_reducible first | exact HB.out | apply below_alloc | apply pw_below_drewN | apply below_drew1 | refine below_set ?_ E0.out | refine below_set ?_ E1.out) | exact HB.out))) (fun k_ h_ => h_)) (below_size (by repeat (first | (with_reducible first | exact HB.out | apply below_alloc | apply pw_below_drewN | apply below_drew1 | refine below_set ?_ E0.out | refine below_set ?_ E1.out) | exact HB.out)))); have n2_ := Aside0.mk (blk_below (g := g0) (o := .cells #[.int .i64 0, .int .i64 0, .slice none 0 0, .slice none 0 0, .slice none 0 0, .slice none 0 0, .int .i64 0] 29 (0, 0)) (by (with_reducible repeat (first | refine blk_drewN ?_ _ | refine blk_drew ?_ | refine blk_alloc ?_ _)); refine blk_far ?_ N1.out _; (with_reducible repeat (first | refine blk_drewN ?_ _ | refine blk_drew ?_ | refine blk_alloc ?_ _)); refine blk_far ?_ N1.out _; (with_reducible repeat (first | refine blk_drewN ?_ _ | refine blk_drew ?_ | refine blk_alloc ?_ _)); exact K0.out) hb); have n3_ := Aside0.mk (blk_below (g := g1) (o := .cells #[.int .i64 3, .slice Ao14 y239.length co14] 24 (0, 0)) (by (with_reducible repeat (first | refine blk_drewN ?_ _ | refine blk_drew ?_ | refine blk_alloc ?_ _)); refine blk_put (cs := #[.int .i64 3, .slice none 0 0]) ?_ 1 _ rfl; (with_reducible repeat (first | refine blk_drewN ?_ _ | refine blk_drew ?_ | refine blk_alloc ?_ _)); refine blk_put (cs := #[.int .i64 0, .slice none 0 0]) ?_ 0 _ rfl; (with_reducible repeat (first | refine blk_drewN ?_ _ | refine blk_drew ?_ | refine blk_alloc ?_ _)); exact K1.out) hb); have n4_ := Aside0.mk (below_step (by repeat (first | (with_reducible first | exact HB.out | apply below_alloc | apply pw_below_drewN | apply below_drew1 | refine below_set ?_ E0.out | refine below_set ?_ E1.out) | exact HB.out)) hb); clear O1; clear K0; clear K1; clear HB; have O1 := n0_; have O0 := n1_; have K0 := n2_; have K1 := n3_; have HB := n4_; clear n0_ n1_ n2_ n3_ n4_; (try clear hb); (try clear hb2); (try clear hk); (try clear hi); (try clear ho0); have p3 : 0 ≤ (1 : Int) := (by omega); have q3 : (1 : Int) < ((t243.length : Int) : Int) := of_decide_eq_true (by first | (with_reducible assumption) | assumption); have qi3 : (1 < t243.length) = True := eq_true (by omega); obtain ⟨go3, co3, eo3, g2, gl3, cl3, HG3⟩ := Kd.R_form O0.out (by omega); (first | cases eo3 | (injection eo3 with ea_ en_ ec_; (first | subst ea_ | (injection ea_ with ea_; subst ea_)); subst ec_; clear en_)); have GB3 := Aside0.mk g2; have GG3 := Aside0.mk HG3; clear g2 gl3 HG3; obtain ⟨ce3, hcl3, hM3, hcc3, hfr3⟩ := Kd.R_elem O0.out z91 (1 : Int) p3 q3; obtain rfl := k91_openM hM3; have hx3_0 : w18.cell? ⟨go3, (1 : Int).toNat * 5, none⟩ = some (.int .i64 ((rd_T91 t243 1).f0.f0)) := hcc3 0 _ rfl; have hx3_1 : w18.cell? ⟨go3, (1 : Int).toNat * 5 + 1, none⟩ = some (.int .i64 ((rd_T91 t243 1).f0.f1)) := hcc3 1 _ rfl; have hx3_2 : w18.cell? ⟨go3, (1 : Int).toNat * 5 + 2, none⟩ = some (.int .i64 ((rd_T91 t243 1).f0.f2)) := hcc3 2 _ rfl; have hx3_3 : w18.cell? ⟨go3, (1 : Int).toNat * 5 + 3, none⟩ = some (.int .i64 ((rd_T91 t243 1).f0.f3)) := hcc3 3 _ rfl; have hx3_4 : w18.cell? ⟨go3, (1 : Int).toNat * 5 + 4, none⟩ = some (.int .i64 ((rd_T91 t243 1).f1)) := hcc3 4 _ rfl; have hf3_0 : w18.frozen? ⟨go3, (1 : Int).toNat * 5, none⟩ = false := hfr3 0; have hf3_1 : w18.frozen? ⟨go3, (1 : Int).toNat * 5 + 1, none⟩ = false := hfr3 1; have hf3_2 : w18.frozen? ⟨go3, (1 : Int).toNat * 5 + 2, none⟩ = false := hfr3 2; have hf3_3 : w18.frozen? ⟨go3, (1 : Int).toNat * 5 + 3, none⟩ = false := hfr3 3; have hf3_4 : w18.frozen? ⟨go3, (1 : Int).toNat * 5 + 4, none⟩ = false := hfr3 4; clear hcl3 hcc3 hfr3 hM3; (try rw [show ((1 : Int)).toNat = 1 from rfl] at hx3_0); (try simp only [Nat.reduceMul, Nat.zero_mul, Nat.zero_add, Nat.reduceAdd] at hx3_0); (try rw [show ((1 : Int)).toNat = 1 from rfl] at hf3_0); (try simp only [Nat.reduceMul, Nat.zero_mul, Nat.zero_add, Nat.reduceAdd] at hf3_0); (try rw [show ((1 : Int)).toNat = 1 from rfl] at hx3_1); (try simp only [Nat.reduceMul, Nat.zero_mul, Nat.zero_add, Nat.reduceAdd] at hx3_1); (try rw [show ((1 : Int)).toNat = 1 from rfl] at hf3_1); (try simp only [Nat.reduceMul, Nat.zero_mul, Nat.zero_add, Nat.reduceAdd] at hf3_1); (try rw [show ((1 : Int)).toNat = 1 from rfl] at hx3_2); (try simp only [Nat.reduceMul, Nat.zero_mul, Nat.zero_add, Nat.reduceAdd] at hx3_2); (try rw [show ((1 : Int)).toNat = 1 from rfl] at hf3_2); (try simp only [Nat.reduceMul, Nat.zero_mul, Nat.zero_add, Nat.reduceAdd] at hf3_2); (try rw [show ((1 : Int)).toNat = 1 from rfl] at hx3_3); (try simp only [Nat.reduceMul, Nat.zero_mul, Nat.zero_add, Nat.reduceAdd] at hx3_3); (try rw [show ((1 : Int)).toNat = 1 from rfl] at hf3_3); (try simp only [Nat.reduceMul, Nat.zero_mul, Nat.zero_add, Nat.reduceAdd] at hf3_3); (try rw [show ((1 : Int)).toNat = 1 from rfl] at hx3_4); (try simp only [Nat.reduceMul, Nat.zero_mul, Nat.zero_add, Nat.reduceAdd] at hx3_4); (try rw [show ((1 : Int)).toNat = 1 from rfl] at hf3_4); (try simp only [Nat.reduceMul, Nat.zero_mul, Nat.zero_add, Nat.reduceAdd] at hf3_4); replace p3 := eq_true p3; replace q3 := eq_true q3; have n_ := Aside0.mk (Kd.R_mono (ok' := (fun k_ => (w.heap.size ≤ k_))) O0.out (fun k_ hk => hk.1)); clear O0; have O0 := n_; clear n_; have HX19 := Aside0.mk (show Kd.R k91 91 w18 w.heap.size (fun k_ => (w.heap.size ≤ k_)) (.slice (some ⟨go3, 0, none⟩) t243.length co3) t243 from (by (with_reducible repeat (first | apply Kd.R_alloc | apply Kd.R_drewN | apply Kd.R_drew)); exact O0.out)); obtain ⟨ce19, hcl19, hM19, hcc19, hfr19⟩ := Kd.R_elem HX19.out z91 (1 : Int) (by omega) (by have h_ : (1 : Int) < ((t243.length : Int) : Int) := of_decide_eq_true (by first | (with_reducible assumption) | assumption); first | exact h_ | (have e_ := (Kd.R_reads' O0.out).1; omega) | simpa using h_); obtain rfl := k91_openM hM19; have HP19 := Kd.R_seg HX19.out (1 : Int) (by omega) (by have h_ : (1 : Int) < ((t243.length : Int) : Int) := of_decide_eq_true (by first | (with_reducible assumption) | assumption); first | exact h_ | (have e_ := (Kd.R_reads' O0.out).1; omega) | simpa using h_) (seg := [.int .i64 1, .int .i64 1, .int .i64 1, .int .i64 4, .int .i64 5]) (j := 0) hcl19 hcc19 (show 5 ≤ 5 from by decide) (x' := (⟨(⟨1, 1, 1, 4⟩ : S89), 5⟩ : S91)) (k91_mkM _ _ _ (⟨(⟨1, 1, 1, 4⟩ : S89), 5⟩ : S91) ) (fun _ hk => hk); have hx19_0 := hcc19 0 _ rfl; (try simp only [show (k91).sz = 5 from rfl, Nat.mul_one, Nat.add_zero] at hx19_0); (try rw [show ((1 : Int)).toNat = 1 from rfl] at hx19_0); (try simp only [Nat.reduceMul, Nat.zero_mul, Nat.zero_add, Nat.reduceAdd] at hx19_0); have hf19_0 := hfr19 0; (try simp only [show (k91).sz = 5 from rfl, Nat.mul_one, Nat.add_zero] at hf19_0); (try rw [show ((1 : Int)).toNat = 1 from rfl] at hf19_0); (try simp only [Nat.reduceMul, Nat.zero_mul, Nat.zero_add, Nat.reduceAdd] at hf19_0); have hx19_1 := hcc19 1 _ rfl; (try simp only [show (k91).sz = 5 from rfl, Nat.mul_one, Nat.add_zero] at hx19_1); (try rw [show ((1 : Int)).toNat = 1 from rfl] at hx19_1); (try simp only [Nat.reduceMul, Nat.zero_mul, Nat.zero_add, Nat.reduceAdd] at hx19_1); have hf19_1 := hfr19 1; (try simp only [show (k91).sz = 5 from rfl, Nat.mul_one, Nat.add_zero] at hf19_1); (try rw [show ((1 : Int)).toNat = 1 from rfl] at hf19_1); (try simp only [Nat.reduceMul, Nat.zero_mul, Nat.zero_add, Nat.reduceAdd] at hf19_1); have hx19_2 := hcc19 2 _ rfl; (try simp only [show (k91).sz = 5 from rfl, Nat.mul_one, Nat.add_zero] at hx19_2); (try rw [show ((1 : Int)).toNat = 1 from rfl] at hx19_2); (try simp only [Nat.reduceMul, Nat.zero_mul, Nat.zero_add, Nat.reduceAdd] at hx19_2); have hf19_2 := hfr19 2; (try simp only [show (k91).sz = 5 from rfl, Nat.mul_one, Nat.add_zero] at hf19_2); (try rw [show ((1 : Int)).toNat = 1 from rfl] at hf19_2); (try simp only [Nat.reduceMul, Nat.zero_mul, Nat.zero_add, Nat.reduceAdd] at hf19_2); have hx19_3 := hcc19 3 _ rfl; (try simp only [show (k91).sz = 5 from rfl, Nat.mul_one, Nat.add_zero] at hx19_3); (try rw [show ((1 : Int)).toNat = 1 from rfl] at hx19_3); (try simp only [Nat.reduceMul, Nat.zero_mul, Nat.zero_add, Nat.reduceAdd] at hx19_3); have hf19_3 := hfr19 3; (try simp only [show (k91).sz = 5 from rfl, Nat.mul_one, Nat.add_zero] at hf19_3); (try rw [show ((1 : Int)).toNat = 1 from rfl] at hf19_3); (try simp only [Nat.reduceMul, Nat.zero_mul, Nat.zero_add, Nat.reduceAdd] at hf19_3); have hx19_4 := hcc19 4 _ rfl; (try simp only [show (k91).sz = 5 from rfl, Nat.mul_one, Nat.add_zero] at hx19_4); (try rw [show ((1 : Int)).toNat = 1 from rfl] at hx19_4); (try simp only [Nat.reduceMul, Nat.zero_mul, Nat.zero_add, Nat.reduceAdd] at hx19_4); have hf19_4 := hfr19 4; (try simp only [show (k91).sz = 5 from rfl, Nat.mul_one, Nat.add_zero] at hf19_4); (try rw [show ((1 : Int)).toNat = 1 from rfl] at hf19_4); (try simp only [Nat.reduceMul, Nat.zero_mul, Nat.zero_add, Nat.reduceAdd] at hf19_4); clear hcl19 hcc19 hfr19 hM19) | ((with_reducible refine gate_store (t := 91) (p := 15) rfl ?_); refine store_event (t := 91) (p := 15) (v := ?vo_w20) (w1 := (((((w18.setCell ⟨go3, 5, none⟩ (.int .i64 1)).setCell ⟨go3, 6, none⟩ (.int .i64 1)).setCell ⟨go3, 7, none⟩ (.int .i64 1)).setCell ⟨go3, 8, none⟩ (.int .i64 4)).setCell ⟨go3, 9, none⟩ (.int .i64 5))) ?hg ?ho ?hn ?hr ?_; (case ho => rfl); (case hg => rfl); (case hn => rfl); (case hr => first | (go_simp; done) | (go_simp; rfl)); intro w20 hw; have hg : w18.grownBy w20 (some go3) := (by rw [hw]; exact HP19.2); have hp_ : Kd.R k91 91 w20 w.heap.size (fun k_ => (w.heap.size ≤ k_)) (.slice (some ⟨go3, 0, none⟩) t243.length co3) y246 := (by rw [hw, Ny246.out]; exact HP19.1); clear HP19; have n0_ := Aside0.mk (blk_grown (g := g0) (o := .cells #[.int .i64 0, .int .i64 0, .slice none 0 0, .slice none 0 0, .slice none 0 0, .slice none 0 0, .int .i64 0] 29 (0, 0)) (by (with_reducible repeat (first | refine blk_drewN ?_ _ | refine blk_drew ?_ | refine blk_alloc ?_ _)); exact K0.out) hg (Kd.R_ne O0.out K0.out (by decide))); have n1_ := Aside0.mk (Kd.N_afterv (v := (.slice (some ⟨go3, 0, none⟩) t243.length co3)) (v1 := (.slice (some ⟨go3, 0, none⟩) t243.length co3)) (ok := (fun k_ => (w.heap.size ≤ k_) ∧ k_ ≠ g0 ∧ k_ ≠ g1)) (by (with_reducible repeat (first | apply Kd.N_alloc | apply Kd.N_drewN | apply Kd.N_drew)); exact Kd.N_mono O1.out (fun _ hk => ⟨⟨hk.1.1.1, ⟨hk.1.1.2, hk.1.2⟩⟩, hk.2⟩)) hg (.inl rfl)); have n2_ := Aside0.mk (blk_grown (g := g1) (o := .cells #[.int .i64 3, .slice Ao14 y239.length co14] 24 (0, 0)) (by (with_reducible repeat (first | refine blk_drewN ?_ _ | refine blk_drew ?_ | refine blk_alloc ?_ _)); exact K1.out) hg (Kd.R_ne O0.out K1.out (by decide))); have n3_ := Aside0.mk (hp_); have n4_ := Aside0.mk ((by rw [hw]; exact below_set (below_set (below_set (below_set (below_set (HB.out) GB3.out) GB3.out) GB3.out) GB3.out) GB3.out : Below w.heap.size w w20)); clear K0; clear O1; clear K1; clear O0; clear HB; have K0 := n0_; have O1 := n1_; have K1 := n2_; have O0 := n3_; have HB := n4_; clear n0_ n1_ n2_ n3_ n4_; clear hg hw hp_))
  have n0_ := Aside0.mk (Kd.N_drew O1.out)
  have n1_ := Aside0.mk (Kd.R_drew O0.out)
  have n2_ := Aside0.mk (blk_drew K0.out)
  have n3_ := Aside0.mk (blk_drew K1.out)
  have n4_ := Aside0.mk (below_drew1 HB.out)
  clear O1
  clear O0
  clear K0
  clear K1
  clear HB
  have O1 := n0_
  have O0 := n1_
  have K0 := n2_
  have K1 := n3_
  have HB := n4_
  clear n0_ n1_ n2_ n3_ n4_
  refine start_ (n := 5) (S := fun w' => w'.cell? ⟨g1, 0, none⟩ = some (.int .i64 3) ∧ w'.cell? ⟨g1, 1, none⟩ = some (.slice Ao14 y239.length co14)) (ds := []) #[false, false, false, false, false] (by kernel_rfl) rfl rfl ⟨(blk_cell K1.out 0).trans rfl, (blk_cell K1.out 1).trans rfl⟩ (fun hHeld => ?_)
  generalize w20.drew = w21 at O1 O0 K0 K1 HB hHeld ⊢
  refine pure_ (i := 2) (N := some 18) (v := ?_) (a' := ?_) #[false, false, true, false, false] rfl rfl (by kernel_rfl) (fun _ _ _ h => h) (Or.inl ⟨by rfl, ?_⟩) ?_ ?_
  rotate_left
  ·intro w'
   go_simp
   with_reducible rfl
  rotate_left
  ·simp only [Act.put, List.setIfInBounds_toArray, List.set_cons_zero, List.set_cons_succ, i64_w, i32_w]
   rfl
  refine take_ (i := 0) (N := some 16) (v := ?_) (a' := ?_) #[true, false, true, false, false] rfl rfl (by kernel_rfl) (fun _ _ _ h => h) (Or.inl ⟨by rfl, ?_⟩) hHeld ?_ ?_
  rotate_left
  ·rintro w' ⟨s0, s1⟩
   go_simp
   with_reducible rfl
  rotate_left
  ·simp only [Act.put, List.setIfInBounds_toArray, List.set_cons_zero, List.set_cons_succ, i64_w, i32_w]
   rfl
  refine one_ (i := 1) (N := some 17) #[true, true, true, false, false] rfl rfl (by kernel_rfl) (by decide) (fun K hK => ?_)
  refine goes_ Try.func46 (by kernel_rfl) rfl #[.int .i64 4] (by rfl) rfl rfl (by (try simp only [List.map_toArray, List.map_cons, List.map_nil]); first | done | rfl | (simp only [List.length_drop, List.length_take]; rfl)) ?_
  with_reducible refine (wharfageref10_News.calls k 4 t247 _ A4.out).mono ?_
  rintro e w22 ⟨v248, rfl, ho0, hb⟩
  refine ⟨_, rfl, ?_⟩
  have n0_ := Aside0.mk (Kd.N_elder' (by (with_reducible repeat (first | apply Kd.N_alloc | apply Kd.N_drewN | apply Kd.N_drew)); exact O1.out) (Kd.R_base ho0) hb)
  have n1_ := Aside0.mk (Kd.R_below (by (with_reducible repeat (first | apply Kd.R_alloc | apply Kd.R_drewN | apply Kd.R_drew)); exact O0.out) hb)
  have n2_ := Aside0.mk (Kd.R_lower (Kd.R_newM (M := fun k_ => (w.heap.size ≤ k_)) ho0 (below_size (by repeat (first | (with_reducible first | exact HB.out | apply below_alloc | apply pw_below_drewN | apply below_drew1 | refine below_set ?_ E0.out | refine below_set ?_ E1.out) | exact HB.out))) (fun k_ h_ => h_)) (below_size (by repeat (first | (with_reducible first | exact HB.out | apply below_alloc | apply pw_below_drewN | apply below_drew1 | refine below_set ?_ E0.out | refine below_set ?_ E1.out) | exact HB.out))))
  have n3_ := Aside0.mk (blk_below (g := g0) (o := .cells #[.int .i64 0, .int .i64 0, .slice none 0 0, .slice none 0 0, .slice none 0 0, .slice none 0 0, .int .i64 0] 29 (0, 0)) (by (with_reducible repeat (first | refine blk_drewN ?_ _ | refine blk_drew ?_ | refine blk_alloc ?_ _)); exact K0.out) hb)
  have n4_ := Aside0.mk (blk_below (g := g1) (o := .cells #[.int .i64 3, .slice Ao14 y239.length co14] 24 (0, 0)) (by (with_reducible repeat (first | refine blk_drewN ?_ _ | refine blk_drew ?_ | refine blk_alloc ?_ _)); exact K1.out) hb)
  have n5_ := Aside0.mk (below_step (by repeat (first | (with_reducible first | exact HB.out | apply below_alloc | apply pw_below_drewN | apply below_drew1 | refine below_set ?_ E0.out | refine below_set ?_ E1.out) | exact HB.out)) hb)
  clear O1
  clear O0
  clear K0
  clear K1
  clear HB
  have O1 := n0_
  have O0 := n1_
  have O4 := n2_
  have K0 := n3_
  have K1 := n4_
  have HB := n5_
  clear n0_ n1_ n2_ n3_ n4_ n5_
  (try clear hb)
  (try clear hb2)
  (try clear hk)
  (try clear hi)
  (try clear ho0)
  obtain ⟨Ao23, co23, eo23⟩ := Kd.R_slice O4.out
  (first | subst eo23 | (injection eo23 with f1_ f2_ f3_; have f4_ := f1_.symm; have f5_ := f3_.symm; clear f1_ f2_ f3_; subst f4_; subst f5_))
  refine hK.out _ _ ⟨(blk_cell K1.out 0).trans rfl, (blk_cell K1.out 1).trans rfl⟩ (fun hHeld => ?_)
  clear hK K
  refine norm_ (a' := ?_) ?_ ?_
  rotate_left
  ·show Act.put _ (some 17) _ = _
   simp only [Act.put, List.setIfInBounds_toArray, List.set_cons_zero, List.set_cons_succ, i64_w, i32_w]
   rfl
  refine pure_ (i := 3) (N := some 19) (v := ?_) (a' := ?_) #[true, true, true, true, false] rfl rfl (by kernel_rfl) (fun _ _ _ h => h) (Or.inl ⟨by rfl, ?_⟩) ?_ ?_
  rotate_left
  ·intro w'
   go_simp
   with_reducible rfl
  rotate_left
  ·simp only [Act.put, List.setIfInBounds_toArray, List.set_cons_zero, List.set_cons_succ, i64_w, i32_w]
   rfl
  refine one_ (i := 4) (N := none) #[true, true, true, true, true] rfl rfl (by kernel_rfl) (by decide) (fun K hK => ?_)
  have hs24 : w22.cell? ⟨g0, 0, none⟩ = some (.int .i64 0) := (blk_cell K0.out 0).trans rfl
  have hfs24 := blk_frozen K0.out 0
  have hns24_1 := N0.out
  have hms24_1 := N1.out
  have hs25 : w22.cell? ⟨g0, 1, none⟩ = some (.int .i64 0) := (blk_cell K0.out 1).trans rfl
  have hfs25 := blk_frozen K0.out 1
  have hns25_1 := N0.out
  have hms25_1 := N1.out
  have hs26 : w22.cell? ⟨g0, 2, none⟩ = some (.slice none 0 0) := (blk_cell K0.out 2).trans rfl
  have hfs26 := blk_frozen K0.out 2
  have hns26_1 := N0.out
  have hms26_1 := N1.out
  have hs27 : w22.cell? ⟨g0, 3, none⟩ = some (.slice none 0 0) := (blk_cell K0.out 3).trans rfl
  have hfs27 := blk_frozen K0.out 3
  have hns27_1 := N0.out
  have hms27_1 := N1.out
  have hs28 : w22.cell? ⟨g0, 4, none⟩ = some (.slice none 0 0) := (blk_cell K0.out 4).trans rfl
  have hfs28 := blk_frozen K0.out 4
  have hns28_1 := N0.out
  have hms28_1 := N1.out
  have hs29 : w22.cell? ⟨g0, 5, none⟩ = some (.slice none 0 0) := (blk_cell K0.out 5).trans rfl
  have hfs29 := blk_frozen K0.out 5
  have hns29_1 := N0.out
  have hms29_1 := N1.out
  have hs30 : w22.cell? ⟨g0, 6, none⟩ = some (.int .i64 0) := (blk_cell K0.out 6).trans rfl
  have hfs30 := blk_frozen K0.out 6
  have hns30_1 := N0.out
  have hms30_1 := N1.out
  refine skip_ (w1 := ?_) (by rfl) rfl ?_ ?_
  rotate_left
  ·go_simp
   rfl
  refine hK.out _ _ ⟨((cell_far (p := ⟨g0, _, none⟩) N0.out _).trans (((cell_far (p := ⟨g0, _, none⟩) N0.out _).trans (((cell_far (p := ⟨g0, _, none⟩) N0.out _).trans (((cell_far (p := ⟨g0, _, none⟩) N0.out _).trans (((cell_far (p := ⟨g0, _, none⟩) N0.out _).trans (((cell_far (p := ⟨g0, _, none⟩) N0.out _).trans (((cell_far (p := ⟨g0, _, none⟩) N0.out _).trans (hHeld.1)))))))))))))), ((cell_far (p := ⟨g0, _, none⟩) N0.out _).trans (((cell_far (p := ⟨g0, _, none⟩) N0.out _).trans (((cell_far (p := ⟨g0, _, none⟩) N0.out _).trans (((cell_far (p := ⟨g0, _, none⟩) N0.out _).trans (((cell_far (p := ⟨g0, _, none⟩) N0.out _).trans (((cell_far (p := ⟨g0, _, none⟩) N0.out _).trans (((cell_far (p := ⟨g0, _, none⟩) N0.out _).trans (hHeld.2))))))))))))))⟩ (fun hHeld => ?_)
  clear hK K
  refine done_ (by kernel_rfl) ?_
  try go_wp2
  refine bodyPost_ret (results_cell_row rfl _ _ g0 29 #[.int .i64 0, .int .i64 3, .slice Ao14 y239.length co14, .slice Ao23 t247.length co23, .slice (some ⟨go3, 0, none⟩) t243.length co3, .slice none 0 0, .int .i64 0] (0, 0) _ rfl (by (with_reducible repeat (first | refine blk_drewN ?_ _ | refine blk_drew ?_ | refine blk_alloc ?_ _)); refine blk_put (cs := #[.int .i64 0, .int .i64 3, .slice Ao14 y239.length co14, .slice Ao23 t247.length co23, .slice (some ⟨go3, 0, none⟩) t243.length co3, .slice none 0 0, .int .i64 0]) ?_ 6 _ rfl; (with_reducible repeat (first | refine blk_drewN ?_ _ | refine blk_drew ?_ | refine blk_alloc ?_ _)); refine blk_put (cs := #[.int .i64 0, .int .i64 3, .slice Ao14 y239.length co14, .slice Ao23 t247.length co23, .slice (some ⟨go3, 0, none⟩) t243.length co3, .slice none 0 0, .int .i64 0]) ?_ 5 _ rfl; (with_reducible repeat (first | refine blk_drewN ?_ _ | refine blk_drew ?_ | refine blk_alloc ?_ _)); refine blk_put (cs := #[.int .i64 0, .int .i64 3, .slice Ao14 y239.length co14, .slice Ao23 t247.length co23, .slice none 0 0, .slice none 0 0, .int .i64 0]) ?_ 4 _ rfl; (with_reducible repeat (first | refine blk_drewN ?_ _ | refine blk_drew ?_ | refine blk_alloc ?_ _)); refine blk_put (cs := #[.int .i64 0, .int .i64 3, .slice Ao14 y239.length co14, .slice none 0 0, .slice none 0 0, .slice none 0 0, .int .i64 0]) ?_ 3 _ rfl; (with_reducible repeat (first | refine blk_drewN ?_ _ | refine blk_drew ?_ | refine blk_alloc ?_ _)); refine blk_put (cs := #[.int .i64 0, .int .i64 3, .slice none 0 0, .slice none 0 0, .slice none 0 0, .slice none 0 0, .int .i64 0]) ?_ 2 _ rfl; (with_reducible repeat (first | refine blk_drewN ?_ _ | refine blk_drew ?_ | refine blk_alloc ?_ _)); refine blk_put (cs := #[.int .i64 0, .int .i64 0, .slice none 0 0, .slice none 0 0, .slice none 0 0, .slice none 0 0, .int .i64 0]) ?_ 1 _ rfl; (with_reducible repeat (first | refine blk_drewN ?_ _ | refine blk_drew ?_ | refine blk_alloc ?_ _)); refine blk_put (cs := #[.int .i64 0, .int .i64 0, .slice none 0 0, .slice none 0 0, .slice none 0 0, .slice none 0 0, .int .i64 0]) ?_ 0 _ rfl; (with_reducible repeat (first | refine blk_drewN ?_ _ | refine blk_drew ?_ | refine blk_alloc ?_ _)); exact K0.out) Try.underlying29 rfl (by kernel_rfl)) rfl ?_
  exact ⟨_, _, _, _, by first | rfl | (simp [errW_none, errW_some] <;> rfl) | (simp [*, errW_none, errW_some] <;> rfl), by (with_reducible repeat (first | apply Kd.N_alloc | apply Kd.N_drewN | apply Kd.N_drew)); exact Kd.N_mono (Kd.N_far (p := ⟨g0, 6, none⟩) (Kd.N_far (p := ⟨g0, 5, none⟩) (Kd.N_far (p := ⟨g0, 4, none⟩) (Kd.N_far (p := ⟨g0, 3, none⟩) (Kd.N_far (p := ⟨g0, 2, none⟩) (Kd.N_far (p := ⟨g0, 1, none⟩) (Kd.N_far (p := ⟨g0, 0, none⟩) (Kd.N_mono O1.out (fun k_ hk => (⟨hk, hk.1.1.2.1⟩ : _ ∧ k_ ≠ g0))) (fun _ hk => hk.2) (.int .i64 0)) (fun _ hk => hk.2) (.int .i64 3)) (fun _ hk => hk.2) (.slice Ao14 y239.length co14)) (fun _ hk => hk.2) (.slice Ao23 t247.length co23)) (fun _ hk => hk.2) (.slice (some ⟨go3, 0, none⟩) t243.length co3)) (fun _ hk => hk.2) (.slice none 0 0)) (fun _ hk => hk.2) (.int .i64 0)) (fun _ hk => ⟨hk.1.1.1.1, ⟨hk.1.2, ⟨hk.1.1.2, (by simp [Value.ownBlock])⟩⟩⟩), by (with_reducible repeat (first | apply Kd.R_alloc | apply Kd.R_drewN | apply Kd.R_drew)); exact Kd.R_mono (Kd.R_far (p := ⟨g0, 6, none⟩) (Kd.R_far (p := ⟨g0, 5, none⟩) (Kd.R_far (p := ⟨g0, 4, none⟩) (Kd.R_far (p := ⟨g0, 3, none⟩) (Kd.R_far (p := ⟨g0, 2, none⟩) (Kd.R_far (p := ⟨g0, 1, none⟩) (Kd.R_far (p := ⟨g0, 0, none⟩) (Kd.R_types O4.out K0.out (by decide)) (fun _ hk => hk.2) (.int .i64 0)) (fun _ hk => hk.2) (.int .i64 3)) (fun _ hk => hk.2) (.slice Ao14 y239.length co14)) (fun _ hk => hk.2) (.slice Ao23 t247.length co23)) (fun _ hk => hk.2) (.slice (some ⟨go3, 0, none⟩) t243.length co3)) (fun _ hk => hk.2) (.slice none 0 0)) (fun _ hk => hk.2) (.int .i64 0)) (fun _ hk => hk.1.1), by (with_reducible repeat (first | apply Kd.R_alloc | apply Kd.R_drewN | apply Kd.R_drew)); exact Kd.R_mono (Kd.R_far (p := ⟨g0, 6, none⟩) (Kd.R_far (p := ⟨g0, 5, none⟩) (Kd.R_far (p := ⟨g0, 4, none⟩) (Kd.R_far (p := ⟨g0, 3, none⟩) (Kd.R_far (p := ⟨g0, 2, none⟩) (Kd.R_far (p := ⟨g0, 1, none⟩) (Kd.R_far (p := ⟨g0, 0, none⟩) (Kd.R_types O0.out K0.out (by decide)) (fun _ hk => hk.2) (.int .i64 0)) (fun _ hk => hk.2) (.int .i64 3)) (fun _ hk => hk.2) (.slice Ao14 y239.length co14)) (fun _ hk => hk.2) (.slice Ao23 t247.length co23)) (fun _ hk => hk.2) (.slice (some ⟨go3, 0, none⟩) t243.length co3)) (fun _ hk => hk.2) (.slice none 0 0)) (fun _ hk => hk.2) (.int .i64 0)) (fun _ hk => hk.1), by first | exact Kd.R_nil _ _ _ _ _ | exact Kd.N_nil _ _ _ _ _ | exact Kd.V_nil _ _ _ _ _ | exact Kd.Q_nil _ _ _ _ _ | exact Kd.S_nil _ _ _ _ _, by repeat (first | (with_reducible first | exact HB.out | apply below_alloc | apply pw_below_drewN | apply below_drew1 | refine below_set ?_ E0.out | refine below_set ?_ E1.out) | exact HB.out)⟩
 ·rw [if_neg c2] at H
  exact absurd H (by simp)

end Go.Proofs.Ytlapbhgkmmeeoaa.PSpares
end
section
/- Contracts: what calls of these functions of the program do, each as a plain function; written by a program of this session. -/
namespace Go.Proofs.Ytlapbhgkmmeeoaa.PSpares
open Go.RowKit Go.Proofs.YtlapbhgkmmeeoaaW.PrintWords Go.Proofs.YtlapbhgkmmeeoaaW.PrintLast Go.Proofs.YtlapbhgkmmeeoaaW.PrintMore
attribute [local go_sem] max2_int min2_int max_two min_two max_three min_three max_four min_four   -- for this text's walks alone
set_option linter.unusedVariables false
set_option linter.unusedSimpArgs false

/-! ### wharfagelaw17_awake: function 14 -/
def wharfagelaw17_awake.f (k : Nat)  : Option (Bool) := (wharfagelaw17_node.f k).bind fun bt250 => ((spare_Full.f k bt250.1 bt250.2.1 bt250.2.2.1 bt250.2.2.2.1 bt250.2.2.2.2.1 bt250.2.2.2.2.2.1 bt250.2.2.2.2.2.2).bind fun bt266 => ((spare_Targets.f k bt250.1 bt250.2.1 bt250.2.2.1 bt250.2.2.2.1 bt250.2.2.2.2.1 bt250.2.2.2.2.2.1 bt250.2.2.2.2.2.2 9).bind fun bt268 => ((spare_Targets.f k bt250.1 bt250.2.1 bt250.2.2.1 bt250.2.2.2.1 bt250.2.2.2.2.1 bt250.2.2.2.2.2.1 bt250.2.2.2.2.2.2 15).bind fun bt272 => ((some (([(⟨(⟨0, 0, 17, 0, 0⟩ : S48), 0, false, 0, 0⟩ : S50)] : List (S50)) : List (S50))).bind fun y276 => ((spare_Full.f k bt250.1 bt250.2.1 bt250.2.2.1 bt250.2.2.2.1 bt250.2.2.2.2.1 y276 bt250.2.2.2.2.2.2).bind fun bt279 => ((spare_Full.f k 0 0 ([] : List (S53)) ([] : List (S86)) ([] : List (S91)) ([] : List (S50)) 0).bind fun bt281 => ((spare_Targets.f k bt250.1 bt250.2.1 bt250.2.2.1 bt250.2.2.2.1 bt250.2.2.2.2.1 y276 bt250.2.2.2.2.2.2 (-1)).bind fun bt283 => (if bt266.1 = true then (none) else ((wharfagelaw0_Num.f bt266.2).bind fun t287 => (if t287 = 0 then ((wharfagelaw0_SameCandidates.f k bt268.1 (([(⟨1, 3⟩ : S70)] : List (S70)))).bind fun t291 => (if t291 = true then ((wharfagelaw0_Num.f bt268.2).bind fun t292 => (if t292 = 0 then (if (bt272.1.length : Int) = 0 then ((wharfagelaw0_Num.f bt272.2).bind fun t293 => (if t293 = 0 then (if bt279.1 = true then ((wharfagelaw0_Num.f bt279.2).bind fun t294 => (if t294 = 0 then ((wharfagelaw0_Num.f bt281.2).bind fun t295 => (if t295 = 1700 then ((wharfagelaw0_Num.f bt283.2).bind fun t296 => (some (t296 == 1700))) else (none))) else (none))) else (none)) else (none))) else (none)) else (none))) else (none))) else (none)))))))))))
theorem wharfagelaw17_awake.mono : ∀ k, LeO (wharfagelaw17_awake.f k ) (wharfagelaw17_awake.f (k + 1) ) := by
 intro  k
 unfold wharfagelaw17_awake.f
 repeat' first
   | (with_reducible exact spare_Full.mono _ _ _ _ _ _ _ _)
   | (with_reducible exact spare_Targets.mono _ _ _ _ _ _ _ _ _)
   | (with_reducible exact wharfagelaw0_SameCandidates.mono _ _ _)
   | (with_reducible exact wharfagelaw17_node.mono _)
   | (with_reducible exact LeO.refl _)
   | (with_reducible exact LeO.none _)
   | (with_reducible refine LeO.ite ?_ ?_)
   | (with_reducible refine LeO.bind ?_ (fun _ => ?_))
   | exact spare_Full.mono _ _ _ _ _ _ _ _
   | exact spare_Targets.mono _ _ _ _ _ _ _ _ _
   | exact wharfagelaw0_SameCandidates.mono _ _ _
   | exact wharfagelaw17_node.mono _
   | exact LeO.none _
   | refine LeO.ite ?_ ?_
   | refine LeO.bind ?_ (fun _ => ?_)
set_option maxHeartbeats 8000000 in
set_option maxRecDepth 100000 in
theorem wharfagelaw17_awake.calls (k : Nat)  (r : Bool) (w : World) (h : wharfagelaw17_awake.f k  = some r) :
  Calls Try.prog 14 #[] w fun e w' => e = .returned (.bool r) ∧ Below w.heap.size w w' := by
 have hu29 := Try.underlying29
 have hu48 := Try.underlying48
 have hu50 := Try.underlying50
 have hu70 := Try.underlying70
 have HB := Aside0.mk (Below.refl w.heap.size w)
 have H : ((wharfagelaw17_node.f k).bind fun bt250 => ((spare_Full.f k bt250.1 bt250.2.1 bt250.2.2.1 bt250.2.2.2.1 bt250.2.2.2.2.1 bt250.2.2.2.2.2.1 bt250.2.2.2.2.2.2).bind fun bt266 => ((spare_Targets.f k bt250.1 bt250.2.1 bt250.2.2.1 bt250.2.2.2.1 bt250.2.2.2.2.1 bt250.2.2.2.2.2.1 bt250.2.2.2.2.2.2 9).bind fun bt268 => ((spare_Targets.f k bt250.1 bt250.2.1 bt250.2.2.1 bt250.2.2.2.1 bt250.2.2.2.2.1 bt250.2.2.2.2.2.1 bt250.2.2.2.2.2.2 15).bind fun bt272 => ((some (([(⟨(⟨0, 0, 17, 0, 0⟩ : S48), 0, false, 0, 0⟩ : S50)] : List (S50)) : List (S50))).bind fun y276 => ((spare_Full.f k bt250.1 bt250.2.1 bt250.2.2.1 bt250.2.2.2.1 bt250.2.2.2.2.1 y276 bt250.2.2.2.2.2.2).bind fun bt279 => ((spare_Full.f k 0 0 ([] : List (S53)) ([] : List (S86)) ([] : List (S91)) ([] : List (S50)) 0).bind fun bt281 => ((spare_Targets.f k bt250.1 bt250.2.1 bt250.2.2.1 bt250.2.2.2.1 bt250.2.2.2.2.1 y276 bt250.2.2.2.2.2.2 (-1)).bind fun bt283 => (if bt266.1 = true then (none) else ((wharfagelaw0_Num.f bt266.2).bind fun t287 => (if t287 = 0 then ((wharfagelaw0_SameCandidates.f k bt268.1 (([(⟨1, 3⟩ : S70)] : List (S70)))).bind fun t291 => (if t291 = true then ((wharfagelaw0_Num.f bt268.2).bind fun t292 => (if t292 = 0 then (if (bt272.1.length : Int) = 0 then ((wharfagelaw0_Num.f bt272.2).bind fun t293 => (if t293 = 0 then (if bt279.1 = true then ((wharfagelaw0_Num.f bt279.2).bind fun t294 => (if t294 = 0 then ((wharfagelaw0_Num.f bt281.2).bind fun t295 => (if t295 = 1700 then ((wharfagelaw0_Num.f bt283.2).bind fun t296 => (some (t296 == 1700))) else (none))) else (none))) else (none)) else (none))) else (none)) else (none))) else (none))) else (none)))))))))))) = some r := h
 clear h
 replace H := Option.bind_eq_some_iff.mp H
 obtain ⟨⟨t250, t251, t252, t255, t258, t261, t264⟩, A10, H⟩ := H
 replace H : ((spare_Full.f k t250 t251 t252 t255 t258 t261 t264).bind fun bt266 => ((spare_Targets.f k t250 t251 t252 t255 t258 t261 t264 9).bind fun bt268 => ((spare_Targets.f k t250 t251 t252 t255 t258 t261 t264 15).bind fun bt272 => ((some (([(⟨(⟨0, 0, 17, 0, 0⟩ : S48), 0, false, 0, 0⟩ : S50)] : List (S50)) : List (S50))).bind fun y276 => ((spare_Full.f k t250 t251 t252 t255 t258 y276 t264).bind fun bt279 => ((spare_Full.f k 0 0 ([] : List (S53)) ([] : List (S86)) ([] : List (S91)) ([] : List (S50)) 0).bind fun bt281 => ((spare_Targets.f k t250 t251 t252 t255 t258 y276 t264 (-1)).bind fun bt283 => (if bt266.1 = true then (none) else ((wharfagelaw0_Num.f bt266.2).bind fun t287 => (if t287 = 0 then ((wharfagelaw0_SameCandidates.f k bt268.1 (([(⟨1, 3⟩ : S70)] : List (S70)))).bind fun t291 => (if t291 = true then ((wharfagelaw0_Num.f bt268.2).bind fun t292 => (if t292 = 0 then (if (bt272.1.length : Int) = 0 then ((wharfagelaw0_Num.f bt272.2).bind fun t293 => (if t293 = 0 then (if bt279.1 = true then ((wharfagelaw0_Num.f bt279.2).bind fun t294 => (if t294 = 0 then ((wharfagelaw0_Num.f bt281.2).bind fun t295 => (if t295 = 1700 then ((wharfagelaw0_Num.f bt283.2).bind fun t296 => (some (t296 == 1700))) else (none))) else (none))) else (none)) else (none))) else (none)) else (none))) else (none))) else (none))))))))))) = some r := H
 have A1 := Aside0.mk A10
 clear A10
 replace H := Option.bind_eq_some_iff.mp H
 obtain ⟨⟨t266, t267⟩, A20, H⟩ := H
 replace H : ((spare_Targets.f k t250 t251 t252 t255 t258 t261 t264 9).bind fun bt268 => ((spare_Targets.f k t250 t251 t252 t255 t258 t261 t264 15).bind fun bt272 => ((some (([(⟨(⟨0, 0, 17, 0, 0⟩ : S48), 0, false, 0, 0⟩ : S50)] : List (S50)) : List (S50))).bind fun y276 => ((spare_Full.f k t250 t251 t252 t255 t258 y276 t264).bind fun bt279 => ((spare_Full.f k 0 0 ([] : List (S53)) ([] : List (S86)) ([] : List (S91)) ([] : List (S50)) 0).bind fun bt281 => ((spare_Targets.f k t250 t251 t252 t255 t258 y276 t264 (-1)).bind fun bt283 => (if t266 = true then (none) else ((wharfagelaw0_Num.f t267).bind fun t287 => (if t287 = 0 then ((wharfagelaw0_SameCandidates.f k bt268.1 (([(⟨1, 3⟩ : S70)] : List (S70)))).bind fun t291 => (if t291 = true then ((wharfagelaw0_Num.f bt268.2).bind fun t292 => (if t292 = 0 then (if (bt272.1.length : Int) = 0 then ((wharfagelaw0_Num.f bt272.2).bind fun t293 => (if t293 = 0 then (if bt279.1 = true then ((wharfagelaw0_Num.f bt279.2).bind fun t294 => (if t294 = 0 then ((wharfagelaw0_Num.f bt281.2).bind fun t295 => (if t295 = 1700 then ((wharfagelaw0_Num.f bt283.2).bind fun t296 => (some (t296 == 1700))) else (none))) else (none))) else (none)) else (none))) else (none)) else (none))) else (none))) else (none)))))))))) = some r := H
 have A2 := Aside0.mk A20
 clear A20
 replace H := Option.bind_eq_some_iff.mp H
 obtain ⟨⟨t268, t271⟩, A30, H⟩ := H
 replace H : ((spare_Targets.f k t250 t251 t252 t255 t258 t261 t264 15).bind fun bt272 => ((some (([(⟨(⟨0, 0, 17, 0, 0⟩ : S48), 0, false, 0, 0⟩ : S50)] : List (S50)) : List (S50))).bind fun y276 => ((spare_Full.f k t250 t251 t252 t255 t258 y276 t264).bind fun bt279 => ((spare_Full.f k 0 0 ([] : List (S53)) ([] : List (S86)) ([] : List (S91)) ([] : List (S50)) 0).bind fun bt281 => ((spare_Targets.f k t250 t251 t252 t255 t258 y276 t264 (-1)).bind fun bt283 => (if t266 = true then (none) else ((wharfagelaw0_Num.f t267).bind fun t287 => (if t287 = 0 then ((wharfagelaw0_SameCandidates.f k t268 (([(⟨1, 3⟩ : S70)] : List (S70)))).bind fun t291 => (if t291 = true then ((wharfagelaw0_Num.f t271).bind fun t292 => (if t292 = 0 then (if (bt272.1.length : Int) = 0 then ((wharfagelaw0_Num.f bt272.2).bind fun t293 => (if t293 = 0 then (if bt279.1 = true then ((wharfagelaw0_Num.f bt279.2).bind fun t294 => (if t294 = 0 then ((wharfagelaw0_Num.f bt281.2).bind fun t295 => (if t295 = 1700 then ((wharfagelaw0_Num.f bt283.2).bind fun t296 => (some (t296 == 1700))) else (none))) else (none))) else (none)) else (none))) else (none)) else (none))) else (none))) else (none))))))))) = some r := H
 have A3 := Aside0.mk A30
 clear A30
 replace H := Option.bind_eq_some_iff.mp H
 obtain ⟨⟨t272, t275⟩, A40, H⟩ := H
 replace H : ((some (([(⟨(⟨0, 0, 17, 0, 0⟩ : S48), 0, false, 0, 0⟩ : S50)] : List (S50)) : List (S50))).bind fun y276 => ((spare_Full.f k t250 t251 t252 t255 t258 y276 t264).bind fun bt279 => ((spare_Full.f k 0 0 ([] : List (S53)) ([] : List (S86)) ([] : List (S91)) ([] : List (S50)) 0).bind fun bt281 => ((spare_Targets.f k t250 t251 t252 t255 t258 y276 t264 (-1)).bind fun bt283 => (if t266 = true then (none) else ((wharfagelaw0_Num.f t267).bind fun t287 => (if t287 = 0 then ((wharfagelaw0_SameCandidates.f k t268 (([(⟨1, 3⟩ : S70)] : List (S70)))).bind fun t291 => (if t291 = true then ((wharfagelaw0_Num.f t271).bind fun t292 => (if t292 = 0 then (if (t272.length : Int) = 0 then ((wharfagelaw0_Num.f t275).bind fun t293 => (if t293 = 0 then (if bt279.1 = true then ((wharfagelaw0_Num.f bt279.2).bind fun t294 => (if t294 = 0 then ((wharfagelaw0_Num.f bt281.2).bind fun t295 => (if t295 = 1700 then ((wharfagelaw0_Num.f bt283.2).bind fun t296 => (some (t296 == 1700))) else (none))) else (none))) else (none)) else (none))) else (none)) else (none))) else (none))) else (none)))))))) = some r := H
 have A4 := Aside0.mk A40
 clear A40
 obtain ⟨y276, hy276⟩ : ∃ y_ : List (S50), y_ = (([(⟨(⟨0, 0, 17, 0, 0⟩ : S48), 0, false, 0, 0⟩ : S50)] : List (S50))) := ⟨_, rfl⟩
 replace H : ((spare_Full.f k t250 t251 t252 t255 t258 y276 t264).bind fun bt279 => ((spare_Full.f k 0 0 ([] : List (S53)) ([] : List (S86)) ([] : List (S91)) ([] : List (S50)) 0).bind fun bt281 => ((spare_Targets.f k t250 t251 t252 t255 t258 y276 t264 (-1)).bind fun bt283 => (if t266 = true then (none) else ((wharfagelaw0_Num.f t267).bind fun t287 => (if t287 = 0 then ((wharfagelaw0_SameCandidates.f k t268 (([(⟨1, 3⟩ : S70)] : List (S70)))).bind fun t291 => (if t291 = true then ((wharfagelaw0_Num.f t271).bind fun t292 => (if t292 = 0 then (if (t272.length : Int) = 0 then ((wharfagelaw0_Num.f t275).bind fun t293 => (if t293 = 0 then (if bt279.1 = true then ((wharfagelaw0_Num.f bt279.2).bind fun t294 => (if t294 = 0 then ((wharfagelaw0_Num.f bt281.2).bind fun t295 => (if t295 = 1700 then ((wharfagelaw0_Num.f bt283.2).bind fun t296 => (some (t296 == 1700))) else (none))) else (none))) else (none)) else (none))) else (none)) else (none))) else (none))) else (none))))))) = some r := by first | (rw [hy276]; with_reducible exact H) | (have H2_ := (Option.bind_some _ _).symm.trans H; rw [hy276]; with_reducible exact H2_) | (have H2_ := (Option.bind_some _ _).symm.trans H; with_reducible exact H2_) | with_reducible exact H | (rw [hy276]; exact H) | exact H
 have Ny276 := Aside0.mk hy276
 clear hy276
 replace H := Option.bind_eq_some_iff.mp H
 obtain ⟨⟨t279, t280⟩, A50, H⟩ := H
 replace H : ((spare_Full.f k 0 0 ([] : List (S53)) ([] : List (S86)) ([] : List (S91)) ([] : List (S50)) 0).bind fun bt281 => ((spare_Targets.f k t250 t251 t252 t255 t258 y276 t264 (-1)).bind fun bt283 => (if t266 = true then (none) else ((wharfagelaw0_Num.f t267).bind fun t287 => (if t287 = 0 then ((wharfagelaw0_SameCandidates.f k t268 (([(⟨1, 3⟩ : S70)] : List (S70)))).bind fun t291 => (if t291 = true then ((wharfagelaw0_Num.f t271).bind fun t292 => (if t292 = 0 then (if (t272.length : Int) = 0 then ((wharfagelaw0_Num.f t275).bind fun t293 => (if t293 = 0 then (if t279 = true then ((wharfagelaw0_Num.f t280).bind fun t294 => (if t294 = 0 then ((wharfagelaw0_Num.f bt281.2).bind fun t295 => (if t295 = 1700 then ((wharfagelaw0_Num.f bt283.2).bind fun t296 => (some (t296 == 1700))) else (none))) else (none))) else (none)) else (none))) else (none)) else (none))) else (none))) else (none)))))) = some r := H
 have A5 := Aside0.mk A50
 clear A50
 replace H := Option.bind_eq_some_iff.mp H
 obtain ⟨⟨t281, t282⟩, A60, H⟩ := H
 replace H : ((spare_Targets.f k t250 t251 t252 t255 t258 y276 t264 (-1)).bind fun bt283 => (if t266 = true then (none) else ((wharfagelaw0_Num.f t267).bind fun t287 => (if t287 = 0 then ((wharfagelaw0_SameCandidates.f k t268 (([(⟨1, 3⟩ : S70)] : List (S70)))).bind fun t291 => (if t291 = true then ((wharfagelaw0_Num.f t271).bind fun t292 => (if t292 = 0 then (if (t272.length : Int) = 0 then ((wharfagelaw0_Num.f t275).bind fun t293 => (if t293 = 0 then (if t279 = true then ((wharfagelaw0_Num.f t280).bind fun t294 => (if t294 = 0 then ((wharfagelaw0_Num.f t282).bind fun t295 => (if t295 = 1700 then ((wharfagelaw0_Num.f bt283.2).bind fun t296 => (some (t296 == 1700))) else (none))) else (none))) else (none)) else (none))) else (none)) else (none))) else (none))) else (none))))) = some r := H
 have A6 := Aside0.mk A60
 clear A60
 replace H := Option.bind_eq_some_iff.mp H
 obtain ⟨⟨t283, t286⟩, A70, H⟩ := H
 replace H : (if t266 = true then (none) else ((wharfagelaw0_Num.f t267).bind fun t287 => (if t287 = 0 then ((wharfagelaw0_SameCandidates.f k t268 (([(⟨1, 3⟩ : S70)] : List (S70)))).bind fun t291 => (if t291 = true then ((wharfagelaw0_Num.f t271).bind fun t292 => (if t292 = 0 then (if (t272.length : Int) = 0 then ((wharfagelaw0_Num.f t275).bind fun t293 => (if t293 = 0 then (if t279 = true then ((wharfagelaw0_Num.f t280).bind fun t294 => (if t294 = 0 then ((wharfagelaw0_Num.f t282).bind fun t295 => (if t295 = 1700 then ((wharfagelaw0_Num.f t286).bind fun t296 => (some (t296 == 1700))) else (none))) else (none))) else (none)) else (none))) else (none)) else (none))) else (none))) else (none)))) = some r := H
 have A7 := Aside0.mk A70
 clear A70
 by_cases c8 : t266 = true
 ·subst c8
  have H1 : (none) = some r := by rw [if_pos rfl] at H; exact H
  clear H
  have H := H1
  clear H1
  exact absurd H (by simp)
 ·replace c8 := Bool.eq_false_iff.mpr c8
  subst c8
  have H1 : ((wharfagelaw0_Num.f t267).bind fun t287 => (if t287 = 0 then ((wharfagelaw0_SameCandidates.f k t268 (([(⟨1, 3⟩ : S70)] : List (S70)))).bind fun t291 => (if t291 = true then ((wharfagelaw0_Num.f t271).bind fun t292 => (if t292 = 0 then (if (t272.length : Int) = 0 then ((wharfagelaw0_Num.f t275).bind fun t293 => (if t293 = 0 then (if t279 = true then ((wharfagelaw0_Num.f t280).bind fun t294 => (if t294 = 0 then ((wharfagelaw0_Num.f t282).bind fun t295 => (if t295 = 1700 then ((wharfagelaw0_Num.f t286).bind fun t296 => (some (t296 == 1700))) else (none))) else (none))) else (none)) else (none))) else (none)) else (none))) else (none))) else (none))) = some r := by rw [if_neg (show ¬ (false = true) by decide)] at H; exact H
  clear H
  have H := H1
  clear H1
  replace H := Option.bind_eq_some_iff.mp H
  obtain ⟨t287, A90, H⟩ := H
  replace H : (if t287 = 0 then ((wharfagelaw0_SameCandidates.f k t268 (([(⟨1, 3⟩ : S70)] : List (S70)))).bind fun t291 => (if t291 = true then ((wharfagelaw0_Num.f t271).bind fun t292 => (if t292 = 0 then (if (t272.length : Int) = 0 then ((wharfagelaw0_Num.f t275).bind fun t293 => (if t293 = 0 then (if t279 = true then ((wharfagelaw0_Num.f t280).bind fun t294 => (if t294 = 0 then ((wharfagelaw0_Num.f t282).bind fun t295 => (if t295 = 1700 then ((wharfagelaw0_Num.f t286).bind fun t296 => (some (t296 == 1700))) else (none))) else (none))) else (none)) else (none))) else (none)) else (none))) else (none))) else (none)) = some r := H
  have A9 := Aside0.mk A90
  clear A90
  by_cases c10 : t287 = 0
  ·rw [if_pos c10] at H
   have c10b0 : (t287 == 0) = true := beq_iff_eq.mpr c10
   have c10b1 : (t287 != 0) = false := bne_eq_false_iff_eq.mpr c10
   clear c10
   obtain ⟨y288, hy288⟩ : ∃ y_ : List (S70), y_ = (([(⟨1, 3⟩ : S70)] : List (S70))) := ⟨_, rfl⟩
   replace H : ((wharfagelaw0_SameCandidates.f k t268 y288).bind fun t291 => (if t291 = true then ((wharfagelaw0_Num.f t271).bind fun t292 => (if t292 = 0 then (if (t272.length : Int) = 0 then ((wharfagelaw0_Num.f t275).bind fun t293 => (if t293 = 0 then (if t279 = true then ((wharfagelaw0_Num.f t280).bind fun t294 => (if t294 = 0 then ((wharfagelaw0_Num.f t282).bind fun t295 => (if t295 = 1700 then ((wharfagelaw0_Num.f t286).bind fun t296 => (some (t296 == 1700))) else (none))) else (none))) else (none)) else (none))) else (none)) else (none))) else (none))) = some r := by first | (rw [hy288]; with_reducible exact H) | (have H2_ := (Option.bind_some _ _).symm.trans H; rw [hy288]; with_reducible exact H2_) | (have H2_ := (Option.bind_some _ _).symm.trans H; with_reducible exact H2_) | with_reducible exact H | (rw [hy288]; exact H) | exact H
   have Ny288 := Aside0.mk hy288
   clear hy288
   replace H := Option.bind_eq_some_iff.mp H
   obtain ⟨t291, A110, H⟩ := H
   replace H : (if t291 = true then ((wharfagelaw0_Num.f t271).bind fun t292 => (if t292 = 0 then (if (t272.length : Int) = 0 then ((wharfagelaw0_Num.f t275).bind fun t293 => (if t293 = 0 then (if t279 = true then ((wharfagelaw0_Num.f t280).bind fun t294 => (if t294 = 0 then ((wharfagelaw0_Num.f t282).bind fun t295 => (if t295 = 1700 then ((wharfagelaw0_Num.f t286).bind fun t296 => (some (t296 == 1700))) else (none))) else (none))) else (none)) else (none))) else (none)) else (none))) else (none)) = some r := H
   have A11 := Aside0.mk A110
   clear A110
   by_cases c12 : t291 = true
   ·subst c12
    have H1 : ((wharfagelaw0_Num.f t271).bind fun t292 => (if t292 = 0 then (if (t272.length : Int) = 0 then ((wharfagelaw0_Num.f t275).bind fun t293 => (if t293 = 0 then (if t279 = true then ((wharfagelaw0_Num.f t280).bind fun t294 => (if t294 = 0 then ((wharfagelaw0_Num.f t282).bind fun t295 => (if t295 = 1700 then ((wharfagelaw0_Num.f t286).bind fun t296 => (some (t296 == 1700))) else (none))) else (none))) else (none)) else (none))) else (none)) else (none))) = some r := by rw [if_pos rfl] at H; exact H
    clear H
    have H := H1
    clear H1
    replace H := Option.bind_eq_some_iff.mp H
    obtain ⟨t292, A130, H⟩ := H
    replace H : (if t292 = 0 then (if (t272.length : Int) = 0 then ((wharfagelaw0_Num.f t275).bind fun t293 => (if t293 = 0 then (if t279 = true then ((wharfagelaw0_Num.f t280).bind fun t294 => (if t294 = 0 then ((wharfagelaw0_Num.f t282).bind fun t295 => (if t295 = 1700 then ((wharfagelaw0_Num.f t286).bind fun t296 => (some (t296 == 1700))) else (none))) else (none))) else (none)) else (none))) else (none)) else (none)) = some r := H
    have A13 := Aside0.mk A130
    clear A130
    by_cases c14 : t292 = 0
    ·rw [if_pos c14] at H
     have c14b0 : (t292 == 0) = true := beq_iff_eq.mpr c14
     have c14b1 : (t292 != 0) = false := bne_eq_false_iff_eq.mpr c14
     clear c14
     by_cases c15 : (t272.length : Int) = 0
     ·rw [if_pos c15] at H
      have c15b0 : ((t272.length : Int) == 0) = true := beq_iff_eq.mpr c15
      have c15b1 : ((t272.length : Int) != 0) = false := bne_eq_false_iff_eq.mpr c15
      clear c15
      replace H := Option.bind_eq_some_iff.mp H
      obtain ⟨t293, A160, H⟩ := H
      replace H : (if t293 = 0 then (if t279 = true then ((wharfagelaw0_Num.f t280).bind fun t294 => (if t294 = 0 then ((wharfagelaw0_Num.f t282).bind fun t295 => (if t295 = 1700 then ((wharfagelaw0_Num.f t286).bind fun t296 => (some (t296 == 1700))) else (none))) else (none))) else (none)) else (none)) = some r := H
      have A16 := Aside0.mk A160
      clear A160
      by_cases c17 : t293 = 0
      ·rw [if_pos c17] at H
       have c17b0 : (t293 == 0) = true := beq_iff_eq.mpr c17
       have c17b1 : (t293 != 0) = false := bne_eq_false_iff_eq.mpr c17
       clear c17
       by_cases c18 : t279 = true
       ·subst c18
        have H1 : ((wharfagelaw0_Num.f t280).bind fun t294 => (if t294 = 0 then ((wharfagelaw0_Num.f t282).bind fun t295 => (if t295 = 1700 then ((wharfagelaw0_Num.f t286).bind fun t296 => (some (t296 == 1700))) else (none))) else (none))) = some r := by rw [if_pos rfl] at H; exact H
        clear H
        have H := H1
        clear H1
        replace H := Option.bind_eq_some_iff.mp H
        obtain ⟨t294, A190, H⟩ := H
        replace H : (if t294 = 0 then ((wharfagelaw0_Num.f t282).bind fun t295 => (if t295 = 1700 then ((wharfagelaw0_Num.f t286).bind fun t296 => (some (t296 == 1700))) else (none))) else (none)) = some r := H
        have A19 := Aside0.mk A190
        clear A190
        by_cases c20 : t294 = 0
        ·rw [if_pos c20] at H
         have c20b0 : (t294 == 0) = true := beq_iff_eq.mpr c20
         have c20b1 : (t294 != 0) = false := bne_eq_false_iff_eq.mpr c20
         clear c20
         replace H := Option.bind_eq_some_iff.mp H
         obtain ⟨t295, A210, H⟩ := H
         replace H : (if t295 = 1700 then ((wharfagelaw0_Num.f t286).bind fun t296 => (some (t296 == 1700))) else (none)) = some r := H
         have A21 := Aside0.mk A210
         clear A210
         by_cases c22 : t295 = 1700
         ·rw [if_pos c22] at H
          have c22b0 : (t295 == 1700) = true := beq_iff_eq.mpr c22
          have c22b1 : (t295 != 1700) = false := bne_eq_false_iff_eq.mpr c22
          clear c22
          replace H := Option.bind_eq_some_iff.mp H
          obtain ⟨t296, A230, H⟩ := H
          replace H : (some (t296 == 1700)) = some r := H
          have A23 := Aside0.mk A230
          clear A230
          obtain rfl := Option.some.inj H
          go_enter Try.func14, Try.ntmps14
          go_wp2_with (first | ((with_reducible refine gate_callee (f := 32) rfl ?_); refine goesL_ (some 14) rfl rfl Try.func32 (by kernel_rfl) rfl #[] rfl (by (try simp only [List.map_toArray, List.map_cons, List.map_nil]); first | done | rfl | (simp only [List.length_drop, List.length_take]; rfl)) ?_; (with_reducible refine (wharfagelaw17_node.calls k  t250 t251 t252 t255 t258 t261 t264 _ A1.out).mono ?_); rintro e w24 ⟨v253, v256, v259, v262, rfl, ho0, ho1, ho2, ho3, hb⟩; refine ⟨_, rfl, ?_⟩; have n0_ := Aside0.mk (Kd.N_lower (Kd.N_mono (ok' := fun k_ => some k_ ≠ (v256 : Value).ownBlock ∧ some k_ ≠ (v259 : Value).ownBlock ∧ some k_ ≠ (v262 : Value).ownBlock) ho0 (fun k_ hk_ => ⟨hk_.2.1, hk_.2.2.1, hk_.2.2.2⟩)) (below_size (by repeat (first | (with_reducible first | exact HB.out | apply below_alloc | apply pw_below_drewN | apply below_drew1) | exact HB.out)))); have n1_ := Aside0.mk (Kd.R_lower (Kd.R_mono (ok' := fun k_ => True) ho1 (fun _ hk_ => trivial)) (below_size (by repeat (first | (with_reducible first | exact HB.out | apply below_alloc | apply pw_below_drewN | apply below_drew1) | exact HB.out)))); have n2_ := Aside0.mk (Kd.R_lower (Kd.R_mono (ok' := fun k_ => True) ho2 (fun _ hk_ => trivial)) (below_size (by repeat (first | (with_reducible first | exact HB.out | apply below_alloc | apply pw_below_drewN | apply below_drew1) | exact HB.out)))); have n3_ := Aside0.mk (Kd.R_lower (Kd.R_mono (ok' := fun k_ => True) ho3 (fun _ hk_ => trivial)) (below_size (by repeat (first | (with_reducible first | exact HB.out | apply below_alloc | apply pw_below_drewN | apply below_drew1) | exact HB.out)))); have n4_ := Aside0.mk (below_step (by repeat (first | (with_reducible first | exact HB.out | apply below_alloc | apply pw_below_drewN | apply below_drew1) | exact HB.out)) hb); clear HB; have O0 := n0_; have O1 := n1_; have O2 := n2_; have O3 := n3_; have HB := n4_; clear n0_ n1_ n2_ n3_ n4_; (try clear hb); (try clear hb2); (try clear hk); (try clear hi); (try clear ho0); (try clear ho1); (try clear ho2); (try clear ho3)) | ((with_reducible refine gate_dst (N := 1) rfl ?_); (try (refine gate_guard (by rfl) ?_; dsimp only)); refine box_event ?hg (N := 1) ?hd (cs := #[.int .i64 0, .int .i64 0, .slice none 0 0, .slice none 0 0, .slice none 0 0, .slice none 0 0, .int .i64 0]) (t := 29) ?hr ?_; (case hd => rfl); (case hg => rfl); (case hr => first | (go_simp; done) | (go_simp; rfl)); intro g0 hg w25 hbox hb; have n0_ := Aside0.mk (Kd.N_below (Kd.N_elderB (by (with_reducible repeat (first | apply Kd.N_alloc | apply Kd.N_drewN | apply Kd.N_drew)); exact O0.out) g0 (Nat.le_of_eq hg.symm)) hb); have n1_ := Aside0.mk (Kd.R_below (by (with_reducible repeat (first | apply Kd.R_alloc | apply Kd.R_drewN | apply Kd.R_drew)); exact O1.out) hb); have n2_ := Aside0.mk (Kd.R_below (by (with_reducible repeat (first | apply Kd.R_alloc | apply Kd.R_drewN | apply Kd.R_drew)); exact O2.out) hb); have n3_ := Aside0.mk (Kd.R_below (by (with_reducible repeat (first | apply Kd.R_alloc | apply Kd.R_drewN | apply Kd.R_drew)); exact O3.out) hb); have n4_ := Aside0.mk (below_step (by repeat (first | (with_reducible first | exact HB.out | apply below_alloc | apply pw_below_drewN | apply below_drew1) | exact HB.out)) hb); have n5_ := Aside0.mk (hbox); have n6_ := Aside0.mk ((by rw [hg]; exact (below_size (by repeat (first | (with_reducible first | exact HB.out | apply below_alloc | apply pw_below_drewN | apply below_drew1) | exact HB.out))) : w.heap.size ≤ g0)); have n7_ := Aside0.mk ((by rw [hg]; exact (below_size (by repeat (first | (with_reducible first | exact HB.out | apply below_alloc | apply pw_below_drewN | apply below_drew1) | exact HB.out))) : w.heap.size ≤ g0)); clear O0; clear O1; clear O2; clear O3; clear HB; have O0 := n0_; have O1 := n1_; have O2 := n2_; have O3 := n3_; have HB := n4_; have K0 := n5_; have G0 := n6_; have E0 := n7_; clear n0_ n1_ n2_ n3_ n4_ n5_ n6_ n7_; clear hb hbox hg; have hcz26_0 : w25.cell? ⟨g0, 0, none⟩ = some (.int .i64 0) := (blk_cell K0.out 0).trans rfl; have hcz26_1 : w25.cell? ⟨g0, 1, none⟩ = some (.int .i64 0) := (blk_cell K0.out 1).trans rfl; have hcz26_2 : w25.cell? ⟨g0, 2, none⟩ = some (.slice none 0 0) := (blk_cell K0.out 2).trans rfl; have hcz26_3 : w25.cell? ⟨g0, 3, none⟩ = some (.slice none 0 0) := (blk_cell K0.out 3).trans rfl; have hcz26_4 : w25.cell? ⟨g0, 4, none⟩ = some (.slice none 0 0) := (blk_cell K0.out 4).trans rfl; have hcz26_5 : w25.cell? ⟨g0, 5, none⟩ = some (.slice none 0 0) := (blk_cell K0.out 5).trans rfl; have hcz26_6 : w25.cell? ⟨g0, 6, none⟩ = some (.int .i64 0) := (blk_cell K0.out 6).trans rfl; have hfz26_0 := blk_frozen K0.out 0; have hfz26_1 := blk_frozen K0.out 1; have hfz26_2 := blk_frozen K0.out 2; have hfz26_3 := blk_frozen K0.out 3; have hfz26_4 := blk_frozen K0.out 4; have hfz26_5 := blk_frozen K0.out 5; have hfz26_6 := blk_frozen K0.out 6; obtain ⟨Ao27, co27, eo27⟩ := Kd.N_slice O0.out; subst eo27; obtain ⟨Ao28, co28, eo28⟩ := Kd.R_slice O1.out; subst eo28; obtain ⟨Ao29, co29, eo29⟩ := Kd.R_slice O2.out; subst eo29; obtain ⟨Ao30, co30, eo30⟩ := Kd.R_slice O3.out; subst eo30) | ((with_reducible refine gate_callee (f := 6) rfl ?_); refine goesL_ (some 17) rfl rfl Try.func6 (by kernel_rfl) rfl #[.agg #[.int .i64 t250, .int .i64 t251, .slice Ao27 t252.length co27, .slice Ao28 t255.length co28, .slice Ao29 t258.length co29, .slice Ao30 t261.length co30, .int .i64 t264]] rfl (by (try simp only [List.map_toArray, List.map_cons, List.map_nil]); first | done | rfl | (simp only [List.length_drop, List.length_take]; rfl)) ?_; (with_reducible refine (spare_Full.calls k t250 t251 _ _ t252 _ _ t255 _ _ t258 _ _ t261 t264 false t267 _ ?side1 ?side2 ?side3 ?side4 ?side5 ?side6 ?side7 ?side8 A2.out).mono ?_); (case side1 => refine (Kd.N_reads' (e := 53) (base := w.heap.size) (ok := fun k_ => ((some k_ ≠ (.slice Ao28 t255.length co28 : Value).ownBlock ∧ (some k_ ≠ (.slice Ao29 t258.length co29 : Value).ownBlock ∧ some k_ ≠ (.slice Ao30 t261.length co30 : Value).ownBlock)) ∧ k_ ≠ g0)) (n := t252.length) (c := co27) ?_).2.2; exact (by (with_reducible repeat (first | apply Kd.N_alloc | apply Kd.N_drewN | apply Kd.N_drew)); exact (Kd.N_mono (Kd.N_far (p := ⟨g0, 6, none⟩) (Kd.N_far (p := ⟨g0, 5, none⟩) (Kd.N_far (p := ⟨g0, 4, none⟩) (Kd.N_far (p := ⟨g0, 3, none⟩) (Kd.N_far (p := ⟨g0, 2, none⟩) (Kd.N_far (p := ⟨g0, 1, none⟩) (Kd.N_far (p := ⟨g0, 0, none⟩) (Kd.N_mono O0.out (fun k_ hk => (⟨hk, hk.2⟩ : _ ∧ k_ ≠ g0))) (fun _ hk => hk.2) (.int .i64 t250)) (fun _ hk => hk.2) (.int .i64 t251)) (fun _ hk => hk.2) (.slice Ao27 t252.length co27)) (fun _ hk => hk.2) (.slice Ao28 t255.length co28)) (fun _ hk => hk.2) (.slice Ao29 t258.length co29)) (fun _ hk => hk.2) (.slice Ao30 t261.length co30)) (fun _ hk => hk.2) (.int .i64 t264)) (fun _ h_ => h_.1)))); (case side2 => exact (Kd.N_reads' O0.out).2.1); (case side3 => refine (Kd.R_reads' (e := 86) (base := w.heap.size) (ok := fun k_ => True) (n := t255.length) (c := co28) ?_).2.2; exact (by (with_reducible repeat (first | apply Kd.R_alloc | apply Kd.R_drewN | apply Kd.R_drew)); exact (Kd.R_mono (Kd.R_far (p := ⟨g0, 6, none⟩) (Kd.R_far (p := ⟨g0, 5, none⟩) (Kd.R_far (p := ⟨g0, 4, none⟩) (Kd.R_far (p := ⟨g0, 3, none⟩) (Kd.R_far (p := ⟨g0, 2, none⟩) (Kd.R_far (p := ⟨g0, 1, none⟩) (Kd.R_far (p := ⟨g0, 0, none⟩) (Kd.R_types O1.out K0.out (by decide)) (fun _ hk => hk.2) (.int .i64 t250)) (fun _ hk => hk.2) (.int .i64 t251)) (fun _ hk => hk.2) (.slice Ao27 t252.length co27)) (fun _ hk => hk.2) (.slice Ao28 t255.length co28)) (fun _ hk => hk.2) (.slice Ao29 t258.length co29)) (fun _ hk => hk.2) (.slice Ao30 t261.length co30)) (fun _ hk => hk.2) (.int .i64 t264)) (fun _ h_ => h_.1)))); (case side4 => exact (Kd.R_reads' O1.out).2.1); (case side5 => refine (Kd.R_reads' (e := 91) (base := w.heap.size) (ok := fun k_ => True) (n := t258.length) (c := co29) ?_).2.2; exact (by (with_reducible repeat (first | apply Kd.R_alloc | apply Kd.R_drewN | apply Kd.R_drew)); exact (Kd.R_mono (Kd.R_far (p := ⟨g0, 6, none⟩) (Kd.R_far (p := ⟨g0, 5, none⟩) (Kd.R_far (p := ⟨g0, 4, none⟩) (Kd.R_far (p := ⟨g0, 3, none⟩) (Kd.R_far (p := ⟨g0, 2, none⟩) (Kd.R_far (p := ⟨g0, 1, none⟩) (Kd.R_far (p := ⟨g0, 0, none⟩) (Kd.R_types O2.out K0.out (by decide)) (fun _ hk => hk.2) (.int .i64 t250)) (fun _ hk => hk.2) (.int .i64 t251)) (fun _ hk => hk.2) (.slice Ao27 t252.length co27)) (fun _ hk => hk.2) (.slice Ao28 t255.length co28)) (fun _ hk => hk.2) (.slice Ao29 t258.length co29)) (fun _ hk => hk.2) (.slice Ao30 t261.length co30)) (fun _ hk => hk.2) (.int .i64 t264)) (fun _ h_ => h_.1)))); (case side6 => exact (Kd.R_reads' O2.out).2.1); (case side7 => refine (Kd.R_reads' (e := 50) (base := w.heap.size) (ok := fun k_ => True) (n := t261.length) (c := co30) ?_).2.2; exact (by (with_reducible repeat (first | apply Kd.R_alloc | apply Kd.R_drewN | apply Kd.R_drew)); exact (Kd.R_mono (Kd.R_far (p := ⟨g0, 6, none⟩) (Kd.R_far (p := ⟨g0, 5, none⟩) (Kd.R_far (p := ⟨g0, 4, none⟩) (Kd.R_far (p := ⟨g0, 3, none⟩) (Kd.R_far (p := ⟨g0, 2, none⟩) (Kd.R_far (p := ⟨g0, 1, none⟩) (Kd.R_far (p := ⟨g0, 0, none⟩) (Kd.R_types O3.out K0.out (by decide)) (fun _ hk => hk.2) (.int .i64 t250)) (fun _ hk => hk.2) (.int .i64 t251)) (fun _ hk => hk.2) (.slice Ao27 t252.length co27)) (fun _ hk => hk.2) (.slice Ao28 t255.length co28)) (fun _ hk => hk.2) (.slice Ao29 t258.length co29)) (fun _ hk => hk.2) (.slice Ao30 t261.length co30)) (fun _ hk => hk.2) (.int .i64 t264)) (fun _ h_ => h_.1)))); (case side8 => exact (Kd.R_reads' O3.out).2.1); rintro e w31 ⟨rfl, hb⟩; refine ⟨_, rfl, ?_⟩; have n0_ := Aside0.mk (Kd.N_below (by (with_reducible repeat (first | apply Kd.N_alloc | apply Kd.N_drewN | apply Kd.N_drew)); exact (Kd.N_mono (Kd.N_far (p := ⟨g0, 6, none⟩) (Kd.N_far (p := ⟨g0, 5, none⟩) (Kd.N_far (p := ⟨g0, 4, none⟩) (Kd.N_far (p := ⟨g0, 3, none⟩) (Kd.N_far (p := ⟨g0, 2, none⟩) (Kd.N_far (p := ⟨g0, 1, none⟩) (Kd.N_far (p := ⟨g0, 0, none⟩) (Kd.N_mono O0.out (fun k_ hk => (⟨hk, hk.2⟩ : _ ∧ k_ ≠ g0))) (fun _ hk => hk.2) (.int .i64 t250)) (fun _ hk => hk.2) (.int .i64 t251)) (fun _ hk => hk.2) (.slice Ao27 t252.length co27)) (fun _ hk => hk.2) (.slice Ao28 t255.length co28)) (fun _ hk => hk.2) (.slice Ao29 t258.length co29)) (fun _ hk => hk.2) (.slice Ao30 t261.length co30)) (fun _ hk => hk.2) (.int .i64 t264)) (fun _ h_ => h_.1))) hb); have n1_ := Aside0.mk (Kd.R_below (by (with_reducible repeat (first | apply Kd.R_alloc | apply Kd.R_drewN | apply Kd.R_drew)); exact (Kd.R_mono (Kd.R_far (p := ⟨g0, 6, none⟩) (Kd.R_far (p := ⟨g0, 5, none⟩) (Kd.R_far (p := ⟨g0, 4, none⟩) (Kd.R_far (p := ⟨g0, 3, none⟩) (Kd.R_far (p := ⟨g0, 2, none⟩) (Kd.R_far (p := ⟨g0, 1, none⟩) (Kd.R_far (p := ⟨g0, 0, none⟩) (Kd.R_types O1.out K0.out (by decide)) (fun _ hk => hk.2) (.int .i64 t250)) (fun _ hk => hk.2) (.int .i64 t251)) (fun _ hk => hk.2) (.slice Ao27 t252.length co27)) (fun _ hk => hk.2) (.slice Ao28 t255.length co28)) (fun _ hk => hk.2) (.slice Ao29 t258.length co29)) (fun _ hk => hk.2) (.slice Ao30 t261.length co30)) (fun _ hk => hk.2) (.int .i64 t264)) (fun _ h_ => h_.1))) hb); have n2_ := Aside0.mk (Kd.R_below (by (with_reducible repeat (first | apply Kd.R_alloc | apply Kd.R_drewN | apply Kd.R_drew)); exact (Kd.R_mono (Kd.R_far (p := ⟨g0, 6, none⟩) (Kd.R_far (p := ⟨g0, 5, none⟩) (Kd.R_far (p := ⟨g0, 4, none⟩) (Kd.R_far (p := ⟨g0, 3, none⟩) (Kd.R_far (p := ⟨g0, 2, none⟩) (Kd.R_far (p := ⟨g0, 1, none⟩) (Kd.R_far (p := ⟨g0, 0, none⟩) (Kd.R_types O2.out K0.out (by decide)) (fun _ hk => hk.2) (.int .i64 t250)) (fun _ hk => hk.2) (.int .i64 t251)) (fun _ hk => hk.2) (.slice Ao27 t252.length co27)) (fun _ hk => hk.2) (.slice Ao28 t255.length co28)) (fun _ hk => hk.2) (.slice Ao29 t258.length co29)) (fun _ hk => hk.2) (.slice Ao30 t261.length co30)) (fun _ hk => hk.2) (.int .i64 t264)) (fun _ h_ => h_.1))) hb); have n3_ := Aside0.mk (Kd.R_below (by (with_reducible repeat (first | apply Kd.R_alloc | apply Kd.R_drewN | apply Kd.R_drew)); exact (Kd.R_mono (Kd.R_far (p := ⟨g0, 6, none⟩) (Kd.R_far (p := ⟨g0, 5, none⟩) (Kd.R_far (p := ⟨g0, 4, none⟩) (Kd.R_far (p := ⟨g0, 3, none⟩) (Kd.R_far (p := ⟨g0, 2, none⟩) (Kd.R_far (p := ⟨g0, 1, none⟩) (Kd.R_far (p := ⟨g0, 0, none⟩) (Kd.R_types O3.out K0.out (by decide)) (fun _ hk => hk.2) (.int .i64 t250)) (fun _ hk => hk.2) (.int .i64 t251)) (fun _ hk => hk.2) (.slice Ao27 t252.length co27)) (fun _ hk => hk.2) (.slice Ao28 t255.length co28)) (fun _ hk => hk.2) (.slice Ao29 t258.length co29)) (fun _ hk => hk.2) (.slice Ao30 t261.length co30)) (fun _ hk => hk.2) (.int .i64 t264)) (fun _ h_ => h_.1))) hb); have n4_ := Aside0.mk (blk_below (g := g0) (o := .cells #[.int .i64 t250, .int .i64 t251, .slice Ao27 t252.length co27, .slice Ao28 t255.length co28, .slice Ao29 t258.length co29, .slice Ao30 t261.length co30, .int .i64 t264] 29 (0, 0)) (by (with_reducible repeat (first | refine blk_drewN ?_ _ | refine blk_drew ?_ | refine blk_alloc ?_ _)); refine blk_put (cs := #[.int .i64 t250, .int .i64 t251, .slice Ao27 t252.length co27, .slice Ao28 t255.length co28, .slice Ao29 t258.length co29, .slice Ao30 t261.length co30, .int .i64 0]) ?_ 6 _ rfl; (with_reducible repeat (first | refine blk_drewN ?_ _ | refine blk_drew ?_ | refine blk_alloc ?_ _)); refine blk_put (cs := #[.int .i64 t250, .int .i64 t251, .slice Ao27 t252.length co27, .slice Ao28 t255.length co28, .slice Ao29 t258.length co29, .slice none 0 0, .int .i64 0]) ?_ 5 _ rfl; (with_reducible repeat (first | refine blk_drewN ?_ _ | refine blk_drew ?_ | refine blk_alloc ?_ _)); refine blk_put (cs := #[.int .i64 t250, .int .i64 t251, .slice Ao27 t252.length co27, .slice Ao28 t255.length co28, .slice none 0 0, .slice none 0 0, .int .i64 0]) ?_ 4 _ rfl; (with_reducible repeat (first | refine blk_drewN ?_ _ | refine blk_drew ?_ | refine blk_alloc ?_ _)); refine blk_put (cs := #[.int .i64 t250, .int .i64 t251, .slice Ao27 t252.length co27, .slice none 0 0, .slice none 0 0, .slice none 0 0, .int .i64 0]) ?_ 3 _ rfl; (with_reducible repeat (first | refine blk_drewN ?_ _ | refine blk_drew ?_ | refine blk_alloc ?_ _)); refine blk_put (cs := #[.int .i64 t250, .int .i64 t251, .slice none 0 0, .slice none 0 0, .slice none 0 0, .slice none 0 0, .int .i64 0]) ?_ 2 _ rfl; (with_reducible repeat (first | refine blk_drewN ?_ _ | refine blk_drew ?_ | refine blk_alloc ?_ _)); refine blk_put (cs := #[.int .i64 t250, .int .i64 0, .slice none 0 0, .slice none 0 0, .slice none 0 0, .slice none 0 0, .int .i64 0]) ?_ 1 _ rfl; (with_reducible repeat (first | refine blk_drewN ?_ _ | refine blk_drew ?_ | refine blk_alloc ?_ _)); refine blk_put (cs := #[.int .i64 0, .int .i64 0, .slice none 0 0, .slice none 0 0, .slice none 0 0, .slice none 0 0, .int .i64 0]) ?_ 0 _ rfl; (with_reducible repeat (first | refine blk_drewN ?_ _ | refine blk_drew ?_ | refine blk_alloc ?_ _)); exact K0.out) hb); have n5_ := Aside0.mk (below_step (by repeat (first | (with_reducible first | exact HB.out | apply below_alloc | apply pw_below_drewN | apply below_drew1 | refine below_set ?_ E0.out) | exact HB.out)) hb); clear O0; clear O1; clear O2; clear O3; clear K0; clear HB; have O0 := n0_; have O1 := n1_; have O2 := n2_; have O3 := n3_; have K0 := n4_; have HB := n5_; clear n0_ n1_ n2_ n3_ n4_ n5_; (try clear hb); (try clear hb2); (try clear hk); (try clear hi); have hcz32_0 : w31.cell? ⟨g0, 0, none⟩ = some (.int .i64 t250) := (blk_cell K0.out 0).trans rfl; have hcz32_1 : w31.cell? ⟨g0, 1, none⟩ = some (.int .i64 t251) := (blk_cell K0.out 1).trans rfl; have hcz32_2 : w31.cell? ⟨g0, 2, none⟩ = some (.slice Ao27 t252.length co27) := (blk_cell K0.out 2).trans rfl; have hcz32_3 : w31.cell? ⟨g0, 3, none⟩ = some (.slice Ao28 t255.length co28) := (blk_cell K0.out 3).trans rfl; have hcz32_4 : w31.cell? ⟨g0, 4, none⟩ = some (.slice Ao29 t258.length co29) := (blk_cell K0.out 4).trans rfl; have hcz32_5 : w31.cell? ⟨g0, 5, none⟩ = some (.slice Ao30 t261.length co30) := (blk_cell K0.out 5).trans rfl; have hcz32_6 : w31.cell? ⟨g0, 6, none⟩ = some (.int .i64 t264) := (blk_cell K0.out 6).trans rfl; have hfz32_0 := blk_frozen K0.out 0; have hfz32_1 := blk_frozen K0.out 1; have hfz32_2 := blk_frozen K0.out 2; have hfz32_3 := blk_frozen K0.out 3; have hfz32_4 := blk_frozen K0.out 4; have hfz32_5 := blk_frozen K0.out 5; have hfz32_6 := blk_frozen K0.out 6) | ((with_reducible refine gate_callee (f := 8) rfl ?_); refine goesL_ (some 22) rfl rfl Try.func8 (by kernel_rfl) rfl #[.agg #[.int .i64 t250, .int .i64 t251, .slice Ao27 t252.length co27, .slice Ao28 t255.length co28, .slice Ao29 t258.length co29, .slice Ao30 t261.length co30, .int .i64 t264], .int .i64 9] rfl (by (try simp only [List.map_toArray, List.map_cons, List.map_nil]); first | done | rfl | (simp only [List.length_drop, List.length_take]; rfl)) ?_; (with_reducible refine (spare_Targets.calls k t250 t251 _ _ t252 _ _ t255 _ _ t258 _ _ t261 t264 9 t268 t271 _ ?side1 ?side2 ?side3 ?side4 ?side5 ?side6 ?side7 ?side8 A3.out).mono ?_); (case side1 => repeat (first | exact (Kd.N_reads' O0.out).2.2 | (with_reducible refine Kd.C_alloc ?_ _) | (with_reducible refine Kd.C_drewN ?_ _) | (with_reducible refine Kd.C_drew ?_))); (case side2 => exact (Kd.N_reads' O0.out).2.1); (case side3 => repeat (first | exact (Kd.R_reads' O1.out).2.2 | (with_reducible refine Kd.C_alloc ?_ _) | (with_reducible refine Kd.C_drewN ?_ _) | (with_reducible refine Kd.C_drew ?_))); (case side4 => exact (Kd.R_reads' O1.out).2.1); (case side5 => repeat (first | exact (Kd.R_reads' O2.out).2.2 | (with_reducible refine Kd.C_alloc ?_ _) | (with_reducible refine Kd.C_drewN ?_ _) | (with_reducible refine Kd.C_drew ?_))); (case side6 => exact (Kd.R_reads' O2.out).2.1); (case side7 => repeat (first | exact (Kd.R_reads' O3.out).2.2 | (with_reducible refine Kd.C_alloc ?_ _) | (with_reducible refine Kd.C_drewN ?_ _) | (with_reducible refine Kd.C_drew ?_))); (case side8 => exact (Kd.R_reads' O3.out).2.1); rintro e w33 ⟨v269, rfl, ho0, hb⟩; refine ⟨_, rfl, ?_⟩; have n0_ := Aside0.mk (Kd.N_elder' (by (with_reducible repeat (first | apply Kd.N_alloc | apply Kd.N_drewN | apply Kd.N_drew)); exact O0.out) (Kd.R_base ho0) hb); have n1_ := Aside0.mk (Kd.R_below (by (with_reducible repeat (first | apply Kd.R_alloc | apply Kd.R_drewN | apply Kd.R_drew)); exact O1.out) hb); have n2_ := Aside0.mk (Kd.R_below (by (with_reducible repeat (first | apply Kd.R_alloc | apply Kd.R_drewN | apply Kd.R_drew)); exact O2.out) hb); have n3_ := Aside0.mk (Kd.R_below (by (with_reducible repeat (first | apply Kd.R_alloc | apply Kd.R_drewN | apply Kd.R_drew)); exact O3.out) hb); have n4_ := Aside0.mk (Kd.R_lower ho0 (below_size (by repeat (first | (with_reducible first | exact HB.out | apply below_alloc | apply pw_below_drewN | apply below_drew1 | refine below_set ?_ E0.out) | exact HB.out)))); have n5_ := Aside0.mk (blk_below (g := g0) (o := .cells #[.int .i64 t250, .int .i64 t251, .slice Ao27 t252.length co27, .slice Ao28 t255.length co28, .slice Ao29 t258.length co29, .slice Ao30 t261.length co30, .int .i64 t264] 29 (0, 0)) (by (with_reducible repeat (first | refine blk_drewN ?_ _ | refine blk_drew ?_ | refine blk_alloc ?_ _)); exact K0.out) hb); have n6_ := Aside0.mk (below_step (by repeat (first | (with_reducible first | exact HB.out | apply below_alloc | apply pw_below_drewN | apply below_drew1 | refine below_set ?_ E0.out) | exact HB.out)) hb); clear O0; clear O1; clear O2; clear O3; clear K0; clear HB; have O0 := n0_; have O1 := n1_; have O2 := n2_; have O3 := n3_; have O4 := n4_; have K0 := n5_; have HB := n6_; clear n0_ n1_ n2_ n3_ n4_ n5_ n6_; (try clear hb); (try clear hb2); (try clear hk); (try clear hi); (try clear ho0); have hcz34_0 : w33.cell? ⟨g0, 0, none⟩ = some (.int .i64 t250) := (blk_cell K0.out 0).trans rfl; have hcz34_1 : w33.cell? ⟨g0, 1, none⟩ = some (.int .i64 t251) := (blk_cell K0.out 1).trans rfl; have hcz34_2 : w33.cell? ⟨g0, 2, none⟩ = some (.slice Ao27 t252.length co27) := (blk_cell K0.out 2).trans rfl; have hcz34_3 : w33.cell? ⟨g0, 3, none⟩ = some (.slice Ao28 t255.length co28) := (blk_cell K0.out 3).trans rfl; have hcz34_4 : w33.cell? ⟨g0, 4, none⟩ = some (.slice Ao29 t258.length co29) := (blk_cell K0.out 4).trans rfl; have hcz34_5 : w33.cell? ⟨g0, 5, none⟩ = some (.slice Ao30 t261.length co30) := (blk_cell K0.out 5).trans rfl; have hcz34_6 : w33.cell? ⟨g0, 6, none⟩ = some (.int .i64 t264) := (blk_cell K0.out 6).trans rfl; have hfz34_0 := blk_frozen K0.out 0; have hfz34_1 := blk_frozen K0.out 1; have hfz34_2 := blk_frozen K0.out 2; have hfz34_3 := blk_frozen K0.out 3; have hfz34_4 := blk_frozen K0.out 4; have hfz34_5 := blk_frozen K0.out 5; have hfz34_6 := blk_frozen K0.out 6) | ((with_reducible refine gate_callee (f := 8) rfl ?_); refine goesL_ (some 27) rfl rfl Try.func8 (by kernel_rfl) rfl #[.agg #[.int .i64 t250, .int .i64 t251, .slice Ao27 t252.length co27, .slice Ao28 t255.length co28, .slice Ao29 t258.length co29, .slice Ao30 t261.length co30, .int .i64 t264], .int .i64 15] rfl (by (try simp only [List.map_toArray, List.map_cons, List.map_nil]); first | done | rfl | (simp only [List.length_drop, List.length_take]; rfl)) ?_; (with_reducible refine (spare_Targets.calls k t250 t251 _ _ t252 _ _ t255 _ _ t258 _ _ t261 t264 15 t272 t275 _ ?side1 ?side2 ?side3 ?side4 ?side5 ?side6 ?side7 ?side8 A4.out).mono ?_); (case side1 => repeat (first | exact (Kd.N_reads' O0.out).2.2 | (with_reducible refine Kd.C_alloc ?_ _) | (with_reducible refine Kd.C_drewN ?_ _) | (with_reducible refine Kd.C_drew ?_))); (case side2 => exact (Kd.N_reads' O0.out).2.1); (case side3 => repeat (first | exact (Kd.R_reads' O1.out).2.2 | (with_reducible refine Kd.C_alloc ?_ _) | (with_reducible refine Kd.C_drewN ?_ _) | (with_reducible refine Kd.C_drew ?_))); (case side4 => exact (Kd.R_reads' O1.out).2.1); (case side5 => repeat (first | exact (Kd.R_reads' O2.out).2.2 | (with_reducible refine Kd.C_alloc ?_ _) | (with_reducible refine Kd.C_drewN ?_ _) | (with_reducible refine Kd.C_drew ?_))); (case side6 => exact (Kd.R_reads' O2.out).2.1); (case side7 => repeat (first | exact (Kd.R_reads' O3.out).2.2 | (with_reducible refine Kd.C_alloc ?_ _) | (with_reducible refine Kd.C_drewN ?_ _) | (with_reducible refine Kd.C_drew ?_))); (case side8 => exact (Kd.R_reads' O3.out).2.1); rintro e w35 ⟨v273, rfl, ho0, hb⟩; refine ⟨_, rfl, ?_⟩; have n0_ := Aside0.mk (Kd.N_elder' (by (with_reducible repeat (first | apply Kd.N_alloc | apply Kd.N_drewN | apply Kd.N_drew)); exact O0.out) (Kd.R_base ho0) hb); have n1_ := Aside0.mk (Kd.R_below (by (with_reducible repeat (first | apply Kd.R_alloc | apply Kd.R_drewN | apply Kd.R_drew)); exact O1.out) hb); have n2_ := Aside0.mk (Kd.R_below (by (with_reducible repeat (first | apply Kd.R_alloc | apply Kd.R_drewN | apply Kd.R_drew)); exact O2.out) hb); have n3_ := Aside0.mk (Kd.R_below (by (with_reducible repeat (first | apply Kd.R_alloc | apply Kd.R_drewN | apply Kd.R_drew)); exact O3.out) hb); have n4_ := Aside0.mk (Kd.R_elder' (by (with_reducible repeat (first | apply Kd.R_alloc | apply Kd.R_drewN | apply Kd.R_drew)); exact O4.out) (Kd.R_base ho0) hb); have n5_ := Aside0.mk (Kd.R_lower (Kd.R_new' ho0 (Kd.R_lt (by (with_reducible repeat (first | apply Kd.R_alloc | apply Kd.R_drewN | apply Kd.R_drew)); exact O4.out))) (below_size (by repeat (first | (with_reducible first | exact HB.out | apply below_alloc | apply pw_below_drewN | apply below_drew1 | refine below_set ?_ E0.out) | exact HB.out)))); have n6_ := Aside0.mk (blk_below (g := g0) (o := .cells #[.int .i64 t250, .int .i64 t251, .slice Ao27 t252.length co27, .slice Ao28 t255.length co28, .slice Ao29 t258.length co29, .slice Ao30 t261.length co30, .int .i64 t264] 29 (0, 0)) (by (with_reducible repeat (first | refine blk_drewN ?_ _ | refine blk_drew ?_ | refine blk_alloc ?_ _)); exact K0.out) hb); have n7_ := Aside0.mk (below_step (by repeat (first | (with_reducible first | exact HB.out | apply below_alloc | apply pw_below_drewN | apply below_drew1 | refine below_set ?_ E0.out) | exact HB.out)) hb); clear O0; clear O1; clear O2; clear O3; clear O4; clear K0; clear HB; have O0 := n0_; have O1 := n1_; have O2 := n2_; have O3 := n3_; have O4 := n4_; have O5 := n5_; have K0 := n6_; have HB := n7_; clear n0_ n1_ n2_ n3_ n4_ n5_ n6_ n7_; (try clear hb); (try clear hb2); (try clear hk); (try clear hi); (try clear ho0)) | ((with_reducible refine gate_dst (N := 32) rfl ?_); (try (refine gate_guard (by rfl) ?_; dsimp only)); refine Kd.R_lit k50 _ 50 ?hg (N := 32) ?hd (xs := ([(⟨(⟨0, 0, 17, 0, 0⟩ : S48), 0, false, 0, 0⟩ : S50)] : List (S50))) (inner := [.int .i64 0, .int .i64 0, .int .i64 17, .int .i64 0, .int .i64 0, .int .i64 0, .bool false, .int .i64 0, .int .i64 0]) (ok := fun _ => True) (okp := fun _ => True) ?hr ?hp (fun _ hk => hk) trivial (Below.refl _ _) (Nat.le_refl _) (by simp) ?_; (case hd => rfl); (case hg => rfl); (case hr => first | (go_simp; done) | (go_simp; rfl)); (case hp => exact (Reps.c9 (show Kd.M k50 _ _ _ (⟨(⟨0, 0, 17, 0, 0⟩ : S48), 0, false, 0, 0⟩ : S50) [.int .i64 0, .int .i64 0, .int .i64 17, .int .i64 0, .int .i64 0, .int .i64 0, .bool false, .int .i64 0, .int .i64 0] from (k50_mkM _ _ _ (⟨(⟨0, 0, 17, 0, 0⟩ : S48), 0, false, 0, 0⟩ : S50) )) (Reps.none _ _))); intro v277 w36 ho37 hb hg_ hnew_; clear hg_ hnew_; (first | rw [← Ny276.out] at ho37 | (simp only [Int.reduceToNat] at ho37; rw [← Ny276.out] at ho37)); have n0_ := Aside0.mk (Kd.N_elder' (by (with_reducible repeat (first | apply Kd.N_alloc | apply Kd.N_drewN | apply Kd.N_drew)); exact O0.out) (Kd.R_base ho37) hb); have n1_ := Aside0.mk (Kd.R_below (by (with_reducible repeat (first | apply Kd.R_alloc | apply Kd.R_drewN | apply Kd.R_drew)); exact O1.out) hb); have n2_ := Aside0.mk (Kd.R_below (by (with_reducible repeat (first | apply Kd.R_alloc | apply Kd.R_drewN | apply Kd.R_drew)); exact O2.out) hb); have n3_ := Aside0.mk (Kd.R_elder' (by (with_reducible repeat (first | apply Kd.R_alloc | apply Kd.R_drewN | apply Kd.R_drew)); exact O3.out) (Kd.R_base ho37) hb); have n4_ := Aside0.mk (Kd.R_below (by (with_reducible repeat (first | apply Kd.R_alloc | apply Kd.R_drewN | apply Kd.R_drew)); exact O4.out) hb); have n5_ := Aside0.mk (Kd.R_below (by (with_reducible repeat (first | apply Kd.R_alloc | apply Kd.R_drewN | apply Kd.R_drew)); exact O5.out) hb); have n6_ := Aside0.mk (Kd.R_lower (Kd.R_new' ho37 (Kd.R_lt (by (with_reducible repeat (first | apply Kd.R_alloc | apply Kd.R_drewN | apply Kd.R_drew)); exact O3.out))) (below_size (by repeat (first | (with_reducible first | exact HB.out | apply below_alloc | apply pw_below_drewN | apply below_drew1 | refine below_set ?_ E0.out) | exact HB.out)))); have n7_ := Aside0.mk (blk_below (g := g0) (o := .cells #[.int .i64 t250, .int .i64 t251, .slice Ao27 t252.length co27, .slice Ao28 t255.length co28, .slice Ao29 t258.length co29, .slice Ao30 t261.length co30, .int .i64 t264] 29 (0, 0)) (by (with_reducible repeat (first | refine blk_drewN ?_ _ | refine blk_drew ?_ | refine blk_alloc ?_ _)); exact K0.out) hb); have n8_ := Aside0.mk (below_step (by repeat (first | (with_reducible first | exact HB.out | apply below_alloc | apply pw_below_drewN | apply below_drew1 | refine below_set ?_ E0.out) | exact HB.out)) hb); clear O0; clear O1; clear O2; clear O3; clear O4; clear O5; clear K0; clear HB; have O0 := n0_; have O1 := n1_; have O2 := n2_; have O3 := n3_; have O4 := n4_; have O5 := n5_; have O6 := n6_; have K0 := n7_; have HB := n8_; clear n0_ n1_ n2_ n3_ n4_ n5_ n6_ n7_ n8_; clear hb ho37; obtain ⟨Ao38, co38, eo38⟩ := Kd.R_slice O6.out; subst eo38; have hcz39_0 : w36.cell? ⟨g0, 0, none⟩ = some (.int .i64 t250) := (blk_cell K0.out 0).trans rfl; have hcz39_1 : w36.cell? ⟨g0, 1, none⟩ = some (.int .i64 t251) := (blk_cell K0.out 1).trans rfl; have hcz39_2 : w36.cell? ⟨g0, 2, none⟩ = some (.slice Ao27 t252.length co27) := (blk_cell K0.out 2).trans rfl; have hcz39_3 : w36.cell? ⟨g0, 3, none⟩ = some (.slice Ao28 t255.length co28) := (blk_cell K0.out 3).trans rfl; have hcz39_4 : w36.cell? ⟨g0, 4, none⟩ = some (.slice Ao29 t258.length co29) := (blk_cell K0.out 4).trans rfl; have hcz39_5 : w36.cell? ⟨g0, 5, none⟩ = some (.slice Ao30 t261.length co30) := (blk_cell K0.out 5).trans rfl; have hcz39_6 : w36.cell? ⟨g0, 6, none⟩ = some (.int .i64 t264) := (blk_cell K0.out 6).trans rfl; have hfz39_0 := blk_frozen K0.out 0; have hfz39_1 := blk_frozen K0.out 1; have hfz39_2 := blk_frozen K0.out 2; have hfz39_3 := blk_frozen K0.out 3; have hfz39_4 := blk_frozen K0.out 4; have hfz39_5 := blk_frozen K0.out 5; have hfz39_6 := blk_frozen K0.out 6) | ((with_reducible refine gate_callee (f := 6) rfl ?_); refine goesL_ (some 36) rfl rfl Try.func6 (by kernel_rfl) rfl #[.agg #[.int .i64 t250, .int .i64 t251, .slice Ao27 t252.length co27, .slice Ao28 t255.length co28, .slice Ao29 t258.length co29, .slice Ao38 y276.length co38, .int .i64 t264]] rfl (by (try simp only [List.map_toArray, List.map_cons, List.map_nil]); first | done | rfl | (simp only [List.length_drop, List.length_take]; rfl)) ?_; (with_reducible refine (spare_Full.calls k t250 t251 _ _ t252 _ _ t255 _ _ t258 _ _ y276 t264 true t280 _ ?side1 ?side2 ?side3 ?side4 ?side5 ?side6 ?side7 ?side8 A5.out).mono ?_); (case side1 => refine (Kd.N_reads' (e := 53) (base := w.heap.size) (ok := fun k_ => (((((some k_ ≠ (.slice Ao28 t255.length co28 : Value).ownBlock ∧ (some k_ ≠ (.slice Ao29 t258.length co29 : Value).ownBlock ∧ some k_ ≠ (.slice Ao30 t261.length co30 : Value).ownBlock)) ∧ k_ ≠ g0) ∧ some k_ ≠ (v269 : Value).ownBlock) ∧ some k_ ≠ (v273 : Value).ownBlock) ∧ some k_ ≠ (.slice Ao38 y276.length co38 : Value).ownBlock)) (n := t252.length) (c := co27) ?_).2.2; exact (by (with_reducible repeat (first | apply Kd.N_alloc | apply Kd.N_drewN | apply Kd.N_drew)); exact (Kd.N_mono (Kd.N_far (p := ⟨g0, 5, none⟩) (Kd.N_mono O0.out (fun k_ hk => (⟨hk, hk.1.1.1.2⟩ : _ ∧ k_ ≠ g0))) (fun _ hk => hk.2) (.slice Ao38 y276.length co38)) (fun _ h_ => h_.1)))); (case side2 => exact (Kd.N_reads' O0.out).2.1); (case side3 => refine (Kd.R_reads' (e := 86) (base := w.heap.size) (ok := fun k_ => True) (n := t255.length) (c := co28) ?_).2.2; exact (by (with_reducible repeat (first | apply Kd.R_alloc | apply Kd.R_drewN | apply Kd.R_drew)); exact (Kd.R_mono (Kd.R_far (p := ⟨g0, 5, none⟩) (Kd.R_types O1.out K0.out (by decide)) (fun _ hk => hk.2) (.slice Ao38 y276.length co38)) (fun _ h_ => h_.1)))); (case side4 => exact (Kd.R_reads' O1.out).2.1); (case side5 => refine (Kd.R_reads' (e := 91) (base := w.heap.size) (ok := fun k_ => True) (n := t258.length) (c := co29) ?_).2.2; exact (by (with_reducible repeat (first | apply Kd.R_alloc | apply Kd.R_drewN | apply Kd.R_drew)); exact (Kd.R_mono (Kd.R_far (p := ⟨g0, 5, none⟩) (Kd.R_types O2.out K0.out (by decide)) (fun _ hk => hk.2) (.slice Ao38 y276.length co38)) (fun _ h_ => h_.1)))); (case side6 => exact (Kd.R_reads' O2.out).2.1); (case side7 => refine (Kd.R_reads' (e := 50) (base := w.heap.size) (ok := fun k_ => (True ∧ some k_ ≠ (.slice Ao30 t261.length co30 : Value).ownBlock)) (n := y276.length) (c := co38) ?_).2.2; exact (by (with_reducible repeat (first | apply Kd.R_alloc | apply Kd.R_drewN | apply Kd.R_drew)); exact (Kd.R_mono (Kd.R_far (p := ⟨g0, 5, none⟩) (Kd.R_types O6.out K0.out (by decide)) (fun _ hk => hk.2) (.slice Ao38 y276.length co38)) (fun _ h_ => h_.1)))); (case side8 => exact (Kd.R_reads' O6.out).2.1); rintro e w40 ⟨rfl, hb⟩; refine ⟨_, rfl, ?_⟩; have n0_ := Aside0.mk (Kd.N_below (by (with_reducible repeat (first | apply Kd.N_alloc | apply Kd.N_drewN | apply Kd.N_drew)); exact (Kd.N_mono (Kd.N_far (p := ⟨g0, 5, none⟩) (Kd.N_mono O0.out (fun k_ hk => (⟨hk, hk.1.1.1.2⟩ : _ ∧ k_ ≠ g0))) (fun _ hk => hk.2) (.slice Ao38 y276.length co38)) (fun _ h_ => h_.1))) hb); have n1_ := Aside0.mk (Kd.R_below (by (with_reducible repeat (first | apply Kd.R_alloc | apply Kd.R_drewN | apply Kd.R_drew)); exact (Kd.R_mono (Kd.R_far (p := ⟨g0, 5, none⟩) (Kd.R_types O1.out K0.out (by decide)) (fun _ hk => hk.2) (.slice Ao38 y276.length co38)) (fun _ h_ => h_.1))) hb); have n2_ := Aside0.mk (Kd.R_below (by (with_reducible repeat (first | apply Kd.R_alloc | apply Kd.R_drewN | apply Kd.R_drew)); exact (Kd.R_mono (Kd.R_far (p := ⟨g0, 5, none⟩) (Kd.R_types O2.out K0.out (by decide)) (fun _ hk => hk.2) (.slice Ao38 y276.length co38)) (fun _ h_ => h_.1))) hb); have n3_ := Aside0.mk (Kd.R_below (by (with_reducible repeat (first | apply Kd.R_alloc | apply Kd.R_drewN | apply Kd.R_drew)); exact (Kd.R_mono (Kd.R_far (p := ⟨g0, 5, none⟩) (Kd.R_types O3.out K0.out (by decide)) (fun _ hk => hk.2) (.slice Ao38 y276.length co38)) (fun _ h_ => h_.1))) hb); have n4_ := Aside0.mk (Kd.R_below (by (with_reducible repeat (first | apply Kd.R_alloc | apply Kd.R_drewN | apply Kd.R_drew)); exact (Kd.R_mono (Kd.R_far (p := ⟨g0, 5, none⟩) (Kd.R_types O4.out K0.out (by decide)) (fun _ hk => hk.2) (.slice Ao38 y276.length co38)) (fun _ h_ => h_.1))) hb); have n5_ := Aside0.mk (Kd.R_below (by (with_reducible repeat (first | apply Kd.R_alloc | apply Kd.R_drewN | apply Kd.R_drew)); exact (Kd.R_mono (Kd.R_far (p := ⟨g0, 5, none⟩) (Kd.R_types O5.out K0.out (by decide)) (fun _ hk => hk.2) (.slice Ao38 y276.length co38)) (fun _ h_ => h_.1))) hb); have n6_ := Aside0.mk (Kd.R_below (by (with_reducible repeat (first | apply Kd.R_alloc | apply Kd.R_drewN | apply Kd.R_drew)); exact (Kd.R_mono (Kd.R_far (p := ⟨g0, 5, none⟩) (Kd.R_types O6.out K0.out (by decide)) (fun _ hk => hk.2) (.slice Ao38 y276.length co38)) (fun _ h_ => h_.1))) hb); have n7_ := Aside0.mk (blk_below (g := g0) (o := .cells #[.int .i64 t250, .int .i64 t251, .slice Ao27 t252.length co27, .slice Ao28 t255.length co28, .slice Ao29 t258.length co29, .slice Ao38 y276.length co38, .int .i64 t264] 29 (0, 0)) (by (with_reducible repeat (first | refine blk_drewN ?_ _ | refine blk_drew ?_ | refine blk_alloc ?_ _)); refine blk_put (cs := #[.int .i64 t250, .int .i64 t251, .slice Ao27 t252.length co27, .slice Ao28 t255.length co28, .slice Ao29 t258.length co29, .slice Ao30 t261.length co30, .int .i64 t264]) ?_ 5 _ rfl; (with_reducible repeat (first | refine blk_drewN ?_ _ | refine blk_drew ?_ | refine blk_alloc ?_ _)); exact K0.out) hb); have n8_ := Aside0.mk (below_step (by repeat (first | (with_reducible first | exact HB.out | apply below_alloc | apply pw_below_drewN | apply below_drew1 | refine below_set ?_ E0.out) | exact HB.out)) hb); clear O0; clear O1; clear O2; clear O3; clear O4; clear O5; clear O6; clear K0; clear HB; have O0 := n0_; have O1 := n1_; have O2 := n2_; have O3 := n3_; have O4 := n4_; have O5 := n5_; have O6 := n6_; have K0 := n7_; have HB := n8_; clear n0_ n1_ n2_ n3_ n4_ n5_ n6_ n7_ n8_; (try clear hb); (try clear hb2); (try clear hk); (try clear hi)) | ((with_reducible refine gate_callee (f := 6) rfl ?_); refine goesL_ (some 41) rfl rfl Try.func6 (by kernel_rfl) rfl #[.agg #[.int .i64 0, .int .i64 0, .slice none 0 0, .slice none 0 0, .slice none 0 0, .slice none 0 0, .int .i64 0]] rfl (by (try simp only [List.map_toArray, List.map_cons, List.map_nil]); first | done | rfl | (simp only [List.length_drop, List.length_take]; rfl)) ?_; (refine (spare_Full.calls k 0 0 _ _ ([] : List (S53)) _ _ ([] : List (S86)) _ _ ([] : List (S91)) _ _ ([] : List (S50)) 0 t281 t282 _ ?side1 ?side2 ?side3 ?side4 ?side5 ?side6 ?side7 ?side8 A6.out).mono ?_); (case side1 => exact Kd.C_nil _ _); (case side2 => exact Nat.le_refl _); (case side3 => exact Kd.C_nil _ _); (case side4 => exact Nat.le_refl _); (case side5 => exact Kd.C_nil _ _); (case side6 => exact Nat.le_refl _); (case side7 => exact Kd.C_nil _ _); (case side8 => exact Nat.le_refl _); rintro e w41 ⟨rfl, hb⟩; refine ⟨_, rfl, ?_⟩; have n0_ := Aside0.mk (Kd.N_below (by (with_reducible repeat (first | apply Kd.N_alloc | apply Kd.N_drewN | apply Kd.N_drew)); exact O0.out) hb); have n1_ := Aside0.mk (Kd.R_below (by (with_reducible repeat (first | apply Kd.R_alloc | apply Kd.R_drewN | apply Kd.R_drew)); exact O1.out) hb); have n2_ := Aside0.mk (Kd.R_below (by (with_reducible repeat (first | apply Kd.R_alloc | apply Kd.R_drewN | apply Kd.R_drew)); exact O2.out) hb); have n3_ := Aside0.mk (Kd.R_below (by (with_reducible repeat (first | apply Kd.R_alloc | apply Kd.R_drewN | apply Kd.R_drew)); exact O3.out) hb); have n4_ := Aside0.mk (Kd.R_below (by (with_reducible repeat (first | apply Kd.R_alloc | apply Kd.R_drewN | apply Kd.R_drew)); exact O4.out) hb); have n5_ := Aside0.mk (Kd.R_below (by (with_reducible repeat (first | apply Kd.R_alloc | apply Kd.R_drewN | apply Kd.R_drew)); exact O5.out) hb); have n6_ := Aside0.mk (Kd.R_below (by (with_reducible repeat (first | apply Kd.R_alloc | apply Kd.R_drewN | apply Kd.R_drew)); exact O6.out) hb); have n7_ := Aside0.mk (blk_below (g := g0) (o := .cells #[.int .i64 t250, .int .i64 t251, .slice Ao27 t252.length co27, .slice Ao28 t255.length co28, .slice Ao29 t258.length co29, .slice Ao38 y276.length co38, .int .i64 t264] 29 (0, 0)) (by (with_reducible repeat (first | refine blk_drewN ?_ _ | refine blk_drew ?_ | refine blk_alloc ?_ _)); exact K0.out) hb); have n8_ := Aside0.mk (below_step (by repeat (first | (with_reducible first | exact HB.out | apply below_alloc | apply pw_below_drewN | apply below_drew1 | refine below_set ?_ E0.out) | exact HB.out)) hb); clear O0; clear O1; clear O2; clear O3; clear O4; clear O5; clear O6; clear K0; clear HB; have O0 := n0_; have O1 := n1_; have O2 := n2_; have O3 := n3_; have O4 := n4_; have O5 := n5_; have O6 := n6_; have K0 := n7_; have HB := n8_; clear n0_ n1_ n2_ n3_ n4_ n5_ n6_ n7_ n8_; (try clear hb); (try clear hb2); (try clear hk); (try clear hi); have hcz42_0 : w41.cell? ⟨g0, 0, none⟩ = some (.int .i64 t250) := (blk_cell K0.out 0).trans rfl; have hcz42_1 : w41.cell? ⟨g0, 1, none⟩ = some (.int .i64 t251) := (blk_cell K0.out 1).trans rfl; have hcz42_2 : w41.cell? ⟨g0, 2, none⟩ = some (.slice Ao27 t252.length co27) := (blk_cell K0.out 2).trans rfl; have hcz42_3 : w41.cell? ⟨g0, 3, none⟩ = some (.slice Ao28 t255.length co28) := (blk_cell K0.out 3).trans rfl; have hcz42_4 : w41.cell? ⟨g0, 4, none⟩ = some (.slice Ao29 t258.length co29) := (blk_cell K0.out 4).trans rfl; have hcz42_5 : w41.cell? ⟨g0, 5, none⟩ = some (.slice Ao38 y276.length co38) := (blk_cell K0.out 5).trans rfl; have hcz42_6 : w41.cell? ⟨g0, 6, none⟩ = some (.int .i64 t264) := (blk_cell K0.out 6).trans rfl; have hfz42_0 := blk_frozen K0.out 0; have hfz42_1 := blk_frozen K0.out 1; have hfz42_2 := blk_frozen K0.out 2; have hfz42_3 := blk_frozen K0.out 3; have hfz42_4 := blk_frozen K0.out 4; have hfz42_5 := blk_frozen K0.out 5; have hfz42_6 := blk_frozen K0.out 6) | ((with_reducible refine gate_callee (f := 8) rfl ?_); refine goesL_ (some 46) rfl rfl Try.func8 (by kernel_rfl) rfl #[.agg #[.int .i64 t250, .int .i64 t251, .slice Ao27 t252.length co27, .slice Ao28 t255.length co28, .slice Ao29 t258.length co29, .slice Ao38 y276.length co38, .int .i64 t264], .int .i64 (-1)] rfl (by (try simp only [List.map_toArray, List.map_cons, List.map_nil]); first | done | rfl | (simp only [List.length_drop, List.length_take]; rfl)) ?_; (with_reducible refine (spare_Targets.calls k t250 t251 _ _ t252 _ _ t255 _ _ t258 _ _ y276 t264 (-1) t283 t286 _ ?side1 ?side2 ?side3 ?side4 ?side5 ?side6 ?side7 ?side8 A7.out).mono ?_); (case side1 => repeat (first | exact (Kd.N_reads' O0.out).2.2 | (with_reducible refine Kd.C_alloc ?_ _) | (with_reducible refine Kd.C_drewN ?_ _) | (with_reducible refine Kd.C_drew ?_))); (case side2 => exact (Kd.N_reads' O0.out).2.1); (case side3 => repeat (first | exact (Kd.R_reads' O1.out).2.2 | (with_reducible refine Kd.C_alloc ?_ _) | (with_reducible refine Kd.C_drewN ?_ _) | (with_reducible refine Kd.C_drew ?_))); (case side4 => exact (Kd.R_reads' O1.out).2.1); (case side5 => repeat (first | exact (Kd.R_reads' O2.out).2.2 | (with_reducible refine Kd.C_alloc ?_ _) | (with_reducible refine Kd.C_drewN ?_ _) | (with_reducible refine Kd.C_drew ?_))); (case side6 => exact (Kd.R_reads' O2.out).2.1); (case side7 => repeat (first | exact (Kd.R_reads' O6.out).2.2 | (with_reducible refine Kd.C_alloc ?_ _) | (with_reducible refine Kd.C_drewN ?_ _) | (with_reducible refine Kd.C_drew ?_))); (case side8 => exact (Kd.R_reads' O6.out).2.1); rintro e w43 ⟨v284, rfl, ho0, hb⟩; refine ⟨_, rfl, ?_⟩; have n0_ := Aside0.mk (Kd.N_elder' (by (with_reducible repeat (first | apply Kd.N_alloc | apply Kd.N_drewN | apply Kd.N_drew)); exact O0.out) (Kd.R_base ho0) hb); have n1_ := Aside0.mk (Kd.R_below (by (with_reducible repeat (first | apply Kd.R_alloc | apply Kd.R_drewN | apply Kd.R_drew)); exact O1.out) hb); have n2_ := Aside0.mk (Kd.R_below (by (with_reducible repeat (first | apply Kd.R_alloc | apply Kd.R_drewN | apply Kd.R_drew)); exact O2.out) hb); have n3_ := Aside0.mk (Kd.R_below (by (with_reducible repeat (first | apply Kd.R_alloc | apply Kd.R_drewN | apply Kd.R_drew)); exact O3.out) hb); have n4_ := Aside0.mk (Kd.R_elder' (by (with_reducible repeat (first | apply Kd.R_alloc | apply Kd.R_drewN | apply Kd.R_drew)); exact O4.out) (Kd.R_base ho0) hb); have n5_ := Aside0.mk (Kd.R_elder' (by (with_reducible repeat (first | apply Kd.R_alloc | apply Kd.R_drewN | apply Kd.R_drew)); exact O5.out) (Kd.R_base ho0) hb); have n6_ := Aside0.mk (Kd.R_below (by (with_reducible repeat (first | apply Kd.R_alloc | apply Kd.R_drewN | apply Kd.R_drew)); exact O6.out) hb); have n7_ := Aside0.mk (Kd.R_lower (Kd.R_new' (Kd.R_new' ho0 (Kd.R_lt (by (with_reducible repeat (first | apply Kd.R_alloc | apply Kd.R_drewN | apply Kd.R_drew)); exact O4.out))) (Kd.R_lt (by (with_reducible repeat (first | apply Kd.R_alloc | apply Kd.R_drewN | apply Kd.R_drew)); exact O5.out))) (below_size (by repeat (first | (with_reducible first | exact HB.out | apply below_alloc | apply pw_below_drewN | apply below_drew1 | refine below_set ?_ E0.out) | exact HB.out)))); have n8_ := Aside0.mk (blk_below (g := g0) (o := .cells #[.int .i64 t250, .int .i64 t251, .slice Ao27 t252.length co27, .slice Ao28 t255.length co28, .slice Ao29 t258.length co29, .slice Ao38 y276.length co38, .int .i64 t264] 29 (0, 0)) (by (with_reducible repeat (first | refine blk_drewN ?_ _ | refine blk_drew ?_ | refine blk_alloc ?_ _)); exact K0.out) hb); have n9_ := Aside0.mk (below_step (by repeat (first | (with_reducible first | exact HB.out | apply below_alloc | apply pw_below_drewN | apply below_drew1 | refine below_set ?_ E0.out) | exact HB.out)) hb); clear O0; clear O1; clear O2; clear O3; clear O4; clear O5; clear O6; clear K0; clear HB; have O0 := n0_; have O1 := n1_; have O2 := n2_; have O3 := n3_; have O4 := n4_; have O5 := n5_; have O6 := n6_; have O7 := n7_; have K0 := n8_; have HB := n9_; clear n0_ n1_ n2_ n3_ n4_ n5_ n6_ n7_ n8_ n9_; (try clear hb); (try clear hb2); (try clear hk); (try clear hi); (try clear ho0)) | (go_at_call 10; (with_reducible refine (wharfagelaw0_Num.calls t267 t287 _ A9.out).mono ?_); rintro e w' ⟨rfl, ⟨nd, rfl⟩⟩) | ((with_reducible refine gate_dst (N := 59) rfl ?_); (try (refine gate_guard (by rfl) ?_; dsimp only)); refine Kd.R_lit k70 _ 70 ?hg (N := 59) ?hd (xs := ([(⟨1, 3⟩ : S70)] : List (S70))) (inner := [.int .i64 1, .int .i64 3]) (ok := fun _ => True) (okp := fun _ => True) ?hr ?hp (fun _ hk => hk) trivial (Below.refl _ _) (Nat.le_refl _) (by simp) ?_; (case hd => rfl); (case hg => rfl); (case hr => first | (go_simp; done) | (go_simp; rfl)); (case hp => exact (Reps.c2 (show Kd.M k70 _ _ _ (⟨1, 3⟩ : S70) [.int .i64 1, .int .i64 3] from (k70_mkM _ _ _ (⟨1, 3⟩ : S70) )) (Reps.none _ _))); intro v289 w44 ho45 hb hg_ hnew_; clear hg_ hnew_; (first | rw [← Ny288.out] at ho45 | (simp only [Int.reduceToNat] at ho45; rw [← Ny288.out] at ho45)); have n0_ := Aside0.mk (Kd.N_elder' (by (with_reducible repeat (first | apply Kd.N_alloc | apply Kd.N_drewN | apply Kd.N_drew)); exact O0.out) (Kd.R_base ho45) hb); have n1_ := Aside0.mk (Kd.R_below (by (with_reducible repeat (first | apply Kd.R_alloc | apply Kd.R_drewN | apply Kd.R_drew)); exact O1.out) hb); have n2_ := Aside0.mk (Kd.R_below (by (with_reducible repeat (first | apply Kd.R_alloc | apply Kd.R_drewN | apply Kd.R_drew)); exact O2.out) hb); have n3_ := Aside0.mk (Kd.R_below (by (with_reducible repeat (first | apply Kd.R_alloc | apply Kd.R_drewN | apply Kd.R_drew)); exact O3.out) hb); have n4_ := Aside0.mk (Kd.R_elder' (by (with_reducible repeat (first | apply Kd.R_alloc | apply Kd.R_drewN | apply Kd.R_drew)); exact O4.out) (Kd.R_base ho45) hb); have n5_ := Aside0.mk (Kd.R_elder' (by (with_reducible repeat (first | apply Kd.R_alloc | apply Kd.R_drewN | apply Kd.R_drew)); exact O5.out) (Kd.R_base ho45) hb); have n6_ := Aside0.mk (Kd.R_below (by (with_reducible repeat (first | apply Kd.R_alloc | apply Kd.R_drewN | apply Kd.R_drew)); exact O6.out) hb); have n7_ := Aside0.mk (Kd.R_elder' (by (with_reducible repeat (first | apply Kd.R_alloc | apply Kd.R_drewN | apply Kd.R_drew)); exact O7.out) (Kd.R_base ho45) hb); have n8_ := Aside0.mk (Kd.R_lower (Kd.R_new' (Kd.R_new' (Kd.R_new' ho45 (Kd.R_lt (by (with_reducible repeat (first | apply Kd.R_alloc | apply Kd.R_drewN | apply Kd.R_drew)); exact O4.out))) (Kd.R_lt (by (with_reducible repeat (first | apply Kd.R_alloc | apply Kd.R_drewN | apply Kd.R_drew)); exact O5.out))) (Kd.R_lt (by (with_reducible repeat (first | apply Kd.R_alloc | apply Kd.R_drewN | apply Kd.R_drew)); exact O7.out))) (below_size (by repeat (first | (with_reducible first | exact HB.out | apply below_alloc | apply pw_below_drewN | apply below_drew1 | refine below_set ?_ E0.out) | exact HB.out)))); have n9_ := Aside0.mk (blk_below (g := g0) (o := .cells #[.int .i64 t250, .int .i64 t251, .slice Ao27 t252.length co27, .slice Ao28 t255.length co28, .slice Ao29 t258.length co29, .slice Ao38 y276.length co38, .int .i64 t264] 29 (0, 0)) (by (with_reducible repeat (first | refine blk_drewN ?_ _ | refine blk_drew ?_ | refine blk_alloc ?_ _)); exact K0.out) hb); have n10_ := Aside0.mk (below_step (by repeat (first | (with_reducible first | exact HB.out | apply below_alloc | apply pw_below_drewN | apply below_drew1 | refine below_set ?_ E0.out) | exact HB.out)) hb); clear O0; clear O1; clear O2; clear O3; clear O4; clear O5; clear O6; clear O7; clear K0; clear HB; have O0 := n0_; have O1 := n1_; have O2 := n2_; have O3 := n3_; have O4 := n4_; have O5 := n5_; have O6 := n6_; have O7 := n7_; have O8 := n8_; have K0 := n9_; have HB := n10_; clear n0_ n1_ n2_ n3_ n4_ n5_ n6_ n7_ n8_ n9_ n10_; clear hb ho45; obtain ⟨Ao46, co46, eo46⟩ := Kd.R_slice O4.out; subst eo46; obtain ⟨Ao47, co47, eo47⟩ := Kd.R_slice O8.out; subst eo47) | (go_at_call 11; (with_reducible refine (wharfagelaw0_SameCandidates.calls k _ _ t268 _ _ y288 true _ ?side1 ?side2 ?side3 ?side4 A11.out).mono ?_); (case side1 => repeat (first | exact (Kd.R_reads' O4.out).2.2 | (with_reducible refine Kd.C_alloc ?_ _) | (with_reducible refine Kd.C_drewN ?_ _) | (with_reducible refine Kd.C_drew ?_))); (case side2 => exact (Kd.R_reads' O4.out).2.1); (case side3 => repeat (first | exact (Kd.R_reads' O8.out).2.2 | (with_reducible refine Kd.C_alloc ?_ _) | (with_reducible refine Kd.C_drewN ?_ _) | (with_reducible refine Kd.C_drew ?_))); (case side4 => exact (Kd.R_reads' O8.out).2.1); rintro e w' ⟨rfl, ⟨nd, rfl⟩⟩) | (go_at_call 10; (with_reducible refine (wharfagelaw0_Num.calls t271 t292 _ A13.out).mono ?_); rintro e w' ⟨rfl, ⟨nd, rfl⟩⟩; obtain ⟨Ao48, co48, eo48⟩ := Kd.R_slice O5.out; subst eo48) | (go_at_call 10; (with_reducible refine (wharfagelaw0_Num.calls t275 t293 _ A16.out).mono ?_); rintro e w' ⟨rfl, ⟨nd, rfl⟩⟩) | (go_at_call 10; (with_reducible refine (wharfagelaw0_Num.calls t280 t294 _ A19.out).mono ?_); rintro e w' ⟨rfl, ⟨nd, rfl⟩⟩) | (go_at_call 10; (with_reducible refine (wharfagelaw0_Num.calls t282 t295 _ A21.out).mono ?_); rintro e w' ⟨rfl, ⟨nd, rfl⟩⟩) | (go_at_call 10; (with_reducible refine (wharfagelaw0_Num.calls t286 t296 _ A23.out).mono ?_); rintro e w' ⟨rfl, ⟨nd, rfl⟩⟩))
          go_ret
          exact ⟨by first | rfl | (simp [errW_none, errW_some] <;> rfl) | (simp [*, errW_none, errW_some] <;> rfl), by repeat (first | (with_reducible first | exact HB.out | apply below_alloc | apply pw_below_drewN | apply below_drew1 | refine below_set ?_ E0.out) | exact HB.out)⟩
         ·rw [if_neg c22] at H
          exact absurd H (by simp)
        ·rw [if_neg c20] at H
         exact absurd H (by simp)
       ·replace c18 := Bool.eq_false_iff.mpr c18
        subst c18
        have H1 : (none) = some r := by rw [if_neg (show ¬ (false = true) by decide)] at H; exact H
        clear H
        have H := H1
        clear H1
        exact absurd H (by simp)
      ·rw [if_neg c17] at H
       exact absurd H (by simp)
     ·rw [if_neg c15] at H
      exact absurd H (by simp)
    ·rw [if_neg c14] at H
     exact absurd H (by simp)
   ·replace c12 := Bool.eq_false_iff.mpr c12
    subst c12
    have H1 : (none) = some r := by rw [if_neg (show ¬ (false = true) by decide)] at H; exact H
    clear H
    have H := H1
    clear H1
    exact absurd H (by simp)
  ·rw [if_neg c10] at H
   exact absurd H (by simp)

end Go.Proofs.Ytlapbhgkmmeeoaa.PSpares
end
