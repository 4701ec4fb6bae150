/- Contracts: what calls of these functions of the program do, each as a plain function; written by a program of this session. -/
import Derived.Test.YtlapbhgkmmeeoaaPSpareRoomx0
import Derived.Test.YtlapbhgkmmeeoaaPSpareRoomx5
import Derived.Test.YtlapbhgkmmeeoaaPSpareRoomx6
import Derived.Test.YtlapbhgkmmeeoaaPSpareRoomx8
import Derived.Test.YtlapbhgkmmeeoaaPSpareRoomx9
import Derived.Test.YtlapbhgkmmeeoaaPSpareRoomx16
import Derived.Test.YtlapbhgkmmeeoaaPSpareRoomx17
namespace Go.Proofs.Ytlapbhgkmmeeoaa.PSpareRoom
open Go.RowKit Go.Proofs.YtlapbhgkmmeeoaaW.PrintWords Go.Proofs.YtlapbhgkmmeeoaaW.PrintLast Go.Proofs.YtlapbhgkmmeeoaaW.PrintMore
attribute [local go_sem] max2_int min2_int max_two min_two max_three min_three max_four min_four   -- for this text's walks alone
set_option linter.unusedVariables false
set_option linter.unusedSimpArgs false

/-! ### cand_Backs: function 18, by hand -/
def mayC (v : Int) (l : List S53) : Bool := l.all siteOk && decide (0 ≤ v ∧ v ≤ 1048576) && decide (l.length ≤ 3)
def allB (l : List S86) (n : Int) : Bool := l.all (fun h => healthOk h.f0 h.f1) && (l.length : Int) == n
def addOne (out : List S70) (i : Int) (b : S83) (h : S86) : List S70 := if h.f0 = true ∧ b.f1 = false ∧ 0 < b.f0 then out ++ [⟨i, b.f0⟩] else out
def picked (bs : List S83) (hs : List S86) : Nat → List S70
  | 0 => []
  | i + 1 => addOne (picked bs hs i) (i : Int) (rd_T83 bs (i : Int)) (rd_T86 hs (i : Int))
def cand_Backs.ok (a0_0 : Int) (l0_1 : List S53) (a1 : Int) (l1 : List S86) : Bool := mayC a0_0 l0_1 && (allB l1 4 && decide (0 ≤ a1 ∧ a1 < (l0_1.length : Int)))
def cand_Backs.f (a0_0 : Int) (l0_1 : List S53) (a1 : Int) (l1 : List S86) : Option (List S70 × Int) := some (if cand_Backs.ok a0_0 l0_1 a1 l1 = true then (picked (rd_T53 l0_1 a1).f3 l1 (rd_T53 l0_1 a1).f3.length, 0) else ([], 1300))
theorem picked_len (bs : List S83) (hs : List S86) (i : Nat) : (picked bs hs i).length ≤ i := by
  induction i with
  | zero => exact Nat.le_refl _
  | succ i ih =>
    unfold picked addOne
    split
    · rw [List.length_append]; simp; omega
    · omega
theorem add_one (out : List S70) (i : Int) (b : S83) (h : S86) (hl : out.length < 8796093022208) : cand_add.f out i b.f0 b.f1 h.f0 h.f1 = some (addOne out i b h) := by
  unfold cand_add.f addOne
  cases h.f0 <;> cases b.f1 <;> by_cases hb : b.f0 ≤ 0
  all_goals first
    | (simp [hb, hl]; try omega)
    | (have h2 : 0 < b.f0 := by omega
       simp [h2, hl, show ¬ b.f0 ≤ 0 by omega])
theorem all_loop (x0 l : List S86) (n : Int) (hl : l.length ≤ 9223372036854775807) (d : Nat) : ∀ (k i : Nat), l.length - i ≤ d → d < k → i ≤ l.length → health_All.l0 k x0 n l (l.length : Int) (i : Int) = some ((l.drop i).all (fun h => healthOk h.f0 h.f1) && (x0.length : Int) == n) := by
  induction d with
  | zero =>
    intro k i hd hk hi
    obtain ⟨k, rfl⟩ : ∃ m, k = m + 1 := ⟨k - 1, by omega⟩
    simp only [health_All.l0]
    rw [if_neg (by omega), List.drop_of_length_le (by omega)]; rfl
  | succ d ih =>
    intro k i hd hk hi
    obtain ⟨k, rfl⟩ : ∃ m, k = m + 1 := ⟨k - 1, by omega⟩
    simp only [health_All.l0]
    by_cases h : (i : Int) < (l.length : Int)
    · have hlt : i < l.length := by omega
      have e : rd_T86 l (i : Int) = l[i] := by simp [rd_T86, hlt]
      rw [if_pos h, if_pos (show (0 : Int) ≤ (i : Int) by omega), if_pos h, e, List.drop_eq_getElem_cons hlt, List.all_cons, show wrap64 ((i : Int) + 1) = (i : Int) + 1 by unfold wrap64; omega]
      unfold health_May.f
      cases hh : healthOk l[i].f0 l[i].f1
      · simp
      · simp only [Option.bind_some, if_true, Bool.true_and]
        exact ih k (i + 1) (by omega) (by omega) (by omega)
    · rw [if_neg h, List.drop_of_length_le (by omega)]; rfl
theorem all_f (l : List S86) (n : Int) (hl : l.length ≤ 9223372036854775807) : health_All.f (l.length + 2) l n = some (allB l n) := by
  have := all_loop l l n hl l.length (l.length + 2) 0 (by omega) (by omega) (by omega)
  exact this
set_option maxHeartbeats 8000000 in
set_option maxRecDepth 100000 in
theorem cand_Backs.calls (a0_0 : Int) (A0_1 : Option Addr) (c0_1 : Nat) (l0_1 : List S53) (a1 : Int) (A1 : Option Addr) (c1 : Nat) (l1 : List S86) (r1 : List S70) (r2 : Int) (w : World) (hr0_1 : Kd.C k53 w A0_1 l0_1.length l0_1) (hc0_1 : l0_1.length ≤ c0_1) (hr1 : Kd.C k86 w A1 l1.length l1) (hc1 : l1.length ≤ c1) (h : cand_Backs.f a0_0 l0_1 a1 l1 = some (r1, r2)) :
    Calls Try.prog 18 #[.agg #[.int .i64 a0_0, .slice A0_1 l0_1.length c0_1], .int .i64 a1, .slice A1 l1.length c1] w fun e w' => ∃ v0_ : Value, e = .returned (.tuple #[v0_, .int .i64 r2]) ∧ Kd.R k70 70 w' w.heap.size (fun _ => True) v0_ r1 ∧ Below w.heap.size w w' := by
  have H := Aside0.mk (Option.some.inj h)
  clear h
  have hl1 := hr1.2.1
  have hu := Try.underlying53
  have hu2 := Try.underlying24
  have hu3 := Try.underlying83
  have hu4 := Try.underlying86
  have hmay := Aside0.mk (fun (b : Bool) (hb : mayC a0_0 l0_1 = b) (W : World) (hW : Below w.heap.size w W) => conf_May.calls a0_0 A0_1 c0_1 l0_1 b W (Kd.C_below hr0_1 hW) hc0_1 (by unfold conf_May.f; rw [← hb]; rfl))
  have hall := Aside0.mk (fun (b : Bool) (hb : allB l1 4 = b) (W : World) (hW : Below w.heap.size w W) => health_All.calls (l1.length + 2) A1 c1 l1 4 b W (Kd.C_below hr1 hW) hc1 (by rw [all_f l1 4 (by omega), hb]))
  have hcc := Aside0.mk (fun (W : World) (hb : Below w.heap.size w W) => Kd.C_below hr0_1 hb)
  have hbb := Aside0.mk ((Below.refl w.heap.size w).alloc (Nat.le_refl _) (.cells #[.int .i64 a0_0, .slice A0_1 l0_1.length c0_1] 24))
  have hrow := Aside0.mk (fun (i : Nat) (h : i < l1.length) => at_T86 hr1 (i : Int) (by omega) (by omega))
  by_cases hin : 0 ≤ a1 ∧ a1 < (l0_1.length : Int)
  · obtain ⟨i, rfl⟩ := Int.eq_ofNat_of_zero_le hin.1
    have hi : i < l0_1.length := by omega
    obtain ⟨x, hx⟩ : ∃ x, l0_1[i]? = some x := ⟨l0_1[i], by simp [hi]⟩
    have er : rd_T53 l0_1 (i : Int) = x := by
      obtain ⟨_, hx'⟩ := List.getElem?_eq_some_iff.1 hx
      simp [rd_T53, hi, hx']
    have hxm : mayC a0_0 l0_1 = true → x.f3.length ≤ 4 := by
      intro hm
      unfold mayC at hm; simp only [Bool.and_eq_true, decide_eq_true_eq] at hm
      obtain ⟨_, hx'⟩ := List.getElem?_eq_some_iff.1 hx
      have := List.all_eq_true.1 hm.1.1 x (hx' ▸ List.getElem_mem hi)
      unfold siteOk at this; simp only [Bool.and_eq_true, decide_eq_true_eq] at this; exact this.2
    have HS := Aside0.mk (conf_Site.yes w.heap.size A0_1 c0_1 l0_1 i x hx)
    have HR := Aside0.mk (show (if (mayC a0_0 l0_1 && allB l1 4) = true then (picked x.f3 l1 x.f3.length, (0 : Int)) else ([], 1300)) = (r1, r2) by
      rw [← H.out]; unfold cand_Backs.ok; rw [decide_eq_true hin, Bool.and_true, er])
    clear hr0_1 hc0_1 er hin hi hx H hr1 hc1
    go_enter Try.func18, Try.ntmps18
    go_wp2_with fail
    refine (HS.out _ (by simp) (hcc.out _ hbb.out)).mono ?_
    rintro e w1 ⟨A3, c3, rfl, l3, g3, hb1⟩
    have b0 : w1.cell? ⟨w.heap.size, 0, none⟩ = some (.int .i64 a0_0) := (hb1.cell (p := ⟨w.heap.size, 0, none⟩) (by simp)).trans (by simp)
    have b1 : w1.cell? ⟨w.heap.size, 1, none⟩ = some (.slice A0_1 l0_1.length c0_1) := (hb1.cell (p := ⟨w.heap.size, 1, none⟩) (by simp)).trans (by simp)
    have hw1 := Aside0.mk (hbb.out.trans (hb1.mono (by simp)))
    have q0 : ∀ o, (w1.alloc o).cell? ⟨w.heap.size, 0, none⟩ = some (.int .i64 a0_0) := fun o => pw_cell_below ((Below.refl _ _).alloc (Nat.le_refl _) o) b0
    have q1 : ∀ o, (w1.alloc o).cell? ⟨w.heap.size, 1, none⟩ = some (.slice A0_1 l0_1.length c0_1) := fun o => pw_cell_below ((Below.refl _ _).alloc (Nat.le_refl _) o) b1
    have hs1 := Aside0.mk hw1.out.size
    have G3 := Aside0.mk (And.intro l3 (Kd.C_below g3 hb1))
    clear b0 b1 hb1 l3 g3
    have hR := Aside0.mk (fun W => Kd.R_nil k70 70 W w1.heap.size (fun _ => True))
    cases hm : mayC a0_0 l0_1
    · have HM := Aside0.mk hm
      clear hm hxm
      have e := HR.out
      rw [HM.out] at e
      injection e with e1 e2
      subst e1
      subst e2
      go_wp2_with first
        | (go_at_call 33; refine (hmay.out false HM.out _ (hw1.out.alloc hs1.out _)).mono ?_; rintro e w2 ⟨rfl, hb2⟩; have hw2 := Aside0.mk (below_step (hw1.out.alloc hs1.out _) hb2))
      go_ret2
      exact ⟨_, rfl, Kd.R_nil _ _ _ _ _, hw2.out⟩
    · have hxl := Aside0.mk (hxm hm)
      have HM := Aside0.mk hm
      clear hm hxm
      cases ha : allB l1 4
      · have HA := Aside0.mk ha
        clear ha
        have e := HR.out
        rw [HM.out, HA.out] at e
        injection e with e1 e2
        subst e1
        subst e2
        go_wp2_with first
          | (go_at_call 33; refine (hmay.out true HM.out _ (hw1.out.alloc hs1.out _)).mono ?_; rintro e w2 ⟨rfl, hb2⟩; have hw2 := Aside0.mk (below_step (hw1.out.alloc hs1.out _) hb2))
          | (go_at_call 35; refine (hall.out false HA.out _ hw2.out).mono ?_; rintro e w3 ⟨rfl, hb3⟩; replace hw2 := Aside0.mk (below_step hw2.out hb3))
        go_ret2
        exact ⟨_, rfl, Kd.R_nil _ _ _ _ _, hw2.out⟩
      · have HA := Aside0.mk ha
        have h4 : l1.length = 4 := by unfold allB at ha; simp only [Bool.and_eq_true, beq_iff_eq] at ha; omega
        have H4 := Aside0.mk h4
        clear ha h4
        have e := HR.out
        rw [HM.out, HA.out] at e
        injection e with e1 e2
        subst e1
        subst e2
        go_wp2_with first
          | (go_at_call 33; refine (hmay.out true HM.out _ (hw1.out.alloc hs1.out _)).mono ?_; rintro e w2 ⟨rfl, hb2⟩; have hw2 := Aside0.mk (below_step (below_alloc (Below.refl w1.heap.size w1) _) hb2); have s0 : w2.cell? ⟨w1.heap.size, 3, none⟩ = some (.slice A3 x.f3.length c3) := pw_cell_below hb2 (by simp))
          | (go_at_call 35; refine (hall.out true HA.out _ (hw1.out.trans (hw2.out.mono hs1.out))).mono ?_; rintro e w3 ⟨rfl, hb3⟩; replace hw2 := Aside0.mk (below_step hw2.out hb3); replace s0 := pw_cell_below hb3 s0)
        clear s0 q0 q1 hb2 hb3
        go_loopw [10, 33] (fun out v wr => ∃ i : Nat, v = .int .i64 i ∧ i ≤ x.f3.length ∧ Aside0 (Kd.R k70 70 wr w1.heap.size (fun _ => True) out (picked x.f3 l1 i)) ∧ Aside0 (Below w1.heap.size w1 wr)) (fun _ v _ => x.f3.length - (intOf v).toNat)
        case atStart => exact ⟨0, rfl, Nat.zero_le _, ⟨hR.out _⟩, hw2⟩
        case round =>
          clear hw2
          obtain ⟨i, rfl, hi, HO, HB⟩ := hrel
          by_cases hlt : i < x.f3.length
          · have hi4 : i < l1.length := by have := hxl.out; have := H4.out; omega
            obtain ⟨ad3, e3, hy0, hy1⟩ := at_T83 (Kd.C_below G3.out.2 HB.out) (i : Int) (by omega) (by omega)
            obtain ⟨ad1, e1, hz0, hz1⟩ := hrow.out i hi4
            subst e3
            subst e1
            rw [Int.toNat_natCast] at hy0 hy1 hz0 hz1
            replace hz0 := pw_cell_below (hw1.out.trans (HB.out.mono hs1.out)) hz0
            replace hz1 := pw_cell_below (hw1.out.trans (HB.out.mono hs1.out)) hz1
            go_wp2_with fail
            obtain ⟨W, hW⟩ : ∃ W, W = wr.alloc (.cells #[.int .i64 (rd_T83 x.f3 (i : Int)).f0, .bool (rd_T83 x.f3 (i : Int)).f1] 83) := ⟨_, rfl⟩
            have hbW : Below wr.heap.size wr W := hW ▸ below_alloc (Below.refl _ _) _
            have HOW := Aside0.mk (Kd.R_below HO.out hbW)
            have HBW := Aside0.mk (below_step HB.out hbW)
            replace hz0 := pw_cell_below hbW hz0
            replace hz1 := pw_cell_below hbW hz1
            have v0 : W.cell? ⟨wr.heap.size, 0, none⟩ = some (.int .i64 (rd_T83 x.f3 (i : Int)).f0) := by rw [hW]; simp
            have v1 : W.cell? ⟨wr.heap.size, 1, none⟩ = some (.bool (rd_T83 x.f3 (i : Int)).f1) := by rw [hW]; simp
            rw [← hW]
            clear hW hbW hy0 hy1
            go_still_tail 10, (by kernel_rfl)
            change wpList _ _ _ _ _ W.drew
            obtain ⟨W2, hW2⟩ : ∃ W2, W2 = W.drew := ⟨_, rfl⟩
            have HO2 := Aside0.mk (show Kd.R k70 70 W2 w1.heap.size (fun _ => True) _ (picked x.f3 l1 i) from hW2 ▸ Kd.R_drew HOW.out)
            have HB2 := Aside0.mk (show Below w1.heap.size w1 W2 from hW2 ▸ below_drew1 HBW.out)
            have HL := Aside0.mk (show (picked x.f3 l1 i).length < 8796093022208 by have := picked_len x.f3 l1 i; have := hxl.out; omega)
            rw [← hW2]
            clear hW2
            go_wp2_with first
              | (go_at_call 38; refine (cand_add.calls (fun _ => True) _ (picked x.f3 l1 i) (i : Int) (rd_T83 x.f3 (i : Int)).f0 (rd_T83 x.f3 (i : Int)).f1 (rd_T86 l1 (i : Int)).f0 (rd_T86 l1 (i : Int)).f1 _ w1 W2 HB2.out HO2.out (add_one _ _ _ _ HL.out)).mono ?_; rintro e w4 ⟨v4, rfl, ho4, hb4, hk4⟩; have HO4 := Aside0.mk ho4; have HB4 := Aside0.mk hb4; clear ho4 hb4 hk4)
            go_roundw
            case rel => exact ⟨i + 1, by go_num, by omega, ⟨Kd.R_mono HO4.out (fun _ _ => trivial)⟩, HB4⟩
            case measure => simp [intOf]; omega
          · have hie : i = x.f3.length := by omega
            subst hie
            go_wp2_with fail
            go_ret2
            exact ⟨_, rfl, Kd.R_lower HO.out hs1.out, hw1.out.trans (HB.out.mono hs1.out)⟩
  · have hin2 : a1 < 0 ∨ (l0_1.length : Int) ≤ a1 := by omega
    have HR := Aside0.mk (show (([], 1300) : List S70 × Int) = (r1, r2) by
      rw [← H.out]; unfold cand_Backs.ok; rw [decide_eq_false hin, Bool.and_false, Bool.and_false]; rfl)
    have HS := Aside0.mk (conf_Site.no w.heap.size A0_1 c0_1 l0_1.length a1 hin2)
    clear hr0_1 hc0_1 hin hin2 H hr1 hc1
    have e := HR.out
    injection e with e1 e2
    subst e1
    subst e2
    go_enter Try.func18, Try.ntmps18
    go_wp2_with fail
    refine (HS.out _ (by simp)).mono ?_
    rintro e w1 ⟨rfl, hb1⟩
    have b0 : w1.cell? ⟨w.heap.size, 0, none⟩ = some (.int .i64 a0_0) := (hb1.cell (p := ⟨w.heap.size, 0, none⟩) (by simp)).trans (by simp)
    have b1 : w1.cell? ⟨w.heap.size, 1, none⟩ = some (.slice A0_1 l0_1.length c0_1) := (hb1.cell (p := ⟨w.heap.size, 1, none⟩) (by simp)).trans (by simp)
    have hw1 := Aside0.mk (hbb.out.trans (hb1.mono (by simp)))
    have q0 : ∀ o, (w1.alloc o).cell? ⟨w.heap.size, 0, none⟩ = some (.int .i64 a0_0) := fun o => pw_cell_below ((Below.refl _ _).alloc (Nat.le_refl _) o) b0
    have q1 : ∀ o, (w1.alloc o).cell? ⟨w.heap.size, 1, none⟩ = some (.slice A0_1 l0_1.length c0_1) := fun o => pw_cell_below ((Below.refl _ _).alloc (Nat.le_refl _) o) b1
    have hs1 := Aside0.mk hw1.out.size
    clear b0 b1 hb1
    cases hm : mayC a0_0 l0_1
    · have HM := Aside0.mk hm
      clear hm
      go_wp2_with first
        | (go_at_call 33; refine (hmay.out false HM.out _ (hw1.out.alloc hs1.out _)).mono ?_; rintro e w2 ⟨rfl, hb2⟩; have hw2 := Aside0.mk (below_step (hw1.out.alloc hs1.out _) hb2))
      go_ret2
      exact ⟨_, rfl, Kd.R_nil _ _ _ _ _, hw2.out⟩
    · have HM := Aside0.mk hm
      clear hm
      cases ha : allB l1 4
      all_goals
        have HA := Aside0.mk ha
        clear ha
        go_wp2_with first
          | (go_at_call 33; refine (hmay.out true HM.out _ (hw1.out.alloc hs1.out _)).mono ?_; rintro e w2 ⟨rfl, hb2⟩; have hw2 := Aside0.mk (below_step (hw1.out.alloc hs1.out _) hb2))
          | (go_at_call 35; refine (hall.out _ HA.out _ hw2.out).mono ?_; rintro e w3 ⟨rfl, hb3⟩; replace hw2 := Aside0.mk (below_step hw2.out hb3))
        go_ret2
        exact ⟨_, rfl, Kd.R_nil _ _ _ _ _, hw2.out⟩


end Go.Proofs.Ytlapbhgkmmeeoaa.PSpareRoom
