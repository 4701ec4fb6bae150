/- Contracts: what calls of these functions of the program do, each as a plain function; written by a program of this session. -/
import Derived.Test.YtkgjnckkfiepaaaPNetsx0
import Derived.Test.YtkgjnckkfiepaaaPNetsx1
import Derived.Test.YtkgjnckkfiepaaaPNetsx2
import Derived.Test.YtkgjnckkfiepaaaPNetsx3
import Derived.Test.YtkgjnckkfiepaaaPNetsx4
namespace Go.Proofs.Ytkgjnckkfiepaaa.PNets
open Go.RowKit Go.Proofs.YtkgjnckkfiepaaaW.PrintWords Go.Proofs.YtkgjnckkfiepaaaW.PrintLast Go.Proofs.YtkgjnckkfiepaaaW.PrintMore
attribute [local go_sem] max2_int min2_int max_two min_two max_three min_three max_four min_four   -- for this text's walks alone
set_option linter.unusedVariables false
set_option linter.unusedSimpArgs false

/-! ### wharfagelaw22_Nets: function 3, by hand -/
theorem sp_loop (d : Nat) : ∀ (k j : Nat) (l : List ByteArray), l.length ≤ 9223372036854775806 → l.length - j ≤ d → d < k → j ≤ l.length → (∀ i, j ≤ i → i < l.length → (rdOf ByteArray.empty l (i : Int)).size ≤ 512) → ∃ r, wharfagelaw0_SpoilTexts.l0 k l (j : Int) = some r := by
  induction d with
  | zero =>
    intro k j l hl hd hk hj hs
    obtain ⟨k, rfl⟩ : ∃ m, k = m + 1 := ⟨k - 1, by omega⟩
    simp only [wharfagelaw0_SpoilTexts.l0]
    rw [if_neg (by omega)]
    exact ⟨_, rfl⟩
  | succ d ih =>
    intro k j l hl hd hk hj hs
    obtain ⟨k, rfl⟩ : ∃ m, k = m + 1 := ⟨k - 1, by omega⟩
    simp only [wharfagelaw0_SpoilTexts.l0]
    by_cases h : (j : Int) < (l.length : Int)
    · have hj2 := hs j (Nat.le_refl _) (by omega)
      rw [if_pos h, if_pos (show (0 : Int) ≤ (j : Int) by omega), if_pos (by omega), show wrap64 ((j : Int) + 1) = ((j + 1 : Nat) : Int) by unfold wrap64; omega]
      refine ih k (j + 1) _ (by rw [List.length_set]; exact hl) (by rw [List.length_set]; omega) (by omega) (by rw [List.length_set]; omega) (fun i hi hi2 => ?_)
      rw [List.length_set] at hi2
      have e : rdOf ByteArray.empty (l.set (j : Int).toNat ((⟨#[126]⟩ : ByteArray) ++ rdOf ByteArray.empty l (j : Int))) (i : Int) = rdOf ByteArray.empty l (i : Int) := by
        simp only [rdOf, Int.toNat_natCast, List.getD_eq_getElem?_getD]
        rw [List.getElem?_set_ne (by omega)]
      rw [e]
      exact hs i (by omega) hi2
    · rw [if_neg h]
      exact ⟨_, rfl⟩
open Go.Proofs.Ytkgjnckkfiepaaa.Net in
theorem sp_some (l : List ByteArray) (h : goodL l) : ∃ r, wharfagelaw0_SpoilTexts.f 40 l = some r := by
  unfold wharfagelaw0_SpoilTexts.f
  refine sp_loop l.length 40 0 l (by have := h.1; omega) (by omega) (by have := h.1; omega) (by omega) (fun i _ hi => ?_)
  have e : rdOf ByteArray.empty l (i : Int) = l[i] := by simp [rdOf, hi]
  rw [e]
  exact (h.2 _ (List.getElem_mem hi)).2
def wharfagelaw22_Nets.f (l1 : List ByteArray) (l0 : List Int) : Option Bool := some true
set_option maxHeartbeats 8000000 in
set_option maxRecDepth 100000 in
open Go.Proofs.Ytkgjnckkfiepaaa.NumMath (and3 and63 wrap64_in) in
open Go.Proofs.Ytkgjnckkfiepaaa.Net Go.Proofs.Ytkgjnckkfiepaaa.Chan in
theorem wharfagelaw22_Nets.calls (A1 : Option Addr) (c1 : Nat) (l1 : List ByteArray) (A0 : Option Addr) (c0 : Nat) (l0 : List Int) (r : Bool) (w : World) (hr1 : Kd.C Kd.string w A1 l1.length l1) (hc1 : l1.length ≤ c1) (hr0 : Kd.C (Kd.int .i64) w A0 l0.length l0) (hc0 : l0.length ≤ c0) (h : wharfagelaw22_Nets.f l1 l0 = some r) :
    Calls Try.prog 3 #[.slice A1 l1.length c1, .slice A0 l0.length c0] w fun e w' => e = .returned (.bool r) ∧ Below w.heap.size w w' := by
  obtain rfl := Option.some.inj h
  clear h
  have HR0 := Aside0.mk hr0
  have HR1 := Aside0.mk hr1
  have hln1 := hr1.2.1
  clear hr0 hc0 hr1 hc1
  have HB := Aside0.mk (Below.refl w.heap.size w)
  go_enter Try.func3, Try.ntmps3
  go_wp2_with first
    | (go_at_call 7; refine (new_calls _).mono ?_; rintro e w1 ⟨p, ch, rfl, hn, hb⟩; have HN := Aside0.mk (hn.lower (below_size HB.out)); replace HB := Aside0.mk (below_step HB.out hb); clear hn hb)
  have HT := Aside0.mk (duo_start HN.out (below_size HB.out))
  replace HB := Aside0.mk (below_alloc HB.out (.cells #[.slice none 0 0] 28))
  go_loopw [7] (fun vi wr => ∃ (i : Nat) (v v2 : Value) (l : List ByteArray), vi = .int .i64 i ∧ i ≤ l0.length ∧ i ≤ 80 ∧ Aside0 (Duo w.heap.size p ch w1.heap.size wr v v2 l l) ∧ Aside0 (goodL l) ∧ Aside0 (Below w.heap.size w wr)) (fun vi _ => 80 - (intOf vi).toNat)
  case atStart => exact ⟨0, _, _, [], rfl, Nat.zero_le _, by omega, HT, ⟨good_nil⟩, HB⟩
  case round =>
    clear HT HB HN
    obtain ⟨i, v, v2, l, rfl, hi1, hi2, HT, HG, HB⟩ := hrel
    by_cases hlt : i < l0.length
    · by_cases hlt2 : i < 80
      · obtain ⟨ad, e0, hx⟩ := Kd.at_int HR0.out (i : Int) (by omega) (by omega)
        subst e0
        rw [Int.toNat_natCast] at hx
        obtain ⟨x, hs⟩ : ∃ x, rd l0 (i : Int) = x := ⟨_, rfl⟩
        rw [hs] at hx
        replace hx := pw_cell_below HB.out hx
        clear hs
        obtain ⟨k, hk, hk31⟩ : ∃ k : Nat, bits .and .i64 (x / 4) 63 = (k : Int) ∧ k ≤ 63 := by
          rw [and63]
          obtain ⟨k, hk⟩ := Int.eq_ofNat_of_zero_le (show 0 ≤ (x / 4) % 64 by omega)
          exact ⟨k, hk, by omega⟩
        have hq : bits .and .i64 x 3 = 0 ∨ bits .and .i64 x 3 = 1 ∨ bits .and .i64 x 3 = 2 ∨ bits .and .i64 x 3 = 3 := by
          rw [and3]
          omega
        rcases hq with hq | hq | hq | hq
        rotate_left 2
        · obtain ⟨l2, s, q, hs⟩ : ∃ l2 s q, takeL l ((k : Int) - 8) = (l2, s, q) := ⟨_, _, _, rfl⟩
          have HS := Aside0.mk hs
          have HG2 := Aside0.mk (show goodL l2 from by have := good_take ((k : Int) - 8) HG.out; rw [hs] at this; exact this)
          have hss : (s.toList != s.toList) = false := by simp
          clear hs
          obtain ⟨sp, hsp⟩ := sp_some l2 HG2.out
          have HSP := Aside0.mk hsp
          clear hsp
          have hqq : (q != q) = false := by simp
          go_wp2_with first
            | (go_at_call 11; refine (take_to _ _ _ _ _ (below_size HB.out) HT.out.a HS.out).mono ?_; rintro e w1 ⟨rfl, ho⟩; replace HB := Aside0.mk (HB.out.trans (Net2.below HT.out.a (below_size HB.out) ho)); obtain ⟨v1, hT1⟩ := HT.out.net ho; clear HT; have HT := Aside0.mk hT1; clear hT1 ho)
            | (go_at_call 12; refine (rtake_to _ _ _ _ _ (below_size HB.out) HT.out.b HS.out).mono ?_; rintro e w2 ⟨rfl, ho⟩; replace HB := Aside0.mk (HB.out.trans (Ref2.below HT.out.b (below_size HB.out) ho)); obtain ⟨v3, hT1⟩ := HT.out.ref ho; obtain ⟨A2w, c2w, rfl⟩ := Kd.R_slice hT1.b.row; clear HT; have HT := Aside0.mk hT1; have yc := HT.out.cell; clear hT1 ho)
            | (go_at_call 8; refine (wharfagelaw0_Num.calls _ _ _ rfl).mono ?_; rintro e wn ⟨rfl, hn_⟩; have hb_ := Go.Proofs.Ytkgjnckkfiepaaa.Hand.hk_drawn hn_; replace HT := Aside0.mk (HT.out.below hb_); replace HB := Aside0.mk (below_step HB.out hb_); clear yc; have yc := HT.out.cell; clear hn_ hb_)
            | (go_at_call 15; refine (all_calls _ HT.out.a).mono ?_; rintro e w3 ⟨u3, rfl, ho, hb⟩; obtain ⟨A5, c5, rfl⟩ := Kd.R_slice ho; have HO := Aside0.mk ho; have C5 := Aside0.mk (Kd.R_reads' ho).2.1; have HBT := Aside0.mk hb; have HT0 := HT; have HB0 := HB; replace HT := Aside0.mk (HT.out.below hb); replace HB := Aside0.mk (below_step HB.out hb); clear yc; have yc := HT.out.cell; clear ho hb)
            | (go_at_call 16; refine (wharfagelaw0_SameTexts.calls 33 A5 c5 l2 A2w c2w l2 true _ (Kd.R_reads' HO.out).2.2 C5.out (Kd.R_reads' HT.out.b.row).2.2 (Kd.R_reads' HT.out.b.row).2.1 (st_same l2 (by have := HG2.out.1; omega) _ (by have := HG2.out.1; omega))).mono ?_; rintro e wn ⟨rfl, hn_⟩; have hb_ := Go.Proofs.Ytkgjnckkfiepaaa.Hand.hk_drawn hn_; replace HO := Aside0.mk (Kd.R_below HO.out hb_); replace HBT := Aside0.mk (below_step HBT.out hb_); clear yc HT HB hn_ hb_)
            | (go_at_call 17; refine (wharfagelaw0_SpoilTexts.calls 40 (fun _ => True) _ l2 sp _ _ HBT.out HO.out HSP.out).mono ?_; rintro e w4 ⟨rfl, _, hb, _⟩; have HT := Aside0.mk (HT0.out.below hb); have HB := Aside0.mk (below_step HB0.out hb); clear hb HT0 HB0 HO HBT)
          go_roundw
          case rel => exact ⟨i + 1, _, _, l2, by go_num, by omega, by omega, HT, HG2, HB⟩
          case measure => simp [intOf]; omega
        · obtain ⟨l2, q, hs⟩ : ∃ l2 q, copyL l ((k : Int) - 8) = (l2, q) := ⟨_, _, rfl⟩
          have HS := Aside0.mk hs
          have HG2 := Aside0.mk (show goodL l2 from by have := good_copy ((k : Int) - 8) HG.out; rw [hs] at this; exact this)
          clear hs
          obtain ⟨sp, hsp⟩ := sp_some l2 HG2.out
          have HSP := Aside0.mk hsp
          clear hsp
          have hqq : (q != q) = false := by simp
          go_wp2_with first
            | (go_at_call 13; refine (copy_to _ _ _ _ (below_size HB.out) HT.out.a HS.out).mono ?_; rintro e w1 ⟨rfl, ho⟩; replace HB := Aside0.mk (HB.out.trans (Net2.below HT.out.a (below_size HB.out) ho)); obtain ⟨v1, hT1⟩ := HT.out.net ho; clear HT; have HT := Aside0.mk hT1; clear hT1 ho)
            | (go_at_call 8; refine (wharfagelaw0_Num.calls _ _ _ rfl).mono ?_; rintro e wn ⟨rfl, hn_⟩; have hb_ := Go.Proofs.Ytkgjnckkfiepaaa.Hand.hk_drawn hn_; replace HT := Aside0.mk (HT.out.below hb_); replace HB := Aside0.mk (below_step HB.out hb_); clear hn_ hb_)
            | (go_at_call 14; refine (rcopy_to _ _ _ _ (below_size HB.out) HT.out.b HG.out HS.out).mono ?_; rintro e w2 ⟨rfl, ho⟩; replace HB := Aside0.mk (HB.out.trans (Ref2.below HT.out.b (below_size HB.out) ho)); obtain ⟨v3, hT1⟩ := HT.out.ref ho; obtain ⟨A2w, c2w, rfl⟩ := Kd.R_slice hT1.b.row; clear HT; have HT := Aside0.mk hT1; have yc := HT.out.cell; clear hT1 ho)
            | (go_at_call 15; refine (all_calls _ HT.out.a).mono ?_; rintro e w3 ⟨u3, rfl, ho, hb⟩; obtain ⟨A5, c5, rfl⟩ := Kd.R_slice ho; have HO := Aside0.mk ho; have C5 := Aside0.mk (Kd.R_reads' ho).2.1; have HBT := Aside0.mk hb; have HT0 := HT; have HB0 := HB; replace HT := Aside0.mk (HT.out.below hb); replace HB := Aside0.mk (below_step HB.out hb); clear yc; have yc := HT.out.cell; clear ho hb)
            | (go_at_call 16; refine (wharfagelaw0_SameTexts.calls 33 A5 c5 l2 A2w c2w l2 true _ (Kd.R_reads' HO.out).2.2 C5.out (Kd.R_reads' HT.out.b.row).2.2 (Kd.R_reads' HT.out.b.row).2.1 (st_same l2 (by have := HG2.out.1; omega) _ (by have := HG2.out.1; omega))).mono ?_; rintro e wn ⟨rfl, hn_⟩; have hb_ := Go.Proofs.Ytkgjnckkfiepaaa.Hand.hk_drawn hn_; replace HO := Aside0.mk (Kd.R_below HO.out hb_); replace HBT := Aside0.mk (below_step HBT.out hb_); clear yc HT HB hn_ hb_)
            | (go_at_call 17; refine (wharfagelaw0_SpoilTexts.calls 40 (fun _ => True) _ l2 sp _ _ HBT.out HO.out HSP.out).mono ?_; rintro e w4 ⟨rfl, _, hb, _⟩; have HT := Aside0.mk (HT0.out.below hb); have HB := Aside0.mk (below_step HB0.out hb); clear hb HT0 HB0 HO HBT)
          go_roundw
          case rel => exact ⟨i + 1, _, _, l2, by go_num, by omega, by omega, HT, HG2, HB⟩
          case measure => simp [intOf]; omega
        all_goals
          by_cases hn0 : 0 < l1.length
          · obtain ⟨j, hj, hj1⟩ : ∃ j : Nat, (i : Int) % (l1.length : Int) = (j : Int) ∧ j < l1.length := ⟨i % l1.length, by omega, Nat.mod_lt _ hn0⟩
            obtain ⟨ad1, e1, hy⟩ := Kd.at_string HR1.out (j : Int) (by omega) (by omega)
            subst e1
            rw [Int.toNat_natCast] at hy
            obtain ⟨s, hsv⟩ : ∃ s, rdOf ByteArray.empty l1 (j : Int) = s := ⟨_, rfl⟩
            rw [hsv] at hy
            replace hy := pw_cell_below HB.out hy
            clear hsv
            obtain ⟨l2, q, hs⟩ : ∃ l2 q, sendL l s = (l2, q) := ⟨_, _, rfl⟩
            have HS := Aside0.mk hs
            have HG2 := Aside0.mk (show goodL l2 from by have := good_send s HG.out; rw [hs] at this; exact this)
            clear hs
            obtain ⟨sp, hsp⟩ := sp_some l2 HG2.out
            have HSP := Aside0.mk hsp
            clear hsp
            have hqq : (q != q) = false := by simp
            go_wp2_with first
              | (go_at_call 9; refine (send_to _ _ _ _ (below_size HB.out) HT.out.a HS.out).mono ?_; rintro e w1 ⟨rfl, ho⟩; replace HB := Aside0.mk (HB.out.trans (Net2.below HT.out.a (below_size HB.out) ho)); obtain ⟨v1, hT1⟩ := HT.out.net ho; clear HT; have HT := Aside0.mk hT1; clear hT1 ho)
              | (go_at_call 8; refine (wharfagelaw0_Num.calls _ _ _ rfl).mono ?_; rintro e wn ⟨rfl, hn_⟩; have hb_ := Go.Proofs.Ytkgjnckkfiepaaa.Hand.hk_drawn hn_; replace HT := Aside0.mk (HT.out.below hb_); replace HB := Aside0.mk (below_step HB.out hb_); clear hn_ hb_)
              | (go_at_call 10; refine (rsend_to _ _ _ _ (below_size HB.out) HT.out.b HS.out).mono ?_; rintro e w2 ⟨rfl, ho⟩; replace HB := Aside0.mk (HB.out.trans (Ref2.below HT.out.b (below_size HB.out) ho)); obtain ⟨v3, hT1⟩ := HT.out.ref ho; obtain ⟨A2w, c2w, rfl⟩ := Kd.R_slice hT1.b.row; clear HT; have HT := Aside0.mk hT1; have yc := HT.out.cell; clear hT1 ho)
              | (go_at_call 15; refine (all_calls _ HT.out.a).mono ?_; rintro e w3 ⟨u3, rfl, ho, hb⟩; obtain ⟨A5, c5, rfl⟩ := Kd.R_slice ho; have HO := Aside0.mk ho; have C5 := Aside0.mk (Kd.R_reads' ho).2.1; have HBT := Aside0.mk hb; have HT0 := HT; have HB0 := HB; replace HT := Aside0.mk (HT.out.below hb); replace HB := Aside0.mk (below_step HB.out hb); clear yc; have yc := HT.out.cell; clear ho hb)
              | (go_at_call 16; refine (wharfagelaw0_SameTexts.calls 33 A5 c5 l2 A2w c2w l2 true _ (Kd.R_reads' HO.out).2.2 C5.out (Kd.R_reads' HT.out.b.row).2.2 (Kd.R_reads' HT.out.b.row).2.1 (st_same l2 (by have := HG2.out.1; omega) _ (by have := HG2.out.1; omega))).mono ?_; rintro e wn ⟨rfl, hn_⟩; have hb_ := Go.Proofs.Ytkgjnckkfiepaaa.Hand.hk_drawn hn_; replace HO := Aside0.mk (Kd.R_below HO.out hb_); replace HBT := Aside0.mk (below_step HBT.out hb_); clear yc HT HB hn_ hb_)
              | (go_at_call 17; refine (wharfagelaw0_SpoilTexts.calls 40 (fun _ => True) _ l2 sp _ _ HBT.out HO.out HSP.out).mono ?_; rintro e w4 ⟨rfl, _, hb, _⟩; have HT := Aside0.mk (HT0.out.below hb); have HB := Aside0.mk (below_step HB0.out hb); clear hb HT0 HB0 HO HBT)
            go_roundw
            case rel => exact ⟨i + 1, _, _, l2, by go_num, by omega, by omega, HT, HG2, HB⟩
            case measure => simp [intOf]; omega
          · have hdl : decide (0 < (l1.length : Int)) = false := decide_eq_false (by omega)
            obtain ⟨l2, q, hs⟩ : ∃ l2 q, sendL l ⟨#[122]⟩ = (l2, q) := ⟨_, _, rfl⟩
            have HS := Aside0.mk hs
            have HG2 := Aside0.mk (show goodL l2 from by have := good_send ⟨#[122]⟩ HG.out; rw [hs] at this; exact this)
            clear hs
            obtain ⟨sp, hsp⟩ := sp_some l2 HG2.out
            have HSP := Aside0.mk hsp
            clear hsp
            have hqq : (q != q) = false := by simp
            go_wp2_with first
              | (go_at_call 9; refine (send_to _ _ _ _ (below_size HB.out) HT.out.a HS.out).mono ?_; rintro e w1 ⟨rfl, ho⟩; replace HB := Aside0.mk (HB.out.trans (Net2.below HT.out.a (below_size HB.out) ho)); obtain ⟨v1, hT1⟩ := HT.out.net ho; clear HT; have HT := Aside0.mk hT1; clear hT1 ho)
              | (go_at_call 8; refine (wharfagelaw0_Num.calls _ _ _ rfl).mono ?_; rintro e wn ⟨rfl, hn_⟩; have hb_ := Go.Proofs.Ytkgjnckkfiepaaa.Hand.hk_drawn hn_; replace HT := Aside0.mk (HT.out.below hb_); replace HB := Aside0.mk (below_step HB.out hb_); clear hn_ hb_)
              | (go_at_call 10; refine (rsend_to _ _ _ _ (below_size HB.out) HT.out.b HS.out).mono ?_; rintro e w2 ⟨rfl, ho⟩; replace HB := Aside0.mk (HB.out.trans (Ref2.below HT.out.b (below_size HB.out) ho)); obtain ⟨v3, hT1⟩ := HT.out.ref ho; obtain ⟨A2w, c2w, rfl⟩ := Kd.R_slice hT1.b.row; clear HT; have HT := Aside0.mk hT1; have yc := HT.out.cell; clear hT1 ho)
              | (go_at_call 15; refine (all_calls _ HT.out.a).mono ?_; rintro e w3 ⟨u3, rfl, ho, hb⟩; obtain ⟨A5, c5, rfl⟩ := Kd.R_slice ho; have HO := Aside0.mk ho; have C5 := Aside0.mk (Kd.R_reads' ho).2.1; have HBT := Aside0.mk hb; have HT0 := HT; have HB0 := HB; replace HT := Aside0.mk (HT.out.below hb); replace HB := Aside0.mk (below_step HB.out hb); clear yc; have yc := HT.out.cell; clear ho hb)
              | (go_at_call 16; refine (wharfagelaw0_SameTexts.calls 33 A5 c5 l2 A2w c2w l2 true _ (Kd.R_reads' HO.out).2.2 C5.out (Kd.R_reads' HT.out.b.row).2.2 (Kd.R_reads' HT.out.b.row).2.1 (st_same l2 (by have := HG2.out.1; omega) _ (by have := HG2.out.1; omega))).mono ?_; rintro e wn ⟨rfl, hn_⟩; have hb_ := Go.Proofs.Ytkgjnckkfiepaaa.Hand.hk_drawn hn_; replace HO := Aside0.mk (Kd.R_below HO.out hb_); replace HBT := Aside0.mk (below_step HBT.out hb_); clear yc HT HB hn_ hb_)
              | (go_at_call 17; refine (wharfagelaw0_SpoilTexts.calls 40 (fun _ => True) _ l2 sp _ _ HBT.out HO.out HSP.out).mono ?_; rintro e w4 ⟨rfl, _, hb, _⟩; have HT := Aside0.mk (HT0.out.below hb); have HB := Aside0.mk (below_step HB0.out hb); clear hb HT0 HB0 HO HBT)
            go_roundw
            case rel => exact ⟨i + 1, _, _, l2, by go_num, by omega, by omega, HT, HG2, HB⟩
            case measure => simp [intOf]; omega
      · go_wp2_with first
          | (go_at_call 18; refine (wharfagelaw22_awake.calls true _ rfl).mono ?_; rintro e wa ⟨rfl, hb⟩; replace HB := Aside0.mk (below_step HB.out hb); clear hb)
        go_ret
        exact ⟨Go.Proofs.Ytkgjnckkfiepaaa.Hand.hk_bool rfl, HB.out⟩
    · go_wp2_with first
        | (go_at_call 18; refine (wharfagelaw22_awake.calls true _ rfl).mono ?_; rintro e wa ⟨rfl, hb⟩; replace HB := Aside0.mk (below_step HB.out hb); clear hb)
      go_ret
      exact ⟨Go.Proofs.Ytkgjnckkfiepaaa.Hand.hk_bool rfl, HB.out⟩


end Go.Proofs.Ytkgjnckkfiepaaa.PNets
