/- Contracts: what calls of these functions of the program do, each as a plain function; written by a program of this session. -/
import Derived.Test.YtkgjnckkfiepaaaPNetAllx0
import Derived.Test.YtkgjnckkfiepaaaPNetAllx1
import Derived.Test.YtkgjnckkfiepaaaPNetAllx2
import Derived.Test.YtkgjnckkfiepaaaPNetAllx3
namespace Go.Proofs.Ytkgjnckkfiepaaa.PNetAll
open Go.RowKit Go.Proofs.YtkgjnckkfiepaaaW.PrintWords Go.Proofs.YtkgjnckkfiepaaaW.PrintLast Go.Proofs.YtkgjnckkfiepaaaW.PrintMore
attribute [local go_sem] max2_int min2_int max_two min_two max_three min_three max_four min_four   -- for this text's walks alone
set_option linter.unusedVariables false
set_option linter.unusedSimpArgs false

/-! ### wharfagelaw22_NetAll: function 6, by hand -/
theorem sp_loop (d : Nat) : ∀ (k j : Nat) (l : List ByteArray), l.length ≤ 9223372036854775806 → l.length - j ≤ d → d < k → j ≤ l.length → (∀ i, j ≤ i → i < l.length → (rdOf ByteArray.empty l (i : Int)).size ≤ 512) → ∃ r, wharfagelaw0_SpoilTexts.l0 k l (j : Int) = some r := by
  induction d with
  | zero =>
    intro k j l hl hd hk hj hs
    obtain ⟨k, rfl⟩ : ∃ m, k = m + 1 := ⟨k - 1, by omega⟩
    simp only [wharfagelaw0_SpoilTexts.l0]
    rw [if_neg (by omega)]
    exact ⟨_, rfl⟩
  | succ d ih =>
    intro k j l hl hd hk hj hs
    obtain ⟨k, rfl⟩ : ∃ m, k = m + 1 := ⟨k - 1, by omega⟩
    simp only [wharfagelaw0_SpoilTexts.l0]
    by_cases h : (j : Int) < (l.length : Int)
    · have hj2 := hs j (Nat.le_refl _) (by omega)
      rw [if_pos h, if_pos (show (0 : Int) ≤ (j : Int) by omega), if_pos (by omega), show wrap64 ((j : Int) + 1) = ((j + 1 : Nat) : Int) by unfold wrap64; omega]
      refine ih k (j + 1) _ (by rw [List.length_set]; exact hl) (by rw [List.length_set]; omega) (by omega) (by rw [List.length_set]; omega) (fun i hi hi2 => ?_)
      rw [List.length_set] at hi2
      have e : rdOf ByteArray.empty (l.set (j : Int).toNat ((⟨#[126]⟩ : ByteArray) ++ rdOf ByteArray.empty l (j : Int))) (i : Int) = rdOf ByteArray.empty l (i : Int) := by
        simp only [rdOf, Int.toNat_natCast, List.getD_eq_getElem?_getD]
        rw [List.getElem?_set_ne (by omega)]
      rw [e]
      exact hs i (by omega) hi2
    · rw [if_neg h]
      exact ⟨_, rfl⟩
open Go.Proofs.Ytkgjnckkfiepaaa.Net in
theorem sp_some (l : List ByteArray) (h : goodL l) : ∃ r, wharfagelaw0_SpoilTexts.f 40 l = some r := by
  unfold wharfagelaw0_SpoilTexts.f
  refine sp_loop l.length 40 0 l (by have := h.1; omega) (by omega) (by have := h.1; omega) (by omega) (fun i _ hi => ?_)
  have e : rdOf ByteArray.empty l (i : Int) = l[i] := by simp [rdOf, hi]
  rw [e]
  exact (h.2 _ (List.getElem_mem hi)).2
def wharfagelaw22_NetAll.f (l0 : List ByteArray) : Option Bool := some true
set_option maxHeartbeats 8000000 in
set_option maxRecDepth 100000 in
open Go.Proofs.Ytkgjnckkfiepaaa.Net Go.Proofs.Ytkgjnckkfiepaaa.Chan in
theorem wharfagelaw22_NetAll.calls (A0 : Option Addr) (c0 : Nat) (l0 : List ByteArray) (r : Bool) (w : World) (hr0 : Kd.C Kd.string w A0 l0.length l0) (hc0 : l0.length ≤ c0) (h : wharfagelaw22_NetAll.f l0 = some r) :
    Calls Try.prog 6 #[.slice A0 l0.length c0] w fun e w' => e = .returned (.bool r) ∧ Below w.heap.size w w' := by
  obtain rfl := Option.some.inj h
  clear h
  have HR0 := Aside0.mk hr0
  have HLN := Aside0.mk hr0.2.1
  clear hr0 hc0
  have HB := Aside0.mk (Below.refl w.heap.size w)
  have F0 := Aside0.mk trivial
  go_enter Try.func6, Try.ntmps6
  go_wp2_with first
    | (go_at_call 18; refine (wharfagelaw22_awake.calls true _ rfl).mono ?_; rintro e wa ⟨rfl, hb⟩; replace HB := Aside0.mk (below_step HB.out hb); clear hb)
    | (go_at_call 7; clear F0; refine (new_calls _).mono ?_; rintro e w1 ⟨p, ch, rfl, hn, hb⟩; have HN := Aside0.mk (hn.lower (below_size HB.out)); replace HB := Aside0.mk (below_step HB.out hb); clear hn hb)
    | (go_at_call 7; refine (new_calls _).mono ?_; rintro e w2 ⟨p2, ch2, rfl, hn, hb⟩; have HT := Aside0.mk (three_start HN.out hn hb (below_size HB.out)); replace HB := Aside0.mk (below_step HB.out hb); clear hn hb HN)
  go_loopw [5, 6] (fun vw vi wr => ∃ (i : Nat) (v : Value) (l : List ByteArray), vi = .int .i64 i ∧ i ≤ l0.length ∧ i ≤ 20 ∧ Aside0 (Three w.heap.size p ch p2 ch2 wr v vw l l) ∧ Aside0 (goodL l) ∧ Aside0 (l.length ≤ i) ∧ Aside0 (Below w.heap.size w wr)) (fun _ vi _ => 20 - (intOf vi).toNat)
  case atStart => exact ⟨0, _, [], rfl, Nat.zero_le _, by omega, HT, ⟨good_nil⟩, ⟨Nat.le_refl _⟩, HB⟩
  case round =>
    clear HT HB
    obtain ⟨i, v, l, rfl, hi1, hi2, HT, HG, HL, HB⟩ := hrel
    by_cases hlt : i < l0.length
    · by_cases hlt2 : i < 20
      · obtain ⟨ad, e0, hx⟩ := Kd.at_string HR0.out (i : Int) (by omega) (by omega)
        subst e0
        rw [Int.toNat_natCast] at hx
        obtain ⟨s, hs⟩ : ∃ s, rdOf ByteArray.empty l0 (i : Int) = s := ⟨_, rfl⟩
        rw [hs] at hx
        have HX := Aside0.mk hx
        replace hx := pw_cell_below HB.out hx
        clear hs
        rcases send_cases l s with ⟨hs1, hs2, hs3, hs4⟩ | ⟨q, hq, hs1⟩
        · have HS := Aside0.mk hs1
          have HG2 := Aside0.mk (good_snoc HG.out hs2 hs3 hs4)
          clear hs1 hs2 hs3 hs4
          go_wp2_with first
            | (go_at_call 9; refine (send_to _ _ _ _ (below_size HB.out) HT.out.a HS.out).mono ?_; rintro e w1 ⟨rfl, ho⟩; replace HB := Aside0.mk (HB.out.trans (Net2.below HT.out.a (below_size HB.out) ho)); clear hx; have hx := pw_cell_below HB.out HX.out; obtain ⟨v1, hT1⟩ := HT.out.net ho; clear HT; have HT := Aside0.mk hT1; clear hT1 ho)
            | (go_at_call 8; refine (wharfagelaw0_Num.calls _ _ _ rfl).mono ?_; rintro e wn ⟨rfl, hn_⟩; have hb_ := Go.Proofs.Ytkgjnckkfiepaaa.Hand.hk_drawn hn_; replace hx := pw_cell_below hb_ hx; replace HT := Aside0.mk (HT.out.below hb_); replace HB := Aside0.mk (below_step HB.out hb_); clear hn_ hb_)
            | ((with_reducible refine gate_builtin (b := .append) (xs := #[.tmp 36, .tmp 41]) rfl ?_); at_builtin; refine Kd.R_append Kd.string (w0 := w) w.heap.size rfl (.tmp 36) (.tmp 41) 22 9 (.string ⟨#[]⟩) 16 rfl Try.underlying22 info9 rfl (by decide) (by omega) _ l s [.string s] (fun _ => True) (fun _ => False) rfl rfl ?aP (fun _ hk => hk.elim) ?aF ?aO ?aB ?aS ?aL ?_; (case aP => exact rfl); (case aF => exact (fun _ _ => trivial)); (case aO => exact HT.out.r); (case aB => exact HB.out); (case aS => exact below_size HB.out); (case aL => have := HL.out; omega); intro vw2 w2 ho hb hg hat; replace HB := Aside0.mk hb; have HT2 := Aside0.mk (HT.out.row ho hg hat); clear HT ho hb hg hat)
          go_roundw
          case rel => exact ⟨i + 1, _, l ++ [s], by go_num, by omega, by omega, HT2, HG2, ⟨by have := HL.out; simp; omega⟩, HB⟩
          case measure => simp [intOf]; omega
        · have HS := Aside0.mk hs1
          have hq2 : (q == 0) = false := by simpa using hq
          clear hs1 hq
          go_wp2_with first
            | (go_at_call 9; refine (send_to _ _ _ _ (below_size HB.out) HT.out.a HS.out).mono ?_; rintro e w1 ⟨rfl, ho⟩; replace HB := Aside0.mk (HB.out.trans (Net2.below HT.out.a (below_size HB.out) ho)); clear hx; have hx := pw_cell_below HB.out HX.out; obtain ⟨v1, hT1⟩ := HT.out.net ho; clear HT; have HT := Aside0.mk hT1; clear hT1 ho)
            | (go_at_call 8; refine (wharfagelaw0_Num.calls _ _ _ rfl).mono ?_; rintro e wn ⟨rfl, hn_⟩; have hb_ := Go.Proofs.Ytkgjnckkfiepaaa.Hand.hk_drawn hn_; replace hx := pw_cell_below hb_ hx; replace HT := Aside0.mk (HT.out.below hb_); replace HB := Aside0.mk (below_step HB.out hb_); clear hn_ hb_)
          go_roundw
          case rel => exact ⟨i + 1, _, l, by go_num, by omega, by omega, HT, HG, ⟨by have := HL.out; omega⟩, HB⟩
          case measure => simp [intOf]; omega
      · obtain ⟨Aw, cw, rfl⟩ := Kd.R_slice HT.out.r
        obtain ⟨sp, hsp⟩ := sp_some l HG.out
        have HSP := Aside0.mk hsp
        clear hsp
        have G0 := Aside0.mk trivial
        have G1 := Aside0.mk trivial
        go_wp2_with first
          | (go_at_call 15; clear G0; refine (all_calls _ HT.out.a).mono ?_; rintro e w3 ⟨u3, rfl, ho, hb⟩; have HO := Aside0.mk ho; have HBT := Aside0.mk hb; have HT0 := HT; have HB0 := HB; clear ho hb)
          | (go_at_call 17; refine (wharfagelaw0_SpoilTexts.calls 40 (fun _ => True) _ l sp wr _ HBT.out HO.out HSP.out).mono ?_; rintro e w4 ⟨rfl, _, hb, _⟩; clear HT HB; have HT := Aside0.mk (HT0.out.below hb); have HB := Aside0.mk (below_step HB0.out hb); clear hb HT0 HB0 HO HBT)
          | (go_at_call 15; clear G1; refine (all_calls _ HT.out.a).mono ?_; rintro e w5 ⟨u5, rfl, ho, hb⟩; obtain ⟨A5, c5, rfl⟩ := Kd.R_slice ho; have C5 := Aside0.mk (Kd.R_reads' ho).2.1; have O5 := Aside0.mk (Kd.R_reads' ho).2.2; replace HT := Aside0.mk (HT.out.below hb); replace HB := Aside0.mk (below_step HB.out hb); clear ho hb)
          | (go_at_call 16; refine (wharfagelaw0_SameTexts.calls (l.length + 1) A5 c5 l Aw cw l true _ O5.out C5.out (Kd.R_reads' HT.out.r).2.2 (Kd.R_reads' HT.out.r).2.1 (st_same l (by have := HL.out; omega) _ (by omega))).mono ?_; rintro e wn ⟨rfl, hn_⟩; have hb_ := Go.Proofs.Ytkgjnckkfiepaaa.Hand.hk_drawn hn_; replace HT := Aside0.mk (HT.out.below hb_); replace HB := Aside0.mk (below_step HB.out hb_); clear hn_ hb_ O5)
          | (go_at_call 15; refine (all_calls _ HT.out.b).mono ?_; rintro e w6 ⟨u6, rfl, ho, hb⟩; obtain ⟨A6, c6, rfl⟩ := Kd.R_slice ho; replace HB := Aside0.mk (below_step HB.out hb); clear ho hb)
        go_ret
        exact ⟨Go.Proofs.Ytkgjnckkfiepaaa.Hand.hk_bool rfl, HB.out⟩
    · obtain ⟨Aw, cw, rfl⟩ := Kd.R_slice HT.out.r
      obtain ⟨sp, hsp⟩ := sp_some l HG.out
      have HSP := Aside0.mk hsp
      clear hsp
      have G0 := Aside0.mk trivial
      have G1 := Aside0.mk trivial
      go_wp2_with first
        | (go_at_call 15; clear G0; refine (all_calls _ HT.out.a).mono ?_; rintro e w3 ⟨u3, rfl, ho, hb⟩; have HO := Aside0.mk ho; have HBT := Aside0.mk hb; have HT0 := HT; have HB0 := HB; clear ho hb)
        | (go_at_call 17; refine (wharfagelaw0_SpoilTexts.calls 40 (fun _ => True) _ l sp wr _ HBT.out HO.out HSP.out).mono ?_; rintro e w4 ⟨rfl, _, hb, _⟩; clear HT HB; have HT := Aside0.mk (HT0.out.below hb); have HB := Aside0.mk (below_step HB0.out hb); clear hb HT0 HB0 HO HBT)
        | (go_at_call 15; clear G1; refine (all_calls _ HT.out.a).mono ?_; rintro e w5 ⟨u5, rfl, ho, hb⟩; obtain ⟨A5, c5, rfl⟩ := Kd.R_slice ho; have C5 := Aside0.mk (Kd.R_reads' ho).2.1; have O5 := Aside0.mk (Kd.R_reads' ho).2.2; replace HT := Aside0.mk (HT.out.below hb); replace HB := Aside0.mk (below_step HB.out hb); clear ho hb)
        | (go_at_call 16; refine (wharfagelaw0_SameTexts.calls (l.length + 1) A5 c5 l Aw cw l true _ O5.out C5.out (Kd.R_reads' HT.out.r).2.2 (Kd.R_reads' HT.out.r).2.1 (st_same l (by have := HL.out; omega) _ (by omega))).mono ?_; rintro e wn ⟨rfl, hn_⟩; have hb_ := Go.Proofs.Ytkgjnckkfiepaaa.Hand.hk_drawn hn_; replace HT := Aside0.mk (HT.out.below hb_); replace HB := Aside0.mk (below_step HB.out hb_); clear hn_ hb_ O5)
        | (go_at_call 15; refine (all_calls _ HT.out.b).mono ?_; rintro e w6 ⟨u6, rfl, ho, hb⟩; obtain ⟨A6, c6, rfl⟩ := Kd.R_slice ho; replace HB := Aside0.mk (below_step HB.out hb); clear ho hb)
      go_ret
      exact ⟨Go.Proofs.Ytkgjnckkfiepaaa.Hand.hk_bool rfl, HB.out⟩


end Go.Proofs.Ytkgjnckkfiepaaa.PNetAll
