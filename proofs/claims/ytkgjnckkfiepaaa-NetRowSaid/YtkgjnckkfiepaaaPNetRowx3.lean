/- Contracts: what calls of these functions of the program do, each as a plain function; written by a program of this session. -/
import Derived.Test.YtkgjnckkfiepaaaPNetRowx0
import Derived.Test.YtkgjnckkfiepaaaPNetRowx1
import Derived.Test.YtkgjnckkfiepaaaPNetRowx2
namespace Go.Proofs.Ytkgjnckkfiepaaa.PNetRow
open Go.RowKit Go.Proofs.YtkgjnckkfiepaaaW.PrintWords Go.Proofs.YtkgjnckkfiepaaaW.PrintLast Go.Proofs.YtkgjnckkfiepaaaW.PrintMore
attribute [local go_sem] max2_int min2_int max_two min_two max_three min_three max_four min_four   -- for this text's walks alone
set_option linter.unusedVariables false
set_option linter.unusedSimpArgs false

/-! ### wharfagelaw22_NetRow: function 4, by hand -/
def wharfagelaw22_NetRow.f (l0 : List Int) : Option Bool := some true
set_option maxHeartbeats 8000000 in
set_option maxRecDepth 100000 in
open Go.Proofs.Ytkgjnckkfiepaaa.NumMath (and3 and31 wrap64_in) in
open Go.Proofs.Ytkgjnckkfiepaaa.Net Go.Proofs.Ytkgjnckkfiepaaa.Chan in
theorem wharfagelaw22_NetRow.calls (A0 : Option Addr) (c0 : Nat) (l0 : List Int) (r : Bool) (w : World) (hr0 : Kd.C (Kd.int .i64) w A0 l0.length l0) (hc0 : l0.length ≤ c0) (h : wharfagelaw22_NetRow.f l0 = some r) :
    Calls Try.prog 4 #[.slice A0 l0.length c0] w fun e w' => e = .returned (.bool r) ∧ Below w.heap.size w w' := by
  obtain rfl := Option.some.inj h
  clear h
  have HR0 := Aside0.mk hr0
  have HLN := Aside0.mk hr0.2.1
  clear hr0 hc0
  have HB := Aside0.mk (Below.refl w.heap.size w)
  go_enter Try.func4, Try.ntmps4
  go_wp2_with first
    | (go_at_call 18; refine (wharfagelaw22_awake.calls true _ rfl).mono ?_; rintro e wa ⟨rfl, hb⟩; replace HB := Aside0.mk (below_step HB.out hb); clear hb)
    | (go_at_call 7; refine (new_calls _).mono ?_; rintro e w1 ⟨p, ch, rfl, hn, hb⟩; have HT := Aside0.mk (two_start (hn.lower (below_size HB.out))); replace HB := Aside0.mk (below_step HB.out hb); clear hn hb)
  go_loopw [4, 5] (fun vw vi wr => ∃ (i : Nat) (v : Value) (l : List ByteArray), vi = .int .i64 i ∧ i ≤ l0.length ∧ i ≤ 60 ∧ Aside0 (Two w.heap.size p ch wr v vw l l) ∧ Aside0 (goodL l) ∧ Aside0 (Below w.heap.size w wr)) (fun _ vi _ => 60 - (intOf vi).toNat)
  case atStart => exact ⟨0, _, [], rfl, Nat.zero_le _, by omega, HT, ⟨good_nil⟩, HB⟩
  case round =>
    clear HT HB
    obtain ⟨i, v, l, rfl, hi1, hi2, HT, HG, HB⟩ := hrel
    obtain ⟨Aw, cw, rfl⟩ := Kd.R_slice HT.out.r
    by_cases hlt : i < l0.length
    · by_cases hlt2 : i < 60
      · obtain ⟨ad, e0, hx⟩ := Kd.at_int HR0.out (i : Int) (by omega) (by omega)
        subst e0
        rw [Int.toNat_natCast] at hx
        obtain ⟨x, hs⟩ : ∃ x, rd l0 (i : Int) = x := ⟨_, rfl⟩
        rw [hs] at hx
        replace hx := pw_cell_below HB.out hx
        clear hs
        obtain ⟨k, hk, hk31⟩ : ∃ k : Nat, bits .and .i64 (x / 4) 31 = (k : Int) ∧ k ≤ 31 := by
          rw [and31]
          obtain ⟨k, hk⟩ := Int.eq_ofNat_of_zero_le (show 0 ≤ (x / 4) % 32 by omega)
          exact ⟨k, hk, by omega⟩
        have hq : bits .and .i64 x 3 = 0 ∨ bits .and .i64 x 3 = 1 ∨ bits .and .i64 x 3 = 2 ∨ bits .and .i64 x 3 = 3 := by
          rw [and3]
          omega
        have hll := HG.out.1
        have HLL := Aside0.mk hll
        have hi255 : i ≤ 255 := by omega
        obtain ⟨s, hs1, hcv⟩ := byte_text (i : Int) (by omega) (by omega)
        have HS1 := Aside0.mk hs1
        clear hs1
        have hse : (s.toList != s.toList) = false := by simp
        rcases hq with hq | hq | hq | hq
        rotate_left 2
        · by_cases hkl : k < l.length
          · obtain ⟨g, rfl, hlc⟩ := row_at HT.out.r k hkl
            have HKL := Aside0.mk hkl
            obtain ⟨y, hy⟩ : ∃ y, atL l k = y := ⟨_, rfl⟩
            have HY := Aside0.mk hy
            have hye : (y.toList != y.toList) = false := by simp
            obtain ⟨A2, hA2⟩ := row_addr g cw k
            have HA2 := Aside0.mk hA2
            obtain ⟨l2, hl2⟩ : ∃ l2, l.take k ++ l.drop (k + 1) = l2 := ⟨_, rfl⟩
            have HL2 := Aside0.mk hl2
            have he : l.eraseIdx k = l2 := by rw [List.eraseIdx_eq_take_drop_succ, hl2]
            have HS := Aside0.mk (show takeL l (k : Int) = (l2, y, 0) from by rw [take_ok ⟨by omega, by omega⟩, Int.toNat_natCast, he, hy])
            have HG2 := Aside0.mk (show goodL l2 from by have := good_take (k : Int) HG.out; rw [take_ok ⟨by omega, by omega⟩, Int.toNat_natCast, he] at this; exact this)
            have hkc : k ≤ cw := by omega
            have hkc1 : k + 1 ≤ cw := by omega
            clear hl2 he hy
            go_wp2_with first
              | (go_at_call 11; refine (take_to _ _ _ _ _ (below_size HB.out) HT.out.a HS.out).mono ?_; rintro e w1 ⟨rfl, ho⟩; replace HB := Aside0.mk (HB.out.trans (Net2.below HT.out.a (below_size HB.out) ho)); obtain ⟨v1, hT1⟩ := HT.out.net ho; clear HT; have HT := Aside0.mk hT1; clear hT1 ho)
              | (go_at_call 8; clear hx; refine (wharfagelaw0_Num.calls _ _ _ rfl).mono ?_; rintro e wn ⟨rfl, hn_⟩; have hb_ := Go.Proofs.Ytkgjnckkfiepaaa.Hand.hk_drawn hn_; replace HT := Aside0.mk (HT.out.below hb_); replace HB := Aside0.mk (below_step HB.out hb_); have hx := row_cell HT.out.r k HKL.out; rw [HY.out] at hx; have HKT := Aside0.mk (row_take HT.out.r k HKL.out); have HKD := Aside0.mk (row_drop HT.out.r k HKL.out HA2.out); have HTn := HT; have HBn := Aside0.mk (Below.refl wn.heap.size wn); clear hn_ hb_)
              | ((with_reducible refine gate_dst (N := 113) rfl ?_); refine Kd.R_lit Kd.string _ 9 ?hg (N := 113) ?hd (xs := ([] : List ByteArray)) (inner := []) (ok := fun _ => True) (okp := fun _ => True) ?hr ?hp (fun _ hk => hk) trivial (Below.refl _ _) (Nat.le_refl _) (by simp) ?_; (case hd => rfl); (case hg => rfl); (case hr => first | (go_simp; done) | (go_simp; rfl)); (case hp => exact (Reps.none _ _)); intro v133 w3 ho4 hb hg_ hnew_; clear hg_ hnew_; have HO := Aside0.mk ho4; replace HBn := Aside0.mk hb; clear ho4 hb)
              | ((with_reducible refine gate_builtin (b := .append) (xs := #[.tmp 113, .tmp 116]) rfl ?_); at_builtin; refine Kd.R_append_rows Kd.string (w0 := wn) wn.heap.size rfl (.tmp 113) (.tmp 116) 22 9 (.string ⟨#[]⟩) 16 rfl Try.underlying22 info9 rfl (by decide) (by omega) v133 [] (l.take k) _ _ _ (fun _ => True) (fun _ => False) rfl rfl ?aO ?aR (fun _ _ h => h) (fun _ h => h.elim) ?aF ?aB ?aS ?aL ?_; (case aR => exact Kd.C_below HKT.out HBn.out); (case aB => exact HBn.out); (case aF => exact (fun _ _ => trivial)); (case aO => exact HO.out); (case aS => exact below_size HBn.out); (case aL => simp; omega); intro v136 w5 ho hb hg hat; rw [List.nil_append] at ho; have HO2 := Aside0.mk ho; replace HBn := Aside0.mk hb; clear ho hb hg hat)
              | ((with_reducible refine gate_builtin (b := .append) (xs := #[.tmp 118, .tmp 122]) rfl ?_); at_builtin; refine Kd.R_append_rows Kd.string (w0 := wn) wn.heap.size rfl (.tmp 118) (.tmp 122) 22 9 (.string ⟨#[]⟩) 16 rfl Try.underlying22 info9 rfl (by decide) (by omega) v136 (l.take k) (l.drop (k + 1)) _ _ _ (fun _ => True) (fun _ => False) rfl rfl ?bO ?bR (fun _ _ h => h) (fun _ h => h.elim) ?bF ?bB ?bS ?bL ?_; (case bR => exact Kd.C_below HKD.out HBn.out); (case bB => exact HBn.out); (case bF => exact (fun _ _ => trivial)); (case bO => exact HO2.out); (case bS => exact below_size HBn.out); (case bL => simp; omega); intro v137 w6 ho hb hg hat; rw [HL2.out] at ho; have HT2 := Aside0.mk (HTn.out.fresh hb (below_size HB.out) ho); replace HB := Aside0.mk (below_step HB.out hb); clear HT; have HT := HT2; clear HT2 HTn HBn; obtain ⟨A2w, c2w, rfl⟩ := Kd.R_slice ho; clear ho hb hg hat)
              | (go_at_call 15; refine (all_calls _ HT.out.a).mono ?_; rintro e w5 ⟨u5, rfl, ho, hb⟩; obtain ⟨A5, c5, rfl⟩ := Kd.R_slice ho; have C5 := Aside0.mk (Kd.R_reads' ho).2.1; have O5 := Aside0.mk (Kd.R_reads' ho).2.2; replace HT := Aside0.mk (HT.out.below hb); replace HB := Aside0.mk (below_step HB.out hb); clear ho hb)
              | (go_at_call 16; refine (wharfagelaw0_SameTexts.calls 33 A5 c5 l2 A2w c2w l2 true _ O5.out C5.out (Kd.R_reads' HT.out.r).2.2 (Kd.R_reads' HT.out.r).2.1 (st_same l2 (by have := HG2.out.1; omega) _ (by have := HG2.out.1; omega))).mono ?_; rintro e wn ⟨rfl, hn_⟩; have hb_ := Go.Proofs.Ytkgjnckkfiepaaa.Hand.hk_drawn hn_; replace HT := Aside0.mk (HT.out.below hb_); replace HB := Aside0.mk (below_step HB.out hb_); clear hn_ hb_ O5)
            go_roundw
            case rel => exact ⟨i + 1, _, l2, by go_num, by omega, by omega, HT, HG2, HB⟩
            case measure => simp [intOf]; omega
          · have HS := Aside0.mk (show takeL l (k : Int) = (l, ⟨#[]⟩, 2202) from take_no (fun hh => by have := hh.2; omega))
            have HG2 := HG
            go_wp2_with first
              | (go_at_call 11; refine (take_to _ _ _ _ _ (below_size HB.out) HT.out.a HS.out).mono ?_; rintro e w1 ⟨rfl, ho⟩; replace HB := Aside0.mk (HB.out.trans (Net2.below HT.out.a (below_size HB.out) ho)); obtain ⟨v1, hT1⟩ := HT.out.net ho; clear HT; have HT := Aside0.mk hT1; clear hT1 ho)
              | (go_at_call 8; refine (wharfagelaw0_Num.calls _ _ _ rfl).mono ?_; rintro e wn ⟨rfl, hn_⟩; have hb_ := Go.Proofs.Ytkgjnckkfiepaaa.Hand.hk_drawn hn_; replace HT := Aside0.mk (HT.out.below hb_); replace HB := Aside0.mk (below_step HB.out hb_); clear hn_ hb_)
              | (go_at_call 15; refine (all_calls _ HT.out.a).mono ?_; rintro e w5 ⟨u5, rfl, ho, hb⟩; obtain ⟨A5, c5, rfl⟩ := Kd.R_slice ho; have C5 := Aside0.mk (Kd.R_reads' ho).2.1; have O5 := Aside0.mk (Kd.R_reads' ho).2.2; replace HT := Aside0.mk (HT.out.below hb); replace HB := Aside0.mk (below_step HB.out hb); clear ho hb)
              | (go_at_call 16; refine (wharfagelaw0_SameTexts.calls 33 A5 c5 l Aw cw l true _ O5.out C5.out (Kd.R_reads' HT.out.r).2.2 (Kd.R_reads' HT.out.r).2.1 (st_same l (by have := HG2.out.1; omega) _ (by have := HG2.out.1; omega))).mono ?_; rintro e wn ⟨rfl, hn_⟩; have hb_ := Go.Proofs.Ytkgjnckkfiepaaa.Hand.hk_drawn hn_; replace HT := Aside0.mk (HT.out.below hb_); replace HB := Aside0.mk (below_step HB.out hb_); clear hn_ hb_ O5)
            go_roundw
            case rel => exact ⟨i + 1, _, l, by go_num, by omega, by omega, HT, HG2, HB⟩
            case measure => simp [intOf]; omega
        · by_cases hkl : k < l.length
          · obtain ⟨g, rfl, hlc⟩ := row_at HT.out.r k hkl
            have HKL := Aside0.mk hkl
            obtain ⟨y, hy⟩ : ∃ y, atL l k = y := ⟨_, rfl⟩
            have HY := Aside0.mk hy
            have HGY := Aside0.mk (good_at HG.out k hkl)
            rw [hy] at HGY
            by_cases hl : l.length < 32
            · obtain ⟨l2, hl2⟩ : ∃ l2, l ++ [y] = l2 := ⟨_, rfl⟩
              have hdl : decide ((l.length : Int) < 32) = true := decide_eq_true (by omega)
              have HL2 := Aside0.mk hl2
              have HS := Aside0.mk (show copyL l (k : Int) = (l2, 0) from by rw [copy_ok hl ⟨by omega, by omega⟩, hy, hl2])
              have HG2 := Aside0.mk (show goodL l2 from hl2 ▸ good_snoc HG.out hl HGY.out.1 HGY.out.2)
              clear hl2 hy
              go_wp2_with first
                | (go_at_call 13; refine (copy_to _ _ _ _ (below_size HB.out) HT.out.a HS.out).mono ?_; rintro e w1 ⟨rfl, ho⟩; replace HB := Aside0.mk (HB.out.trans (Net2.below HT.out.a (below_size HB.out) ho)); obtain ⟨v1, hT1⟩ := HT.out.net ho; clear HT; have HT := Aside0.mk hT1; clear hT1 ho)
                | (go_at_call 8; clear hx; refine (wharfagelaw0_Num.calls _ _ _ rfl).mono ?_; rintro e wn ⟨rfl, hn_⟩; have hb_ := Go.Proofs.Ytkgjnckkfiepaaa.Hand.hk_drawn hn_; replace HT := Aside0.mk (HT.out.below hb_); replace HB := Aside0.mk (below_step HB.out hb_); have hx := row_cell HT.out.r k HKL.out; rw [HY.out] at hx; clear hn_ hb_)
                | ((with_reducible refine gate_builtin (b := .append) (xs := #[.tmp 57, .tmp 62]) rfl ?_); at_builtin; refine Kd.R_append Kd.string (w0 := w) w.heap.size rfl (.tmp 57) (.tmp 62) 22 9 (.string ⟨#[]⟩) 16 rfl Try.underlying22 info9 rfl (by decide) (by omega) _ l y [.string y] (fun _ => True) (fun _ => False) rfl rfl ?aP (fun _ hk => hk.elim) ?aF ?aO ?aB ?aS ?aL ?_; (case aP => exact rfl); (case aF => exact (fun _ _ => trivial)); (case aO => exact HT.out.r); (case aB => exact HB.out); (case aS => exact below_size HB.out); (case aL => have := HLL.out; omega); intro vw2 w2 ho hb hg hat; rw [HL2.out] at ho; replace HB := Aside0.mk hb; have HT2 := Aside0.mk (HT.out.row ho hg hat); clear HT; have HT := HT2; clear HT2; obtain ⟨A2w, c2w, rfl⟩ := Kd.R_slice ho; clear ho hb hg hat)
                | (go_at_call 15; refine (all_calls _ HT.out.a).mono ?_; rintro e w5 ⟨u5, rfl, ho, hb⟩; obtain ⟨A5, c5, rfl⟩ := Kd.R_slice ho; have C5 := Aside0.mk (Kd.R_reads' ho).2.1; have O5 := Aside0.mk (Kd.R_reads' ho).2.2; replace HT := Aside0.mk (HT.out.below hb); replace HB := Aside0.mk (below_step HB.out hb); clear ho hb)
                | (go_at_call 16; refine (wharfagelaw0_SameTexts.calls 33 A5 c5 l2 A2w c2w l2 true _ O5.out C5.out (Kd.R_reads' HT.out.r).2.2 (Kd.R_reads' HT.out.r).2.1 (st_same l2 (by have := HG2.out.1; omega) _ (by have := HG2.out.1; omega))).mono ?_; rintro e wn ⟨rfl, hn_⟩; have hb_ := Go.Proofs.Ytkgjnckkfiepaaa.Hand.hk_drawn hn_; replace HT := Aside0.mk (HT.out.below hb_); replace HB := Aside0.mk (below_step HB.out hb_); clear hn_ hb_ O5)
              go_roundw
              case rel => exact ⟨i + 1, _, l2, by go_num, by omega, by omega, HT, HG2, HB⟩
              case measure => simp [intOf]; omega
            · have HS := Aside0.mk (show copyL l (k : Int) = (l, 2201) from copy_full (by omega) ⟨by omega, by omega⟩)
              have HG2 := HG
              clear hy
              go_wp2_with first
                | (go_at_call 13; refine (copy_to _ _ _ _ (below_size HB.out) HT.out.a HS.out).mono ?_; rintro e w1 ⟨rfl, ho⟩; replace HB := Aside0.mk (HB.out.trans (Net2.below HT.out.a (below_size HB.out) ho)); obtain ⟨v1, hT1⟩ := HT.out.net ho; clear HT; have HT := Aside0.mk hT1; clear hT1 ho)
                | (go_at_call 8; refine (wharfagelaw0_Num.calls _ _ _ rfl).mono ?_; rintro e wn ⟨rfl, hn_⟩; have hb_ := Go.Proofs.Ytkgjnckkfiepaaa.Hand.hk_drawn hn_; replace HT := Aside0.mk (HT.out.below hb_); replace HB := Aside0.mk (below_step HB.out hb_); clear hn_ hb_)
                | (go_at_call 15; refine (all_calls _ HT.out.a).mono ?_; rintro e w5 ⟨u5, rfl, ho, hb⟩; obtain ⟨A5, c5, rfl⟩ := Kd.R_slice ho; have C5 := Aside0.mk (Kd.R_reads' ho).2.1; have O5 := Aside0.mk (Kd.R_reads' ho).2.2; replace HT := Aside0.mk (HT.out.below hb); replace HB := Aside0.mk (below_step HB.out hb); clear ho hb)
                | (go_at_call 16; refine (wharfagelaw0_SameTexts.calls 33 A5 c5 l (some ⟨g, 0, none⟩) cw l true _ O5.out C5.out (Kd.R_reads' HT.out.r).2.2 (Kd.R_reads' HT.out.r).2.1 (st_same l (by have := HG2.out.1; omega) _ (by have := HG2.out.1; omega))).mono ?_; rintro e wn ⟨rfl, hn_⟩; have hb_ := Go.Proofs.Ytkgjnckkfiepaaa.Hand.hk_drawn hn_; replace HT := Aside0.mk (HT.out.below hb_); replace HB := Aside0.mk (below_step HB.out hb_); clear hn_ hb_ O5)
              go_roundw
              case rel => exact ⟨i + 1, _, l, by go_num, by omega, by omega, HT, HG2, HB⟩
              case measure => simp [intOf]; omega
          · have HS := Aside0.mk (show copyL l (k : Int) = (l, 2202) from copy_no (fun hh => by have := hh.2; omega))
            have HG2 := HG
            go_wp2_with first
              | (go_at_call 13; refine (copy_to _ _ _ _ (below_size HB.out) HT.out.a HS.out).mono ?_; rintro e w1 ⟨rfl, ho⟩; replace HB := Aside0.mk (HB.out.trans (Net2.below HT.out.a (below_size HB.out) ho)); obtain ⟨v1, hT1⟩ := HT.out.net ho; clear HT; have HT := Aside0.mk hT1; clear hT1 ho)
              | (go_at_call 8; refine (wharfagelaw0_Num.calls _ _ _ rfl).mono ?_; rintro e wn ⟨rfl, hn_⟩; have hb_ := Go.Proofs.Ytkgjnckkfiepaaa.Hand.hk_drawn hn_; replace HT := Aside0.mk (HT.out.below hb_); replace HB := Aside0.mk (below_step HB.out hb_); clear hn_ hb_)
              | (go_at_call 15; refine (all_calls _ HT.out.a).mono ?_; rintro e w5 ⟨u5, rfl, ho, hb⟩; obtain ⟨A5, c5, rfl⟩ := Kd.R_slice ho; have C5 := Aside0.mk (Kd.R_reads' ho).2.1; have O5 := Aside0.mk (Kd.R_reads' ho).2.2; replace HT := Aside0.mk (HT.out.below hb); replace HB := Aside0.mk (below_step HB.out hb); clear ho hb)
              | (go_at_call 16; refine (wharfagelaw0_SameTexts.calls 33 A5 c5 l Aw cw l true _ O5.out C5.out (Kd.R_reads' HT.out.r).2.2 (Kd.R_reads' HT.out.r).2.1 (st_same l (by have := HG2.out.1; omega) _ (by have := HG2.out.1; omega))).mono ?_; rintro e wn ⟨rfl, hn_⟩; have hb_ := Go.Proofs.Ytkgjnckkfiepaaa.Hand.hk_drawn hn_; replace HT := Aside0.mk (HT.out.below hb_); replace HB := Aside0.mk (below_step HB.out hb_); clear hn_ hb_ O5)
            go_roundw
            case rel => exact ⟨i + 1, _, l, by go_num, by omega, by omega, HT, HG2, HB⟩
            case measure => simp [intOf]; omega
        all_goals
          by_cases hl : l.length < 32
          · obtain ⟨l2, hl2⟩ : ∃ l2, l ++ [s] = l2 := ⟨_, rfl⟩
            have hdl : decide ((l.length : Int) < 32) = true := decide_eq_true (by omega)
            have HL2 := Aside0.mk hl2
            have HS := Aside0.mk (show sendL l s = (l2, 0) from hl2 ▸ send_ok hl (by have := HS1.out; omega) (by have := HS1.out; omega))
            have HG2 := Aside0.mk (show goodL l2 from hl2 ▸ good_snoc HG.out hl (by have := HS1.out; omega) (by have := HS1.out; omega))
            clear hl2
            go_wp2_with first
              | (go_at_call 9; replace HT := Aside0.mk (HT.out.below (below_alloc (Below.refl _ _) (.cells #[.int .u8 (i : Int)] 5))); replace HB := Aside0.mk (below_alloc HB.out (.cells #[.int .u8 (i : Int)] 5)); refine (send_to _ _ _ _ (below_size HB.out) HT.out.a HS.out).mono ?_; rintro e w1 ⟨rfl, ho⟩; replace HB := Aside0.mk (HB.out.trans (Net2.below HT.out.a (below_size HB.out) ho)); obtain ⟨v1, hT1⟩ := HT.out.net ho; clear HT; have HT := Aside0.mk hT1; clear hT1 ho)
              | (go_at_call 8; refine (wharfagelaw0_Num.calls _ _ _ rfl).mono ?_; rintro e wn ⟨rfl, hn_⟩; have hb_ := Go.Proofs.Ytkgjnckkfiepaaa.Hand.hk_drawn hn_; replace HT := Aside0.mk (HT.out.below hb_); replace HB := Aside0.mk (below_step HB.out hb_); clear hn_ hb_)
              | ((with_reducible refine gate_builtin (b := .append) (xs := #[.tmp 83, .tmp 85]) rfl ?_); at_builtin; refine Kd.R_append Kd.string (w0 := w) w.heap.size rfl (.tmp 83) (.tmp 85) 22 9 (.string ⟨#[]⟩) 16 rfl Try.underlying22 info9 rfl (by decide) (by omega) _ l s [.string s] (fun _ => True) (fun _ => False) rfl rfl ?aP (fun _ hk => hk.elim) ?aF ?aO ?aB ?aS ?aL ?_; (case aP => exact rfl); (case aF => exact (fun _ _ => trivial)); (case aO => exact HT.out.r); (case aB => exact HB.out); (case aS => exact below_size HB.out); (case aL => have := HLL.out; omega); intro vw2 w2 ho hb hg hat; rw [HL2.out] at ho; replace HB := Aside0.mk hb; have HT2 := Aside0.mk (HT.out.row ho hg hat); clear HT; have HT := HT2; clear HT2; obtain ⟨A2w, c2w, rfl⟩ := Kd.R_slice ho; clear ho hb hg hat)
              | (go_at_call 15; refine (all_calls _ HT.out.a).mono ?_; rintro e w5 ⟨u5, rfl, ho, hb⟩; obtain ⟨A5, c5, rfl⟩ := Kd.R_slice ho; have C5 := Aside0.mk (Kd.R_reads' ho).2.1; have O5 := Aside0.mk (Kd.R_reads' ho).2.2; replace HT := Aside0.mk (HT.out.below hb); replace HB := Aside0.mk (below_step HB.out hb); clear ho hb)
              | (go_at_call 16; refine (wharfagelaw0_SameTexts.calls 33 A5 c5 l2 A2w c2w l2 true _ O5.out C5.out (Kd.R_reads' HT.out.r).2.2 (Kd.R_reads' HT.out.r).2.1 (st_same l2 (by have := HG2.out.1; omega) _ (by have := HG2.out.1; omega))).mono ?_; rintro e wn ⟨rfl, hn_⟩; have hb_ := Go.Proofs.Ytkgjnckkfiepaaa.Hand.hk_drawn hn_; replace HT := Aside0.mk (HT.out.below hb_); replace HB := Aside0.mk (below_step HB.out hb_); clear hn_ hb_ O5)
            go_roundw
            case rel => exact ⟨i + 1, _, l2, by go_num, by omega, by omega, HT, HG2, HB⟩
            case measure => simp [intOf]; omega
          · have HS := Aside0.mk (show sendL l s = (l, 2201) from send_full (by omega) (by have := HS1.out; omega) (by have := HS1.out; omega))
            have HG2 := HG
            go_wp2_with first
              | (go_at_call 9; replace HT := Aside0.mk (HT.out.below (below_alloc (Below.refl _ _) (.cells #[.int .u8 (i : Int)] 5))); replace HB := Aside0.mk (below_alloc HB.out (.cells #[.int .u8 (i : Int)] 5)); refine (send_to _ _ _ _ (below_size HB.out) HT.out.a HS.out).mono ?_; rintro e w1 ⟨rfl, ho⟩; replace HB := Aside0.mk (HB.out.trans (Net2.below HT.out.a (below_size HB.out) ho)); obtain ⟨v1, hT1⟩ := HT.out.net ho; clear HT; have HT := Aside0.mk hT1; clear hT1 ho)
              | (go_at_call 8; refine (wharfagelaw0_Num.calls _ _ _ rfl).mono ?_; rintro e wn ⟨rfl, hn_⟩; have hb_ := Go.Proofs.Ytkgjnckkfiepaaa.Hand.hk_drawn hn_; replace HT := Aside0.mk (HT.out.below hb_); replace HB := Aside0.mk (below_step HB.out hb_); clear hn_ hb_)
              | (go_at_call 15; refine (all_calls _ HT.out.a).mono ?_; rintro e w5 ⟨u5, rfl, ho, hb⟩; obtain ⟨A5, c5, rfl⟩ := Kd.R_slice ho; have C5 := Aside0.mk (Kd.R_reads' ho).2.1; have O5 := Aside0.mk (Kd.R_reads' ho).2.2; replace HT := Aside0.mk (HT.out.below hb); replace HB := Aside0.mk (below_step HB.out hb); clear ho hb)
              | (go_at_call 16; refine (wharfagelaw0_SameTexts.calls 33 A5 c5 l Aw cw l true _ O5.out C5.out (Kd.R_reads' HT.out.r).2.2 (Kd.R_reads' HT.out.r).2.1 (st_same l (by have := HG2.out.1; omega) _ (by have := HG2.out.1; omega))).mono ?_; rintro e wn ⟨rfl, hn_⟩; have hb_ := Go.Proofs.Ytkgjnckkfiepaaa.Hand.hk_drawn hn_; replace HT := Aside0.mk (HT.out.below hb_); replace HB := Aside0.mk (below_step HB.out hb_); clear hn_ hb_ O5)
            go_roundw
            case rel => exact ⟨i + 1, _, l, by go_num, by omega, by omega, HT, HG2, HB⟩
            case measure => simp [intOf]; omega
      · go_wp2_with fail
        go_ret
        exact ⟨Go.Proofs.Ytkgjnckkfiepaaa.Hand.hk_bool rfl, HB.out⟩
    · go_wp2_with fail
      go_ret
      exact ⟨Go.Proofs.Ytkgjnckkfiepaaa.Hand.hk_bool rfl, HB.out⟩


end Go.Proofs.Ytkgjnckkfiepaaa.PNetRow
