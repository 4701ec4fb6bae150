/- Contracts: what calls of these functions of the program do, each as a plain function; written by a program of this session. -/
import Derived.Test.YtkgjnckkfiepaaaPNetFormsx0
import Derived.Test.YtkgjnckkfiepaaaPNetFormsx1
namespace Go.Proofs.Ytkgjnckkfiepaaa.PNetForms
open Go.RowKit Go.Proofs.YtkgjnckkfiepaaaW.PrintWords Go.Proofs.YtkgjnckkfiepaaaW.PrintLast Go.Proofs.YtkgjnckkfiepaaaW.PrintMore
attribute [local go_sem] max2_int min2_int max_two min_two max_three min_three max_four min_four   -- for this text's walks alone
set_option linter.unusedVariables false
set_option linter.unusedSimpArgs false

/-! ### wharfagelaw22_awake: function 18, by hand -/
def wharfagelaw22_awake.f : Option Bool := some true
theorem st_loop (l : List ByteArray) (hl : l.length ≤ 9223372036854775806) (d : Nat) : ∀ (k i : Nat), l.length - i ≤ d → d < k → i ≤ l.length → wharfagelaw0_SameTexts.l0 k l l (i : Int) = some true := by
  induction d with
  | zero =>
    intro k i hd hk hi
    obtain ⟨k, rfl⟩ : ∃ m, k = m + 1 := ⟨k - 1, by omega⟩
    simp only [wharfagelaw0_SameTexts.l0]
    rw [if_neg (by omega)]
  | succ d ih =>
    intro k i hd hk hi
    obtain ⟨k, rfl⟩ : ∃ m, k = m + 1 := ⟨k - 1, by omega⟩
    simp only [wharfagelaw0_SameTexts.l0]
    by_cases h : (i : Int) < (l.length : Int)
    · rw [if_pos h, if_pos (show (0 : Int) ≤ (i : Int) by omega), if_pos h, if_pos trivial, show wrap64 ((i : Int) + 1) = ((i + 1 : Nat) : Int) by unfold wrap64; omega]
      exact ih k (i + 1) (by omega) (by omega) (by omega)
    · rw [if_neg h]
theorem st_same (l : List ByteArray) (hl : l.length ≤ 9223372036854775806) (k : Nat) (hk : l.length < k) : wharfagelaw0_SameTexts.f k l l = some true := by
  unfold wharfagelaw0_SameTexts.f
  rw [if_pos rfl]
  exact st_loop l hl l.length k 0 (by omega) (by omega) (by omega)
set_option maxHeartbeats 8000000 in
set_option maxRecDepth 100000 in
open Go.Proofs.Ytkgjnckkfiepaaa.Net Go.Proofs.Ytkgjnckkfiepaaa.Chan in
theorem wharfagelaw22_awake.calls (r : Bool) (w : World) (h : wharfagelaw22_awake.f = some r) :
    Calls Try.prog 18 #[] w fun e w' => e = .returned (.bool r) ∧ Below w.heap.size w w' := by
  obtain rfl := Option.some.inj h
  clear h
  have HB := Aside0.mk (Below.refl w.heap.size w)
  have F0 := Aside0.mk trivial
  have F1 := Aside0.mk trivial
  have F2 := Aside0.mk trivial
  have F3 := Aside0.mk trivial
  have F4 := Aside0.mk trivial
  have F5 := Aside0.mk trivial
  have G0 := Aside0.mk trivial
  go_enter Try.func18, Try.ntmps18
  go_wp2_with first
    | (go_at_call 7; refine (new_calls _).mono ?_; rintro e w0 ⟨p, ch, rfl, hn, hb⟩; have HN := Aside0.mk hn; replace HB := Aside0.mk (below_step HB.out hb); clear hn hb)
    | (go_at_call 9; clear F0; refine (send_to ⟨#[120]⟩ [⟨#[120]⟩] 0 _ (below_size HB.out) HN.out (by rfl)).mono ?_; rintro e w1 ⟨rfl, ho⟩; have HB2 := Aside0.mk (Net2.below HN.out (below_size HB.out) ho); obtain ⟨v0, hn, _, _⟩ := ho; clear HN; have HN := Aside0.mk hn; clear hn; replace HB := Aside0.mk (HB.out.trans HB2.out); clear HB2)
    | (go_at_call 9; clear F1; refine (send_to ⟨#[121]⟩ [⟨#[120]⟩, ⟨#[121]⟩] 0 _ (below_size HB.out) HN.out (by rfl)).mono ?_; rintro e w2 ⟨rfl, ho⟩; have HB2 := Aside0.mk (Net2.below HN.out (below_size HB.out) ho); obtain ⟨v1, hn, _, _⟩ := ho; clear HN; have HN := Aside0.mk hn; clear hn; replace HB := Aside0.mk (HB.out.trans HB2.out); clear HB2)
    | (go_at_call 9; clear F2; refine (send_to ⟨#[]⟩ [⟨#[120]⟩, ⟨#[121]⟩] 2200 _ (below_size HB.out) HN.out (by rfl)).mono ?_; rintro e w3 ⟨rfl, ho⟩; have HB2 := Aside0.mk (Net2.below HN.out (below_size HB.out) ho); obtain ⟨v2, hn, _, _⟩ := ho; clear HN; have HN := Aside0.mk hn; clear hn; replace HB := Aside0.mk (HB.out.trans HB2.out); clear HB2)
    | (go_at_call 13; clear F3; refine (copy_to 0 [⟨#[120]⟩, ⟨#[121]⟩, ⟨#[120]⟩] 0 _ (below_size HB.out) HN.out (by rfl)).mono ?_; rintro e w4 ⟨rfl, ho⟩; have HB2 := Aside0.mk (Net2.below HN.out (below_size HB.out) ho); obtain ⟨v3, hn, _, _⟩ := ho; clear HN; have HN := Aside0.mk hn; clear hn; replace HB := Aside0.mk (HB.out.trans HB2.out); clear HB2)
    | (go_at_call 11; clear F4; refine (take_to 1 [⟨#[120]⟩, ⟨#[120]⟩] ⟨#[121]⟩ 0 _ (below_size HB.out) HN.out (by rfl)).mono ?_; rintro e w5 ⟨rfl, ho⟩; have HB2 := Aside0.mk (Net2.below HN.out (below_size HB.out) ho); obtain ⟨v4, hn, _, _⟩ := ho; clear HN; have HN := Aside0.mk hn; clear hn; replace HB := Aside0.mk (HB.out.trans HB2.out); clear HB2)
    | (go_at_call 11; clear F5; refine (take_to 5 [⟨#[120]⟩, ⟨#[120]⟩] ⟨#[]⟩ 2202 _ (below_size HB.out) HN.out (by rfl)).mono ?_; rintro e w6 ⟨rfl, ho⟩; have HB2 := Aside0.mk (Net2.below HN.out (below_size HB.out) ho); obtain ⟨v5, hn, _, _⟩ := ho; clear HN; have HN := Aside0.mk hn; clear hn; replace HB := Aside0.mk (HB.out.trans HB2.out); clear HB2)
    | (go_at_call 15; clear G0; refine (all_calls _ HN.out).mono ?_; rintro e w8 ⟨v8, rfl, ho, hb⟩; obtain ⟨A8, c8, rfl⟩ := Kd.R_slice ho; have C8 := Aside0.mk (Kd.R_reads' ho).2.1; have O8 := Aside0.mk (Kd.R_reads' ho).2.2; replace HN := Aside0.mk (HN.out.below hb); replace HB := Aside0.mk (below_step HB.out hb); clear ho hb)
    | (go_at_call 16; refine (wharfagelaw0_SameTexts.calls 9 A8 c8 _ (some ⟨w8.heap.size, 0, none⟩) 2 [⟨#[120]⟩, ⟨#[120]⟩] true _ (Kd.C_alloc O8.out _) C8.out (Go.Proofs.Ytkgjnckkfiepaaa.Hand.hk_lit (fun x => [Value.string x]) (fun _ => rfl) (fun _ _ => rfl) #[.string ⟨#[120]⟩, .string ⟨#[120]⟩] 9 [⟨#[120]⟩, ⟨#[120]⟩] (by decide) rfl) (by decide) (st_same _ (by decide) _ (by decide))).mono ?_; rintro e wn ⟨rfl, hn_⟩; have hb_ := below_step (below_alloc (Below.refl w8.heap.size w8) _) (Go.Proofs.Ytkgjnckkfiepaaa.Hand.hk_drawn hn_); replace HN := Aside0.mk (HN.out.below hb_); replace HB := Aside0.mk (below_step HB.out hb_); clear hn_ hb_)
    | (go_at_call 8; refine (wharfagelaw0_Num.calls _ _ _ rfl).mono ?_; rintro e wn ⟨rfl, hn_⟩; have hb_ := Go.Proofs.Ytkgjnckkfiepaaa.Hand.hk_drawn hn_; replace HN := Aside0.mk (HN.out.below hb_); replace HB := Aside0.mk (below_step HB.out hb_); clear hn_ hb_)
    | (go_at_call 9; refine (send_none _ _).mono ?_; rintro e wz ⟨rfl, hw⟩; obtain rfl := hw)
    | (go_at_call 15; refine (all_none _).mono ?_; rintro e wz ⟨rfl, hw⟩; obtain rfl := hw)
  go_ret
  exact ⟨Go.Proofs.Ytkgjnckkfiepaaa.Hand.hk_bool rfl, HB.out⟩


/-! ### wharfagelaw22_NetForms: function 5, by hand -/
def wharfagelaw22_NetForms.f (a0 : Int) : Option Bool := some true
set_option maxHeartbeats 8000000 in
set_option maxRecDepth 100000 in
open Go.Proofs.Ytkgjnckkfiepaaa.NumMath (and1023 wrap_u64_mod wrap64_in) in
open Go.Proofs.Ytkgjnckkfiepaaa.Net Go.Proofs.Ytkgjnckkfiepaaa.Chan in
theorem wharfagelaw22_NetForms.calls (a0 : Int) (r : Bool) (w : World) (h : wharfagelaw22_NetForms.f a0 = some r) :
    Calls Try.prog 5 #[.int .i64 a0] w fun e w' => e = .returned (.bool r) ∧ Below w.heap.size w w' := by
  obtain rfl := Option.some.inj h
  clear h
  obtain ⟨d, hd, hd1, hd2⟩ : ∃ d : Nat, wrap64 (1 + bits .and .i64 a0 1023) = (d : Int) ∧ 1 ≤ d ∧ d ≤ 1024 := by
    rw [and1023, wrap64_in _ (by omega) (by omega)]
    obtain ⟨d, hd⟩ := Int.eq_ofNat_of_zero_le (show 0 ≤ 1 + a0 % 1024 by omega)
    exact ⟨d, hd, by omega, by omega⟩
  obtain ⟨s1, cs1, k1, hs1, hm1, hc1⟩ := make_text (512 + d) (512 + (d : Int)) (by omega) (by omega)
  obtain ⟨s2, cs2, k2, hs2, hm2, hc2⟩ := make_text 512 512 (by omega) (by omega)
  have HD := Aside0.mk (And.intro hd1 hd2)
  have HA := Aside0.mk (show sendL [] s1 = ([], 2200) from send_long (by omega))
  have HC := Aside0.mk (show sendL [] s2 = ([s2], 0) from send_ok (by decide) (by omega) (by omega))
  clear hs1 hs2
  have FHA := Aside0.mk trivial
  have FHC := Aside0.mk trivial
  have HB := Aside0.mk (Below.refl w.heap.size w)
  go_enter Try.func5, Try.ntmps5
  go_wp2_with first
    | (go_at_call 18; refine (wharfagelaw22_awake.calls true _ rfl).mono ?_; rintro e wa ⟨rfl, hb⟩; replace HB := Aside0.mk (below_step HB.out hb); clear hb)
    | (go_at_call 7; refine (new_calls _).mono ?_; rintro e w1 ⟨p, ch, rfl, hn, hb⟩; have HN := Aside0.mk (hn.lower (below_size HB.out)); replace HB := Aside0.mk (below_step HB.out hb); clear hn hb)
    | (go_at_call 9; clear FHA; replace HN := Aside0.mk (HN.out.below (below_alloc (Below.refl _ _) (.cells cs1 5))); replace HB := Aside0.mk (below_alloc HB.out (.cells cs1 5)); refine (send_to _ _ _ _ (below_size HB.out) HN.out HA.out).mono ?_; rintro e w1 ⟨rfl, ho⟩; replace HB := Aside0.mk (HB.out.trans (Net2.below HN.out (below_size HB.out) ho)); obtain ⟨v1, hT1, _, _⟩ := ho; clear HN; have HN := Aside0.mk hT1; clear hT1)
    | (go_at_call 9; clear FHC; replace HN := Aside0.mk (HN.out.below (below_alloc (Below.refl _ _) (.cells cs2 5))); replace HB := Aside0.mk (below_alloc HB.out (.cells cs2 5)); refine (send_to _ _ _ _ (below_size HB.out) HN.out HC.out).mono ?_; rintro e w1 ⟨rfl, ho⟩; replace HB := Aside0.mk (HB.out.trans (Net2.below HN.out (below_size HB.out) ho)); obtain ⟨v1, hT1, _, _⟩ := ho; clear HN; have HN := Aside0.mk hT1; clear hT1)
  clear HA HC hm1 hm2 hc1 hc2
  go_loopw [7] (fun vi wr => ∃ (i : Nat) (v : Value) (l : List ByteArray), vi = .int .i64 i ∧ 1 ≤ i ∧ i ≤ 32 ∧ Aside0 (NetAt w.heap.size wr p ch v l) ∧ Aside0 (l.length = i) ∧ Aside0 (Below w.heap.size w wr)) (fun vi _ => 32 - (intOf vi).toNat)
  case atStart => exact ⟨1, _, _, rfl, by omega, by omega, HN, ⟨rfl⟩, HB⟩
  case round =>
    clear HN HB
    obtain ⟨i, v, l, rfl, hi1, hi2, HN, HL, HB⟩ := hrel
    by_cases hlt : i < 32
    · have HS := Aside0.mk (show sendL l ⟨#[120]⟩ = (l ++ [⟨#[120]⟩], 0) from send_ok (by have := HL.out; omega) (by decide) (by decide))
      have FHS := Aside0.mk trivial
      go_wp2_with first
        | (go_at_call 9; clear FHS; refine (send_to _ _ _ _ (below_size HB.out) HN.out HS.out).mono ?_; rintro e w1 ⟨rfl, ho⟩; replace HB := Aside0.mk (HB.out.trans (Net2.below HN.out (below_size HB.out) ho)); obtain ⟨v1, hT1, _, _⟩ := ho; clear HN; have HN := Aside0.mk hT1; clear hT1)
        | (go_at_call 8; refine (wharfagelaw0_Num.calls _ _ _ rfl).mono ?_; rintro e wn ⟨rfl, hn_⟩; have hb_ := Go.Proofs.Ytkgjnckkfiepaaa.Hand.hk_drawn hn_; replace HN := Aside0.mk (HN.out.below hb_); replace HB := Aside0.mk (below_step HB.out hb_); clear hn_ hb_)
      go_roundw
      case rel => exact ⟨i + 1, _, _, by go_num, by omega, by omega, HN, ⟨by have := HL.out; simp; omega⟩, HB⟩
      case measure => simp [intOf]; omega
    · have hl32 : l.length = 32 := by have := HL.out; omega
      have H1 := Aside0.mk (show sendL l ⟨#[121]⟩ = (l, 2201) from send_full hl32 (by decide) (by decide))
      have H2 := Aside0.mk (show copyL l 0 = (l, 2201) from copy_full hl32 ⟨by omega, by omega⟩)
      have H3 := Aside0.mk (show takeL l (-(d : Int)) = (l, ⟨#[]⟩, 2202) from take_no (fun hh => by have := hh.1; omega))
      have H4 := Aside0.mk (show takeL l (31 + (d : Int)) = (l, ⟨#[]⟩, 2202) from take_no (fun hh => by have := hh.2; omega))
      have H5 := Aside0.mk (show copyL l (-(d : Int)) = (l, 2202) from copy_no (fun hh => by have := hh.1; omega))
      have H6 := Aside0.mk (show takeL l 31 = (l.eraseIdx 31, atL l 31, 0) from take_ok ⟨by omega, by omega⟩)
      have hle : (l.eraseIdx 31).length = 31 := by rw [eraseIdx_length l 31 (by omega)]; omega
      have H7 := Aside0.mk (show copyL (l.eraseIdx 31) 0 = (l.eraseIdx 31 ++ [atL (l.eraseIdx 31) 0], 0) from copy_ok (by omega) ⟨by omega, by omega⟩)
      have HL5 := Aside0.mk (show (l.eraseIdx 31 ++ [atL (l.eraseIdx 31) 0]).length = 32 by simp; omega)
      have FH1 := Aside0.mk trivial
      have FH2 := Aside0.mk trivial
      have FH3 := Aside0.mk trivial
      have FH4 := Aside0.mk trivial
      have FH5 := Aside0.mk trivial
      have FH6 := Aside0.mk trivial
      have FH7 := Aside0.mk trivial
      clear hl32 hle HL
      go_wp2_with first
        | (go_at_call 9; clear FH1; refine (send_to _ _ _ _ (below_size HB.out) HN.out H1.out).mono ?_; rintro e w1 ⟨rfl, ho⟩; replace HB := Aside0.mk (HB.out.trans (Net2.below HN.out (below_size HB.out) ho)); obtain ⟨v1, hT1, _, _⟩ := ho; clear HN; have HN := Aside0.mk hT1; clear hT1)
        | (go_at_call 13; clear FH2; refine (copy_to _ _ _ _ (below_size HB.out) HN.out H2.out).mono ?_; rintro e w1 ⟨rfl, ho⟩; replace HB := Aside0.mk (HB.out.trans (Net2.below HN.out (below_size HB.out) ho)); obtain ⟨v1, hT1, _, _⟩ := ho; clear HN; have HN := Aside0.mk hT1; clear hT1)
        | (go_at_call 11; clear FH3; refine (take_to _ _ _ _ _ (below_size HB.out) HN.out H3.out).mono ?_; rintro e w1 ⟨rfl, ho⟩; replace HB := Aside0.mk (HB.out.trans (Net2.below HN.out (below_size HB.out) ho)); obtain ⟨v1, hT1, _, _⟩ := ho; clear HN; have HN := Aside0.mk hT1; clear hT1)
        | (go_at_call 11; clear FH4; refine (take_to _ _ _ _ _ (below_size HB.out) HN.out H4.out).mono ?_; rintro e w1 ⟨rfl, ho⟩; replace HB := Aside0.mk (HB.out.trans (Net2.below HN.out (below_size HB.out) ho)); obtain ⟨v1, hT1, _, _⟩ := ho; clear HN; have HN := Aside0.mk hT1; clear hT1)
        | (go_at_call 13; clear FH5; refine (copy_to _ _ _ _ (below_size HB.out) HN.out H5.out).mono ?_; rintro e w1 ⟨rfl, ho⟩; replace HB := Aside0.mk (HB.out.trans (Net2.below HN.out (below_size HB.out) ho)); obtain ⟨v1, hT1, _, _⟩ := ho; clear HN; have HN := Aside0.mk hT1; clear hT1)
        | (go_at_call 11; clear FH6; refine (take_to _ _ _ _ _ (below_size HB.out) HN.out H6.out).mono ?_; rintro e w1 ⟨rfl, ho⟩; replace HB := Aside0.mk (HB.out.trans (Net2.below HN.out (below_size HB.out) ho)); obtain ⟨v1, hT1, _, _⟩ := ho; clear HN; have HN := Aside0.mk hT1; clear hT1)
        | (go_at_call 13; clear FH7; refine (copy_to _ _ _ _ (below_size HB.out) HN.out H7.out).mono ?_; rintro e w1 ⟨rfl, ho⟩; replace HB := Aside0.mk (HB.out.trans (Net2.below HN.out (below_size HB.out) ho)); obtain ⟨v1, hT1, _, _⟩ := ho; clear HN; have HN := Aside0.mk hT1; clear hT1)
        | (go_at_call 8; refine (wharfagelaw0_Num.calls _ _ _ rfl).mono ?_; rintro e wn ⟨rfl, hn_⟩; have hb_ := Go.Proofs.Ytkgjnckkfiepaaa.Hand.hk_drawn hn_; replace HN := Aside0.mk (HN.out.below hb_); replace HB := Aside0.mk (below_step HB.out hb_); clear hn_ hb_)
        | (go_at_call 15; refine (all_calls _ HN.out).mono ?_; rintro e w6 ⟨u6, rfl, ho, hb⟩; obtain ⟨A6, c6, hu6⟩ := Kd.R_slice ho; rw [HL5.out] at hu6; subst hu6; replace HB := Aside0.mk (below_step HB.out hb); clear ho hb)
      go_ret
      exact ⟨Go.Proofs.Ytkgjnckkfiepaaa.Hand.hk_bool rfl, HB.out⟩


end Go.Proofs.Ytkgjnckkfiepaaa.PNetForms
