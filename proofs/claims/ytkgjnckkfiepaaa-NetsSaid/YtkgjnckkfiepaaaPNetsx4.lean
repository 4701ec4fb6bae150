/- Contracts: what calls of these functions of the program do, each as a plain function; written by a program of this session. -/
import Derived.Test.YtkgjnckkfiepaaaPNetsx0
import Derived.Test.YtkgjnckkfiepaaaPNetsx1
import Derived.Test.YtkgjnckkfiepaaaPNetsx2
namespace Go.Proofs.Ytkgjnckkfiepaaa.PNets
open Go.RowKit Go.Proofs.YtkgjnckkfiepaaaW.PrintWords Go.Proofs.YtkgjnckkfiepaaaW.PrintLast Go.Proofs.YtkgjnckkfiepaaaW.PrintMore
attribute [local go_sem] max2_int min2_int max_two min_two max_three min_three max_four min_four   -- for this text's walks alone
set_option linter.unusedVariables false
set_option linter.unusedSimpArgs false

/-! ### wharfagelaw22_awake: function 18, by hand -/
def wharfagelaw22_awake.f : Option Bool := some true
theorem st_loop (l : List ByteArray) (hl : l.length ≤ 9223372036854775806) (d : Nat) : ∀ (k i : Nat), l.length - i ≤ d → d < k → i ≤ l.length → wharfagelaw0_SameTexts.l0 k l l (i : Int) = some true := by
  induction d with
  | zero =>
    intro k i hd hk hi
    obtain ⟨k, rfl⟩ : ∃ m, k = m + 1 := ⟨k - 1, by omega⟩
    simp only [wharfagelaw0_SameTexts.l0]
    rw [if_neg (by omega)]
  | succ d ih =>
    intro k i hd hk hi
    obtain ⟨k, rfl⟩ : ∃ m, k = m + 1 := ⟨k - 1, by omega⟩
    simp only [wharfagelaw0_SameTexts.l0]
    by_cases h : (i : Int) < (l.length : Int)
    · rw [if_pos h, if_pos (show (0 : Int) ≤ (i : Int) by omega), if_pos h, if_pos trivial, show wrap64 ((i : Int) + 1) = ((i + 1 : Nat) : Int) by unfold wrap64; omega]
      exact ih k (i + 1) (by omega) (by omega) (by omega)
    · rw [if_neg h]
theorem st_same (l : List ByteArray) (hl : l.length ≤ 9223372036854775806) (k : Nat) (hk : l.length < k) : wharfagelaw0_SameTexts.f k l l = some true := by
  unfold wharfagelaw0_SameTexts.f
  rw [if_pos rfl]
  exact st_loop l hl l.length k 0 (by omega) (by omega) (by omega)
set_option maxHeartbeats 8000000 in
set_option maxRecDepth 100000 in
open Go.Proofs.Ytkgjnckkfiepaaa.Net Go.Proofs.Ytkgjnckkfiepaaa.Chan in
theorem wharfagelaw22_awake.calls (r : Bool) (w : World) (h : wharfagelaw22_awake.f = some r) :
    Calls Try.prog 18 #[] w fun e w' => e = .returned (.bool r) ∧ Below w.heap.size w w' := by
  obtain rfl := Option.some.inj h
  clear h
  have HB := Aside0.mk (Below.refl w.heap.size w)
  have F0 := Aside0.mk trivial
  have F1 := Aside0.mk trivial
  have F2 := Aside0.mk trivial
  have F3 := Aside0.mk trivial
  have F4 := Aside0.mk trivial
  have F5 := Aside0.mk trivial
  have G0 := Aside0.mk trivial
  go_enter Try.func18, Try.ntmps18
  go_wp2_with first
    | (go_at_call 7; refine (new_calls _).mono ?_; rintro e w0 ⟨p, ch, rfl, hn, hb⟩; have HN := Aside0.mk hn; replace HB := Aside0.mk (below_step HB.out hb); clear hn hb)
    | (go_at_call 9; clear F0; refine (send_to ⟨#[120]⟩ [⟨#[120]⟩] 0 _ (below_size HB.out) HN.out (by rfl)).mono ?_; rintro e w1 ⟨rfl, ho⟩; have HB2 := Aside0.mk (Net2.below HN.out (below_size HB.out) ho); obtain ⟨v0, hn, _, _⟩ := ho; clear HN; have HN := Aside0.mk hn; clear hn; replace HB := Aside0.mk (HB.out.trans HB2.out); clear HB2)
    | (go_at_call 9; clear F1; refine (send_to ⟨#[121]⟩ [⟨#[120]⟩, ⟨#[121]⟩] 0 _ (below_size HB.out) HN.out (by rfl)).mono ?_; rintro e w2 ⟨rfl, ho⟩; have HB2 := Aside0.mk (Net2.below HN.out (below_size HB.out) ho); obtain ⟨v1, hn, _, _⟩ := ho; clear HN; have HN := Aside0.mk hn; clear hn; replace HB := Aside0.mk (HB.out.trans HB2.out); clear HB2)
    | (go_at_call 9; clear F2; refine (send_to ⟨#[]⟩ [⟨#[120]⟩, ⟨#[121]⟩] 2200 _ (below_size HB.out) HN.out (by rfl)).mono ?_; rintro e w3 ⟨rfl, ho⟩; have HB2 := Aside0.mk (Net2.below HN.out (below_size HB.out) ho); obtain ⟨v2, hn, _, _⟩ := ho; clear HN; have HN := Aside0.mk hn; clear hn; replace HB := Aside0.mk (HB.out.trans HB2.out); clear HB2)
    | (go_at_call 13; clear F3; refine (copy_to 0 [⟨#[120]⟩, ⟨#[121]⟩, ⟨#[120]⟩] 0 _ (below_size HB.out) HN.out (by rfl)).mono ?_; rintro e w4 ⟨rfl, ho⟩; have HB2 := Aside0.mk (Net2.below HN.out (below_size HB.out) ho); obtain ⟨v3, hn, _, _⟩ := ho; clear HN; have HN := Aside0.mk hn; clear hn; replace HB := Aside0.mk (HB.out.trans HB2.out); clear HB2)
    | (go_at_call 11; clear F4; refine (take_to 1 [⟨#[120]⟩, ⟨#[120]⟩] ⟨#[121]⟩ 0 _ (below_size HB.out) HN.out (by rfl)).mono ?_; rintro e w5 ⟨rfl, ho⟩; have HB2 := Aside0.mk (Net2.below HN.out (below_size HB.out) ho); obtain ⟨v4, hn, _, _⟩ := ho; clear HN; have HN := Aside0.mk hn; clear hn; replace HB := Aside0.mk (HB.out.trans HB2.out); clear HB2)
    | (go_at_call 11; clear F5; refine (take_to 5 [⟨#[120]⟩, ⟨#[120]⟩] ⟨#[]⟩ 2202 _ (below_size HB.out) HN.out (by rfl)).mono ?_; rintro e w6 ⟨rfl, ho⟩; have HB2 := Aside0.mk (Net2.below HN.out (below_size HB.out) ho); obtain ⟨v5, hn, _, _⟩ := ho; clear HN; have HN := Aside0.mk hn; clear hn; replace HB := Aside0.mk (HB.out.trans HB2.out); clear HB2)
    | (go_at_call 15; clear G0; refine (all_calls _ HN.out).mono ?_; rintro e w8 ⟨v8, rfl, ho, hb⟩; obtain ⟨A8, c8, rfl⟩ := Kd.R_slice ho; have C8 := Aside0.mk (Kd.R_reads' ho).2.1; have O8 := Aside0.mk (Kd.R_reads' ho).2.2; replace HN := Aside0.mk (HN.out.below hb); replace HB := Aside0.mk (below_step HB.out hb); clear ho hb)
    | (go_at_call 16; refine (wharfagelaw0_SameTexts.calls 9 A8 c8 _ (some ⟨w8.heap.size, 0, none⟩) 2 [⟨#[120]⟩, ⟨#[120]⟩] true _ (Kd.C_alloc O8.out _) C8.out (Go.Proofs.Ytkgjnckkfiepaaa.Hand.hk_lit (fun x => [Value.string x]) (fun _ => rfl) (fun _ _ => rfl) #[.string ⟨#[120]⟩, .string ⟨#[120]⟩] 9 [⟨#[120]⟩, ⟨#[120]⟩] (by decide) rfl) (by decide) (st_same _ (by decide) _ (by decide))).mono ?_; rintro e wn ⟨rfl, hn_⟩; have hb_ := below_step (below_alloc (Below.refl w8.heap.size w8) _) (Go.Proofs.Ytkgjnckkfiepaaa.Hand.hk_drawn hn_); replace HN := Aside0.mk (HN.out.below hb_); replace HB := Aside0.mk (below_step HB.out hb_); clear hn_ hb_)
    | (go_at_call 8; refine (wharfagelaw0_Num.calls _ _ _ rfl).mono ?_; rintro e wn ⟨rfl, hn_⟩; have hb_ := Go.Proofs.Ytkgjnckkfiepaaa.Hand.hk_drawn hn_; replace HN := Aside0.mk (HN.out.below hb_); replace HB := Aside0.mk (below_step HB.out hb_); clear hn_ hb_)
    | (go_at_call 9; refine (send_none _ _).mono ?_; rintro e wz ⟨rfl, hw⟩; obtain rfl := hw)
    | (go_at_call 15; refine (all_none _).mono ?_; rintro e wz ⟨rfl, hw⟩; obtain rfl := hw)
  go_ret
  exact ⟨Go.Proofs.Ytkgjnckkfiepaaa.Hand.hk_bool rfl, HB.out⟩


end Go.Proofs.Ytkgjnckkfiepaaa.PNets
