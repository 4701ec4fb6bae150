/- Contracts: what calls of these functions of the program do, each as a plain function; written by a program of this session. -/
import Derived.Test.YtnocfhnandedoabPVRowx0
import Derived.Test.YtnocfhnandedoabPVRowx3
import Derived.Test.YtnocfhnandedoabPVRowx5
import Derived.Test.YtnocfhnandedoabPVRowx7
import Derived.Test.YtnocfhnandedoabPVRowx8
import Derived.Test.YtnocfhnandedoabPVRowx11
namespace Go.Proofs.Ytnocfhnandedoab.PVRow
open Go.RowKit Go.Proofs.YtnocfhnandedoabW.PrintWords Go.Proofs.YtnocfhnandedoabW.PrintLast Go.Proofs.YtnocfhnandedoabW.PrintMore
attribute [local go_sem] max2_int min2_int max_two min_two max_three min_three max_four min_four   -- for this text's walks alone
set_option linter.unusedVariables false
set_option linter.unusedSimpArgs false

/-! ### wharfagelaw12_ViewRow: function 13, by hand -/
def wharfagelaw12_ViewRow.f (l0 : List Int) : Option Bool := some true
theorem vr_aw : wharfagelaw12_awake.f 300 = some true := by kernel_rfl
structure Arr3 (W : World) (g : Nat) (P : Nat → Int) : Prop where
  cell : ∀ j, j < 3 → W.cell? ⟨g, j, none⟩ = some (.int .i64 (P j))
  free : ∀ j, j < 3 → W.frozen? ⟨g, j, none⟩ = false
theorem Arr3.below {W W1 : World} {g : Nat} {P : Nat → Int} (h : Arr3 W g P) (hb : Below W.heap.size W W1) : Arr3 W1 g P := by
  have hl : g < W.heap.size := World.block_lt_of_cell? W _ (h.cell 0 (by omega))
  exact ⟨fun j hj => (hb.cell (p := ⟨g, j, none⟩) hl).trans (h.cell j hj), fun j hj => (hb.frozen (p := ⟨g, j, none⟩) hl).trans (h.free j hj)⟩
theorem Arr3.set {W : World} {g : Nat} {P : Nat → Int} (h : Arr3 W g P) (k : Nat) (hk : k < 3) (y : Int) : Arr3 (W.setCell ⟨g, k, none⟩ (.int .i64 y)) g (fun j => if j = k then y else P j) := by
  refine ⟨fun j hj => ?_, fun j hj => by rw [World.frozen?_setCell]; exact h.free j hj⟩
  by_cases hjk : j = k
  · subst hjk
    rw [if_pos rfl]
    exact World.cell?_setCell_same _ _ _ (h.cell j hj)
  · rw [if_neg hjk, World.cell?_setCell_other _ _ _ _ (fun e => hjk (by injection e with _ e; exact e.symm))]
    exact h.cell j hj
theorem Arr3.far {W : World} {g g' k : Nat} {P : Nat → Int} (h : Arr3 W g P) (hne : g' ≠ g) (v : Value) : Arr3 (W.setCell ⟨g', k, none⟩ v) g P :=
  ⟨fun j hj => by rw [World.cell?_setCell_far _ _ _ _ hne]; exact h.cell j hj, fun j hj => by rw [World.frozen?_setCell]; exact h.free j hj⟩
theorem Arr3.new {W : World} (t : TypeId) : Arr3 (W.alloc (.cells #[.int .i64 0, .int .i64 0, .int .i64 0] t)) W.heap.size (fun _ => 0) := by
  refine ⟨fun j hj => ?_, fun j hj => World.frozen?_alloc_at _ _ _ _ rfl⟩
  rw [World.cell?_alloc_at _ _ _ _ rfl]
  obtain rfl | rfl | rfl : j = 0 ∨ j = 1 ∨ j = 2 := by omega
  all_goals rfl
theorem vr_far {W : World} {A : Option Addr} {n g k : Nat} {l : List S85} (h : Kd.C k85 W A n l) (hA : ∀ ad, A = some ad → ad.block ≠ g) (v : Value) : Kd.C k85 (W.setCell ⟨g, k, none⟩ v) A n l := by
  refine ⟨h.1, h.2.1, fun hn => ?_⟩
  obtain ⟨ad, e, hc⟩ := h.2.2 hn
  refine ⟨ad, e, fun j p hj => ?_⟩
  obtain ⟨c, h1, h2, h3⟩ := hc j p hj
  refine ⟨c, h1, h2, fun i u hu => ?_⟩
  rw [World.cell?_setCell_far _ _ _ _ (by
    intro e2
    have := hA ad e
    apply this
    unfold Addr.add at e2
    split at e2 <;> exact e2.symm)]
  exact h3 i u hu
theorem vr_int {w : World} {A : Option Addr} {n : Nat} {xs : List Int} (h : Kd.C (Kd.int .i64) w A n xs) (j : Nat) (hj : j < n) : ∃ ad x, A = some ad ∧ w.cell? (ad.add j) = some (.int .i64 x) := by
  obtain ⟨ad, e, hc⟩ := h.2.2 (by omega)
  obtain ⟨c, h1, h2, h3⟩ := hc j _ (List.getElem?_eq_getElem (by have := h.1; omega))
  have hjx : j < xs.length := by have := h.1; omega
  have h4 : c = [.int .i64 (xs[j]'hjx)] := h2
  subst h4
  have := h3 0 _ rfl
  rw [show j * (Kd.int .i64).sz + 0 = j from by simp [Kd.int, Kd.scalar]] at this
  exact ⟨ad, _, e, this⟩
def vrS (j : Nat) (p q : Int) : S85 := if p = -1 then ⟨⟨0, 0, 0, 0⟩, -1⟩ else ⟨⟨j, q, 0, 3⟩, p⟩
def vrL (P Q : Nat → Int) : List S85 := [vrS 0 (P 0) (Q 0), vrS 1 (P 1) (Q 1), vrS 2 (P 2) (Q 2)]
def VrOk (P Q : Nat → Int) : Prop := ∀ j, j < 3 → (P j = -1 ∧ Q j = 0) ∨ ((0 ≤ P j ∧ P j ≤ 1048576) ∧ 0 ≤ Q j ∧ Q j ≤ 255)
theorem vr_seen {j : Nat} {p q : Int} (hj : j < 3) (h : (p = -1 ∧ q = 0) ∨ ((0 ≤ p ∧ p ≤ 1048576) ∧ 0 ≤ q ∧ q ≤ 255)) : seenOk (j : Int) (vrS j p q) = true := by
  unfold vrS
  rcases h with ⟨rfl, rfl⟩ | ⟨h1, h2⟩
  · rw [if_pos rfl]
    unfold seenOk
    rw [show noneSeen (⟨⟨0, 0, 0, 0⟩, -1⟩ : S85) = true from by kernel_rfl]; rfl
  · rw [if_neg (by omega)]
    unfold seenOk
    rw [show timeOk p = true from decide_eq_true h1, show repOk (j : Int) q 0 3 = true from decide_eq_true ⟨by omega, by omega, by omega, by omega⟩]
    simp
theorem vr_may {P Q : Nat → Int} (h : VrOk P Q) : mayV (vrL P Q) = true := by
  unfold mayV vrL
  simp only [seensOk]
  have h0 := vr_seen (j := 0) (by omega) (h 0 (by omega))
  have h1 := vr_seen (j := 1) (by omega) (h 1 (by omega))
  have h2 := vr_seen (j := 2) (by omega) (h 2 (by omega))
  rw [h0, h1, h2]; rfl
theorem vr_rd (P Q : Nat → Int) (j : Nat) (hj : j < 3) : rd_T85 (vrL P Q) (j : Int) = vrS j (P j) (Q j) := by
  obtain rfl | rfl | rfl : j = 0 ∨ j = 1 ∨ j = 2 := by omega
  all_goals rfl
theorem vr_f1 {P Q : Nat → Int} (h : VrOk P Q) (j : Nat) (hj : j < 3) : (rd_T85 (vrL P Q) (j : Int)).f1 = P j ∧ (rd_T85 (vrL P Q) (j : Int)).f0.f1 = Q j := by
  rw [vr_rd P Q j hj]
  unfold vrS
  rcases h j hj with ⟨h1, h2⟩ | ⟨h1, h2⟩
  · rw [if_pos h1, h1, h2]; exact ⟨rfl, rfl⟩
  · rw [if_neg (by omega)]; exact ⟨rfl, rfl⟩
theorem vr_len (P Q : Nat → Int) : (vrL P Q).length = 3 := rfl
def vrU (P : Nat → Int) (k : Nat) (y : Int) : Nat → Int := fun j => if j = k then y else P j
theorem vr_okU {P Q : Nat → Int} (h : VrOk P Q) (k : Nat) (i s : Int) (hi : 0 ≤ i ∧ i ≤ 1048576) (hs : 0 ≤ s ∧ s ≤ 255) : VrOk (vrU P k i) (vrU Q k s) := by
  intro j hj
  unfold vrU
  by_cases hjk : j = k
  · rw [if_pos hjk, if_pos hjk]; exact .inr ⟨hi, hs⟩
  · rw [if_neg hjk, if_neg hjk]; exact h j hj
theorem vr_set (P Q : Nat → Int) (k : Nat) (hk : k < 3) (i s : Int) (hi : 0 ≤ i) : (vrL P Q).set k ⟨⟨k, s, 0, 3⟩, i⟩ = vrL (vrU P k i) (vrU Q k s) := by
  have hn : ¬ i = -1 := by omega
  obtain rfl | rfl | rfl : k = 0 ∨ k = 1 ∨ k = 2 := by omega
  all_goals simp [vrL, vrU, vrS, hn]
theorem vr_take1 {P Q : Nat → Int} (h : VrOk P Q) (k : Nat) (hk : k < 3) (i s : Int) (hi : 0 ≤ i ∧ i ≤ 1048576) (hs : 0 ≤ s ∧ s ≤ 255) (hn : P k = -1 ∨ Q k < s) : view_Take.f (vrL P Q) (k : Int) s 0 3 i = some (vrL (vrU P k i) (vrU Q k s), true, 0) := by
  unfold view_Take.f takeF
  rw [vr_may h, show repOk (k : Int) s 0 3 = true from decide_eq_true ⟨by omega, by omega, by omega, by omega⟩, show timeOk i = true from decide_eq_true hi, if_pos (show (true && (true && true)) = true from rfl), (vr_f1 h k hk).1, (vr_f1 h k hk).2]
  rw [if_neg (by
    rintro ⟨h1, h2⟩
    rcases hn with hn | hn
    · exact h1 hn
    · unfold newerB at h2
      rw [decide_eq_false_iff_not] at h2
      rcases h k hk with ⟨h3, _⟩ | ⟨_, h4⟩
      · exact h1 h3
      · exact h2 ⟨by omega, by omega, by omega, by omega⟩)]
  rw [Int.toNat_natCast, vr_set P Q k hk i s hi.1]
theorem vr_take2 {P Q : Nat → Int} (h : VrOk P Q) (k : Nat) (hk : k < 3) (i s : Int) (hi : 0 ≤ i ∧ i ≤ 1048576) (hs : 0 ≤ s ∧ s ≤ 255) (h1 : ¬ P k = -1) (h2 : ¬ Q k < s) : view_Take.f (vrL P Q) (k : Int) s 0 3 i = some (vrL P Q, false, 0) := by
  unfold view_Take.f takeF
  rw [vr_may h, show repOk (k : Int) s 0 3 = true from decide_eq_true ⟨by omega, by omega, by omega, by omega⟩, show timeOk i = true from decide_eq_true hi, if_pos (show (true && (true && true)) = true from rfl), (vr_f1 h k hk).1, (vr_f1 h k hk).2]
  rw [if_pos ⟨h1, decide_eq_false (by
    rintro ⟨_, _, h3, h4⟩
    rcases h k hk with ⟨h5, _⟩ | ⟨_, h6⟩
    · exact h1 h5
    · omega)⟩]
open Go.Proofs.Ytnocfhnandedoab.NumMath (and255 wrap_u64_mod wrap64_in tmod_nn) in
set_option maxHeartbeats 8000000 in
set_option maxRecDepth 100000 in
theorem wharfagelaw12_ViewRow.calls (A0 : Option Addr) (c0 : Nat) (l0 : List Int) (r : Bool) (w : World) (hr0 : Kd.C (Kd.int .i64) w A0 l0.length l0) (hc0 : l0.length ≤ c0) (h : wharfagelaw12_ViewRow.f l0 = some r) :
    Calls Try.prog 13 #[.slice A0 l0.length c0] w fun e w' => e = .returned (.bool r) ∧ Below w.heap.size w w' := by
  obtain rfl := Option.some.inj h
  clear h
  have hu := Try.underlying85
  have hu2 := Try.underlying68
  have HR0 := Aside0.mk hr0
  have HLL := Aside0.mk hr0.2.1
  clear hr0 hc0
  have HB := Aside0.mk (Below.refl w.heap.size w)
  go_enter Try.func13, Try.ntmps13
  go_wp2_with first
    | (go_at_call 50; refine (wharfagelaw12_awake.calls 300 true _ vr_aw).mono ?_; rintro e w1 ⟨rfl, hb⟩; replace HB := Aside0.mk (below_step HB.out hb); clear hb)
    | (go_at_call 46; refine (view_New.calls _ _ rfl).mono ?_; rintro e w2 ⟨v2, rfl, ho, hb⟩; obtain ⟨g2, c2, rfl, _, hg2⟩ := Go.Proofs.Ytnocfhnandedoab.Hand.hk_own ho (by decide); have G2 := Aside0.mk hg2; have C2 := Aside0.mk (Kd.R_reads' ho).2.1; have O2 := Aside0.mk (Kd.R_reads' ho).2.2; replace HB := Aside0.mk (below_step HB.out hb); clear hb ho hg2)
  obtain ⟨w3, hW⟩ : ∃ x_, x_ = (w2.alloc (Obj.cells #[Value.int IntKind.i64 0, Value.int IntKind.i64 0, Value.int IntKind.i64 0] 86)).alloc (Obj.cells #[Value.int IntKind.i64 0, Value.int IntKind.i64 0, Value.int IntKind.i64 0] 86) := ⟨_, rfl⟩
  rw [← hW]
  have hb : Below w2.heap.size w2 w3 := hW ▸ below_alloc (below_alloc (Below.refl _ _) _) _
  have PA := Aside0.mk (show Arr3 w3 w2.heap.size (fun _ => 0) from hW ▸ (Arr3.new _).below (below_alloc (Below.refl _ _) _))
  have QA := Aside0.mk (show Arr3 w3 (w2.heap.size + 1) (fun _ => 0) from hW ▸ (by have h := Arr3.new (W := w2.alloc (Obj.cells #[Value.int IntKind.i64 0, Value.int IntKind.i64 0, Value.int IntKind.i64 0] 86)) 86; simpa using h))
  replace O2 := Aside0.mk (Kd.C_below O2.out hb)
  have HG0 := Aside0.mk (show w.heap.size ≤ w2.heap.size from HB.out.size)
  replace HB := Aside0.mk (below_step HB.out hb)
  clear hb hW
  have HN := Aside0.mk (show w2.heap.size ≠ w2.heap.size + 1 by omega)
  have HN2 := Aside0.mk (And.intro (show g2 ≠ w2.heap.size from Nat.ne_of_lt G2.out) (show g2 ≠ w2.heap.size + 1 by have := G2.out; omega))
  go_loopw [6] (fun v wr => ∃ m : Nat, v = .int .i64 (m : Int) ∧ m ≤ 3 ∧ Aside0 (Arr3 wr w2.heap.size (fun j => if j < m then -1 else 0)) ∧ Aside0 (Arr3 wr (w2.heap.size + 1) (fun _ => 0)) ∧ Aside0 (Kd.C k85 wr (some ⟨g2, 0, none⟩) 3 (vrL (fun _ => -1) (fun _ => 0))) ∧ Aside0 (Below w.heap.size w wr)) (fun v _ => 3 - (intOf v).toNat)
  case atStart => exact ⟨0, rfl, by omega, PA, QA, O2, HB⟩
  case round =>
    clear PA QA O2 HB
    obtain ⟨m, rfl, hm, PA, QA, O2, HB⟩ := hrel
    by_cases hlt : m < 3
    · have hc := PA.out.cell m hlt
      have hf := PA.out.free m hlt
      have q0 : (0 : Int) ≤ (m : Int) := by omega
      have q1 : (m : Int) < 3 := by omega
      go_wp2_with fail
      go_roundw
      case rel => exact ⟨m + 1, by go_num, by omega, ⟨by
          have h := PA.out.set m hlt (-1)
          refine ⟨fun j hj => ?_, fun j hj => h.free j hj⟩
          rw [h.cell j hj]
          by_cases hjm : j = m
          · subst hjm; rw [if_pos rfl, if_pos (by omega)]
          · rw [if_neg hjm]
            by_cases hj2 : j < m
            · rw [if_pos hj2, if_pos (by omega)]
            · rw [if_neg hj2, if_neg (by omega)]⟩, ⟨QA.out.far HN.out _⟩, ⟨vr_far O2.out (by rintro ad e; injection e with e; subst e; exact HN2.out.1) _⟩, ⟨below_set HB.out HG0.out⟩⟩
      case measure => simp [intOf]; omega
    · have hm3 : m = 3 := by omega
      subst hm3
      go_wp2_with fail
      have hok : VrOk (fun _ => -1) (fun _ => 0) := fun j hj => .inl ⟨rfl, rfl⟩
      replace PA := Aside0.mk (show Arr3 wr w2.heap.size (fun _ => -1) from ⟨fun j hj => by rw [PA.out.cell j hj, if_pos hj], PA.out.free⟩)
      have OK := Aside0.mk hok
      clear hok
      obtain ⟨wo, hwo⟩ : ∃ x_, x_ = wr := ⟨_, rfl⟩
      rw [← hwo]
      rw [← hwo] at PA QA O2 HB
      clear hwo
      go_loopw [3, 7] (fun vv v wr => ∃ (i : Nat) (P Q : Nat → Int) (g c : Nat), v = .int .i64 (i : Int) ∧ vv = .slice (some ⟨g, 0, none⟩) 3 c ∧ i ≤ 40 ∧ Aside0 (3 ≤ c) ∧ Aside0 (g ≠ w2.heap.size ∧ g ≠ w2.heap.size + 1) ∧ Aside0 (VrOk P Q) ∧ Aside0 (Arr3 wr w2.heap.size P) ∧ Aside0 (Arr3 wr (w2.heap.size + 1) Q) ∧ Aside0 (Kd.C k85 wr (some ⟨g, 0, none⟩) 3 (vrL P Q)) ∧ Aside0 (Below w.heap.size w wr)) (fun _ v _ => 40 - (intOf v).toNat)
      case atStart => exact ⟨0, _, _, g2, c2, rfl, rfl, by omega, C2, HN2, OK, PA, QA, O2, HB⟩
      case round =>
        clear PA QA O2 HB OK HN2 C2
        obtain ⟨i, P, Q, g, c, rfl, rfl, hi, CC, HN2, OK, PA, QA, O2, HB⟩ := hrel
        by_cases h1 : (i : Int) < (l0.length : Int)
        · by_cases h2 : (i : Int) < 40
          · obtain ⟨ad, x, rfl, hx⟩ := vr_int HR0.out i (by omega)
            replace hx := pw_cell_below HB.out hx
            have q0 : (0 : Int) ≤ (i : Int) := by omega
            have q1 : ((i : Int)).toNat = i := by omega
            obtain ⟨k, hk0, HK⟩ : ∃ k : Nat, wrap64 (Int.tmod (IntKind.u64.wrap x) 3) = (k : Int) ∧ Aside0 (k < 3) := by
              rw [wrap_u64_mod, tmod_nn _ _ (by omega), wrap64_in _ (by omega) (by omega)]
              exact ⟨(x % 18446744073709551616 % 3).toNat, by omega, ⟨by omega⟩⟩
            have k0 : (0 : Int) ≤ (k : Int) := by omega
            have k1 : (k : Int) < 3 := by have := HK.out; omega
            have k2 : ((k : Int)).toNat = k := by omega
            obtain ⟨s, hs, HS⟩ : ∃ s : Int, bits .and .i64 (x / 8) 255 = s ∧ Aside0 (0 ≤ s ∧ s ≤ 255) := ⟨_, and255 _, ⟨by omega⟩⟩
            by_cases hp : P k = -1
            · have hp2 : P k < 0 := by omega
              have y0 := PA.out.cell k HK.out
              have y1 := QA.out.cell k HK.out
              have fr0 := PA.out.free k HK.out
              have fr1 := QA.out.free k HK.out
              go_wp2_with first
                | (go_at_call 39; refine (view_Take.calls (some ⟨g, 0, none⟩) c (vrL P Q) (k : Int) s 0 3 (i : Int) (vrL (vrU P k (i : Int)) (vrU Q k s)) true 0 _ O2.out CC.out (vr_take1 OK.out k HK.out (i : Int) s (by omega) HS.out (.inl hp))).mono ?_; rintro e w5 ⟨v5, rfl, ho, hb⟩; obtain ⟨g5, c5, he5, hg5, _⟩ := Go.Proofs.Ytnocfhnandedoab.Hand.hk_own ho (by simp [vrL]); rw [vr_len] at he5; subst he5; have CC5 := Aside0.mk (Kd.R_reads' ho).2.1; have O5 := Aside0.mk (Kd.R_reads' ho).2.2; have hne := World.block_lt_of_cell? wr _ (QA.out.cell 0 (by omega)); have HN5 := Aside0.mk (show g5 ≠ w2.heap.size ∧ g5 ≠ w2.heap.size + 1 by simp only [] at hne; omega); replace PA := Aside0.mk (PA.out.below hb); replace QA := Aside0.mk (QA.out.below hb); replace y0 := PA.out.cell k HK.out; replace y1 := QA.out.cell k HK.out; replace fr0 := PA.out.free k HK.out; replace fr1 := QA.out.free k HK.out; replace HB := Aside0.mk (below_step HB.out hb); clear hb ho hg5 hne)
                | (go_at_call 17; refine (wharfagelaw0_Num.calls _ _ _ rfl).mono ?_; rintro e wn ⟨rfl, hn⟩; have hb := Go.Proofs.Ytnocfhnandedoab.Hand.hk_drawn hn; clear hn; replace PA := Aside0.mk (PA.out.below hb); replace QA := Aside0.mk (QA.out.below hb); replace y0 := PA.out.cell k HK.out; replace y1 := QA.out.cell k HK.out; replace fr0 := PA.out.free k HK.out; replace fr1 := QA.out.free k HK.out; replace O5 := Aside0.mk (Kd.C_below O5.out hb); replace HB := Aside0.mk (below_step HB.out hb); clear hb)
              replace OK := Aside0.mk (vr_okU OK.out k (i : Int) s (by omega) HS.out)
              replace PA := Aside0.mk (show Arr3 ((wn.setCell ⟨w2.heap.size, k, none⟩ (.int .i64 (i : Int))).setCell ⟨w2.heap.size + 1, k, none⟩ (.int .i64 s)) w2.heap.size (vrU P k (i : Int)) from (PA.out.set k HK.out (i : Int)).far HN.out.symm _)
              replace QA := Aside0.mk (show Arr3 ((wn.setCell ⟨w2.heap.size, k, none⟩ (.int .i64 (i : Int))).setCell ⟨w2.heap.size + 1, k, none⟩ (.int .i64 s)) (w2.heap.size + 1) (vrU Q k s) from (QA.out.far HN.out _).set k HK.out s)
              replace O5 := Aside0.mk (vr_far (g := w2.heap.size + 1) (k := k) (vr_far (g := w2.heap.size) (k := k) O5.out (by rintro ad e; injection e with e; subst e; exact HN5.out.1) (.int .i64 (i : Int))) (by rintro ad e; injection e with e; subst e; exact HN5.out.2) (.int .i64 s))
              replace HB := Aside0.mk (below_set (below_set (j := k) (v := .int .i64 (i : Int)) HB.out HG0.out) (g := w2.heap.size + 1) (j := k) (v := .int .i64 s) (by have := HG0.out; omega))
              clear O2 CC HN2 y0 y1 fr0 fr1
              have O2 := O5
              have CC := CC5
              have HN2 := HN5
              clear O5 CC5 HN5
              obtain ⟨wp, hwp⟩ : ∃ x_, x_ = ((wn.setCell ⟨w2.heap.size, k, none⟩ (.int .i64 (i : Int))).setCell ⟨w2.heap.size + 1, k, none⟩ (.int .i64 s)) := ⟨_, rfl⟩
              rw [← hwp]
              rw [← hwp] at PA QA O2 HB
              clear hwp
              go_loopw [13] (fun v wq => ∃ j : Nat, v = .int .i64 (j : Int) ∧ j ≤ 3 ∧ Aside0 (Arr3 wq w2.heap.size (vrU P k (i : Int))) ∧ Aside0 (Arr3 wq (w2.heap.size + 1) (vrU Q k s)) ∧ Aside0 (Kd.C k85 wq (some ⟨g5, 0, none⟩) 3 (vrL (vrU P k (i : Int)) (vrU Q k s))) ∧ Aside0 (Below w.heap.size w wq)) (fun v _ => 3 - (intOf v).toNat)
              case atStart => exact ⟨0, rfl, by omega, PA, QA, O2, HB⟩
              case round =>
                clear PA QA O2 HB
                obtain ⟨j, rfl, hj, PA, QA, O2, HB⟩ := hrel
                by_cases hjt : j < 3
                · have p0 : (0 : Int) ≤ (j : Int) := by omega
                  have p1 : (j : Int) < 3 := by omega
                  have p2 : ((j : Int)).toNat = j := by omega
                  have y0 := PA.out.cell j hjt
                  have y1 := QA.out.cell j hjt
                  obtain ⟨ad2, e2, z0, z1, z2, z3, z4⟩ := at_T85 O2.out (j : Int) p0 p1
                  injection e2 with e2
                  subst e2
                  rw [(vr_f1 OK.out j hjt).1] at z4
                  rw [(vr_f1 OK.out j hjt).2] at z1
                  rw [p2, Go.Proofs.Ytnocfhnandedoab.Hand.hk_add0] at z1 z4
                  simp only [Nat.zero_add] at z1 z4
                  obtain ⟨pj, hpj⟩ : ∃ x, (vrU P k (i : Int)) j = x := ⟨_, rfl⟩
                  obtain ⟨qj, hqj⟩ : ∃ x, (vrU Q k s) j = x := ⟨_, rfl⟩
                  rw [hpj] at y0 z4
                  rw [hqj] at y1 z1
                  clear z0 z2 z3 hpj hqj
                  go_wp2_with fail
                  go_region_held3 (fun w' => w'.cell? ⟨w2.heap.size, j, none⟩ = some (.int .i64 pj) ∧ w'.cell? ⟨w2.heap.size + 1, j, none⟩ = some (.int .i64 qj) ∧ w'.cell? ⟨g5, j * 5 + 4, none⟩ = some (.int .i64 pj) ∧ w'.cell? ⟨g5, j * 5 + 1, none⟩ = some (.int .i64 qj)) (go_keep) (fail)
                  go_wp2_with fail
                  go_roundw
                  case rel => exact ⟨j + 1, by go_num, by omega, ⟨PA.out.below (below_drew1 (Below.refl _ _))⟩, ⟨QA.out.below (below_drew1 (Below.refl _ _))⟩, ⟨Kd.C_below O2.out (below_drew1 (Below.refl _ _))⟩, ⟨below_drew1 HB.out⟩⟩
                  case measure => simp [intOf]; omega
                · go_wp2_with fail
                  refine ⟨?_, ?_⟩
                  · (repeat apply Exists.intro)
                    refine ⟨?_, rfl⟩
                    exact ⟨i + 1, vrU P k (i : Int), vrU Q k s, g5, c5, by go_num, rfl, by omega, CC, HN2, OK, PA, QA, O2, HB⟩
                  · simp [intOf]; omega
            · have hp2 : ¬ P k < 0 := by rcases OK.out k HK.out with h | h <;> omega
              by_cases hq : Q k < s
              · have y0 := PA.out.cell k HK.out
                have y1 := QA.out.cell k HK.out
                have fr0 := PA.out.free k HK.out
                have fr1 := QA.out.free k HK.out
                go_wp2_with first
                  | (go_at_call 39; refine (view_Take.calls (some ⟨g, 0, none⟩) c (vrL P Q) (k : Int) s 0 3 (i : Int) (vrL (vrU P k (i : Int)) (vrU Q k s)) true 0 _ O2.out CC.out (vr_take1 OK.out k HK.out (i : Int) s (by omega) HS.out (.inr hq))).mono ?_; rintro e w5 ⟨v5, rfl, ho, hb⟩; obtain ⟨g5, c5, he5, hg5, _⟩ := Go.Proofs.Ytnocfhnandedoab.Hand.hk_own ho (by simp [vrL]); rw [vr_len] at he5; subst he5; have CC5 := Aside0.mk (Kd.R_reads' ho).2.1; have O5 := Aside0.mk (Kd.R_reads' ho).2.2; have hne := World.block_lt_of_cell? wr _ (QA.out.cell 0 (by omega)); have HN5 := Aside0.mk (show g5 ≠ w2.heap.size ∧ g5 ≠ w2.heap.size + 1 by simp only [] at hne; omega); replace PA := Aside0.mk (PA.out.below hb); replace QA := Aside0.mk (QA.out.below hb); replace y0 := PA.out.cell k HK.out; replace y1 := QA.out.cell k HK.out; replace fr0 := PA.out.free k HK.out; replace fr1 := QA.out.free k HK.out; replace HB := Aside0.mk (below_step HB.out hb); clear hb ho hg5 hne)
                  | (go_at_call 17; refine (wharfagelaw0_Num.calls _ _ _ rfl).mono ?_; rintro e wn ⟨rfl, hn⟩; have hb := Go.Proofs.Ytnocfhnandedoab.Hand.hk_drawn hn; clear hn; replace PA := Aside0.mk (PA.out.below hb); replace QA := Aside0.mk (QA.out.below hb); replace y0 := PA.out.cell k HK.out; replace y1 := QA.out.cell k HK.out; replace fr0 := PA.out.free k HK.out; replace fr1 := QA.out.free k HK.out; replace O5 := Aside0.mk (Kd.C_below O5.out hb); replace HB := Aside0.mk (below_step HB.out hb); clear hb)
                replace OK := Aside0.mk (vr_okU OK.out k (i : Int) s (by omega) HS.out)
                replace PA := Aside0.mk (show Arr3 ((wn.setCell ⟨w2.heap.size, k, none⟩ (.int .i64 (i : Int))).setCell ⟨w2.heap.size + 1, k, none⟩ (.int .i64 s)) w2.heap.size (vrU P k (i : Int)) from (PA.out.set k HK.out (i : Int)).far HN.out.symm _)
                replace QA := Aside0.mk (show Arr3 ((wn.setCell ⟨w2.heap.size, k, none⟩ (.int .i64 (i : Int))).setCell ⟨w2.heap.size + 1, k, none⟩ (.int .i64 s)) (w2.heap.size + 1) (vrU Q k s) from (QA.out.far HN.out _).set k HK.out s)
                replace O5 := Aside0.mk (vr_far (g := w2.heap.size + 1) (k := k) (vr_far (g := w2.heap.size) (k := k) O5.out (by rintro ad e; injection e with e; subst e; exact HN5.out.1) (.int .i64 (i : Int))) (by rintro ad e; injection e with e; subst e; exact HN5.out.2) (.int .i64 s))
                replace HB := Aside0.mk (below_set (below_set (j := k) (v := .int .i64 (i : Int)) HB.out HG0.out) (g := w2.heap.size + 1) (j := k) (v := .int .i64 s) (by have := HG0.out; omega))
                clear O2 CC HN2 y0 y1 fr0 fr1
                have O2 := O5
                have CC := CC5
                have HN2 := HN5
                clear O5 CC5 HN5
                obtain ⟨wp, hwp⟩ : ∃ x_, x_ = ((wn.setCell ⟨w2.heap.size, k, none⟩ (.int .i64 (i : Int))).setCell ⟨w2.heap.size + 1, k, none⟩ (.int .i64 s)) := ⟨_, rfl⟩
                rw [← hwp]
                rw [← hwp] at PA QA O2 HB
                clear hwp
                go_loopw [13] (fun v wq => ∃ j : Nat, v = .int .i64 (j : Int) ∧ j ≤ 3 ∧ Aside0 (Arr3 wq w2.heap.size (vrU P k (i : Int))) ∧ Aside0 (Arr3 wq (w2.heap.size + 1) (vrU Q k s)) ∧ Aside0 (Kd.C k85 wq (some ⟨g5, 0, none⟩) 3 (vrL (vrU P k (i : Int)) (vrU Q k s))) ∧ Aside0 (Below w.heap.size w wq)) (fun v _ => 3 - (intOf v).toNat)
                case atStart => exact ⟨0, rfl, by omega, PA, QA, O2, HB⟩
                case round =>
                  clear PA QA O2 HB
                  obtain ⟨j, rfl, hj, PA, QA, O2, HB⟩ := hrel
                  by_cases hjt : j < 3
                  · have p0 : (0 : Int) ≤ (j : Int) := by omega
                    have p1 : (j : Int) < 3 := by omega
                    have p2 : ((j : Int)).toNat = j := by omega
                    have y0 := PA.out.cell j hjt
                    have y1 := QA.out.cell j hjt
                    obtain ⟨ad2, e2, z0, z1, z2, z3, z4⟩ := at_T85 O2.out (j : Int) p0 p1
                    injection e2 with e2
                    subst e2
                    rw [(vr_f1 OK.out j hjt).1] at z4
                    rw [(vr_f1 OK.out j hjt).2] at z1
                    rw [p2, Go.Proofs.Ytnocfhnandedoab.Hand.hk_add0] at z1 z4
                    simp only [Nat.zero_add] at z1 z4
                    obtain ⟨pj, hpj⟩ : ∃ x, (vrU P k (i : Int)) j = x := ⟨_, rfl⟩
                    obtain ⟨qj, hqj⟩ : ∃ x, (vrU Q k s) j = x := ⟨_, rfl⟩
                    rw [hpj] at y0 z4
                    rw [hqj] at y1 z1
                    clear z0 z2 z3 hpj hqj
                    go_wp2_with fail
                    go_region_held3 (fun w' => w'.cell? ⟨w2.heap.size, j, none⟩ = some (.int .i64 pj) ∧ w'.cell? ⟨w2.heap.size + 1, j, none⟩ = some (.int .i64 qj) ∧ w'.cell? ⟨g5, j * 5 + 4, none⟩ = some (.int .i64 pj) ∧ w'.cell? ⟨g5, j * 5 + 1, none⟩ = some (.int .i64 qj)) (go_keep) (fail)
                    go_wp2_with fail
                    go_roundw
                    case rel => exact ⟨j + 1, by go_num, by omega, ⟨PA.out.below (below_drew1 (Below.refl _ _))⟩, ⟨QA.out.below (below_drew1 (Below.refl _ _))⟩, ⟨Kd.C_below O2.out (below_drew1 (Below.refl _ _))⟩, ⟨below_drew1 HB.out⟩⟩
                    case measure => simp [intOf]; omega
                  · go_wp2_with fail
                    refine ⟨?_, ?_⟩
                    · (repeat apply Exists.intro)
                      refine ⟨?_, rfl⟩
                      exact ⟨i + 1, vrU P k (i : Int), vrU Q k s, g5, c5, by go_num, rfl, by omega, CC, HN2, OK, PA, QA, O2, HB⟩
                    · simp [intOf]; omega
              · have y0 := PA.out.cell k HK.out
                have y1 := QA.out.cell k HK.out
                have fr0 := PA.out.free k HK.out
                have fr1 := QA.out.free k HK.out
                go_wp2_with first
                  | (go_at_call 39; refine (view_Take.calls (some ⟨g, 0, none⟩) c (vrL P Q) (k : Int) s 0 3 (i : Int) (vrL P Q) false 0 _ O2.out CC.out (vr_take2 OK.out k HK.out (i : Int) s (by omega) HS.out hp hq)).mono ?_; rintro e w5 ⟨v5, rfl, ho, hb⟩; obtain ⟨g5, c5, he5, hg5, _⟩ := Go.Proofs.Ytnocfhnandedoab.Hand.hk_own ho (by simp [vrL]); rw [vr_len] at he5; subst he5; have CC5 := Aside0.mk (Kd.R_reads' ho).2.1; have O5 := Aside0.mk (Kd.R_reads' ho).2.2; have hne := World.block_lt_of_cell? wr _ (QA.out.cell 0 (by omega)); have HN5 := Aside0.mk (show g5 ≠ w2.heap.size ∧ g5 ≠ w2.heap.size + 1 by simp only [] at hne; omega); replace PA := Aside0.mk (PA.out.below hb); replace QA := Aside0.mk (QA.out.below hb); replace y0 := PA.out.cell k HK.out; replace y1 := QA.out.cell k HK.out; replace fr0 := PA.out.free k HK.out; replace fr1 := QA.out.free k HK.out; replace HB := Aside0.mk (below_step HB.out hb); clear hb ho hg5 hne)
                  | (go_at_call 17; refine (wharfagelaw0_Num.calls _ _ _ rfl).mono ?_; rintro e wn ⟨rfl, hn⟩; have hb := Go.Proofs.Ytnocfhnandedoab.Hand.hk_drawn hn; clear hn; replace PA := Aside0.mk (PA.out.below hb); replace QA := Aside0.mk (QA.out.below hb); replace y0 := PA.out.cell k HK.out; replace y1 := QA.out.cell k HK.out; replace fr0 := PA.out.free k HK.out; replace fr1 := QA.out.free k HK.out; replace O5 := Aside0.mk (Kd.C_below O5.out hb); replace HB := Aside0.mk (below_step HB.out hb); clear hb)
                clear O2 CC HN2 y0 y1 fr0 fr1
                have O2 := O5
                have CC := CC5
                have HN2 := HN5
                clear O5 CC5 HN5
                obtain ⟨wp, hwp⟩ : ∃ x_, x_ = wn := ⟨_, rfl⟩
                rw [← hwp]
                rw [← hwp] at PA QA O2 HB
                clear hwp
                go_loopw [13] (fun v wq => ∃ j : Nat, v = .int .i64 (j : Int) ∧ j ≤ 3 ∧ Aside0 (Arr3 wq w2.heap.size (P)) ∧ Aside0 (Arr3 wq (w2.heap.size + 1) (Q)) ∧ Aside0 (Kd.C k85 wq (some ⟨g5, 0, none⟩) 3 (vrL (P) (Q))) ∧ Aside0 (Below w.heap.size w wq)) (fun v _ => 3 - (intOf v).toNat)
                case atStart => exact ⟨0, rfl, by omega, PA, QA, O2, HB⟩
                case round =>
                  clear PA QA O2 HB
                  obtain ⟨j, rfl, hj, PA, QA, O2, HB⟩ := hrel
                  by_cases hjt : j < 3
                  · have p0 : (0 : Int) ≤ (j : Int) := by omega
                    have p1 : (j : Int) < 3 := by omega
                    have p2 : ((j : Int)).toNat = j := by omega
                    have y0 := PA.out.cell j hjt
                    have y1 := QA.out.cell j hjt
                    obtain ⟨ad2, e2, z0, z1, z2, z3, z4⟩ := at_T85 O2.out (j : Int) p0 p1
                    injection e2 with e2
                    subst e2
                    rw [(vr_f1 OK.out j hjt).1] at z4
                    rw [(vr_f1 OK.out j hjt).2] at z1
                    rw [p2, Go.Proofs.Ytnocfhnandedoab.Hand.hk_add0] at z1 z4
                    simp only [Nat.zero_add] at z1 z4
                    obtain ⟨pj, hpj⟩ : ∃ x, (P) j = x := ⟨_, rfl⟩
                    obtain ⟨qj, hqj⟩ : ∃ x, (Q) j = x := ⟨_, rfl⟩
                    rw [hpj] at y0 z4
                    rw [hqj] at y1 z1
                    clear z0 z2 z3 hpj hqj
                    go_wp2_with fail
                    go_region_held3 (fun w' => w'.cell? ⟨w2.heap.size, j, none⟩ = some (.int .i64 pj) ∧ w'.cell? ⟨w2.heap.size + 1, j, none⟩ = some (.int .i64 qj) ∧ w'.cell? ⟨g5, j * 5 + 4, none⟩ = some (.int .i64 pj) ∧ w'.cell? ⟨g5, j * 5 + 1, none⟩ = some (.int .i64 qj)) (go_keep) (fail)
                    go_wp2_with fail
                    go_roundw
                    case rel => exact ⟨j + 1, by go_num, by omega, ⟨PA.out.below (below_drew1 (Below.refl _ _))⟩, ⟨QA.out.below (below_drew1 (Below.refl _ _))⟩, ⟨Kd.C_below O2.out (below_drew1 (Below.refl _ _))⟩, ⟨below_drew1 HB.out⟩⟩
                    case measure => simp [intOf]; omega
                  · go_wp2_with fail
                    refine ⟨?_, ?_⟩
                    · (repeat apply Exists.intro)
                      refine ⟨?_, rfl⟩
                      exact ⟨i + 1, P, Q, g5, c5, by go_num, rfl, by omega, CC, HN2, OK, PA, QA, O2, HB⟩
                    · simp [intOf]; omega
          · go_wp2_with first
            | (go_at_call 44; refine (view_May.calls 300 (some ⟨g, 0, none⟩) c (vrL P Q) true _ O2.out CC.out (by rw [may_plain _ (by simp [vrL]) 300 (by simp [vrL]), vr_may OK.out])).mono ?_; rintro e w9 ⟨rfl, hb⟩; replace HB := Aside0.mk (below_step HB.out hb); clear hb)
            go_ret
            exact ⟨Go.Proofs.Ytnocfhnandedoab.Hand.hk_bool rfl, HB.out⟩
        · go_wp2_with first
          | (go_at_call 44; refine (view_May.calls 300 (some ⟨g, 0, none⟩) c (vrL P Q) true _ O2.out CC.out (by rw [may_plain _ (by simp [vrL]) 300 (by simp [vrL]), vr_may OK.out])).mono ?_; rintro e w9 ⟨rfl, hb⟩; replace HB := Aside0.mk (below_step HB.out hb); clear hb)
          go_ret
          exact ⟨Go.Proofs.Ytnocfhnandedoab.Hand.hk_bool rfl, HB.out⟩


end Go.Proofs.Ytnocfhnandedoab.PVRow
