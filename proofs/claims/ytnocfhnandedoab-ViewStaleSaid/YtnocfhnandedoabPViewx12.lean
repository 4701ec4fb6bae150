/- Contracts: what calls of these functions of the program do, each as a plain function; written by a program of this session. -/
import Derived.Test.YtnocfhnandedoabPViewx0
import Derived.Test.YtnocfhnandedoabPViewx3
import Derived.Test.YtnocfhnandedoabPViewx7
import Derived.Test.YtnocfhnandedoabPViewx8
import Derived.Test.YtnocfhnandedoabPViewx9
import Derived.Test.YtnocfhnandedoabPViewx10
import Derived.Test.YtnocfhnandedoabPViewx11
namespace Go.Proofs.Ytnocfhnandedoab.PView
open Go.RowKit Go.Proofs.YtnocfhnandedoabW.PrintWords Go.Proofs.YtnocfhnandedoabW.PrintLast Go.Proofs.YtnocfhnandedoabW.PrintMore
attribute [local go_sem] max2_int min2_int max_two min_two max_three min_three max_four min_four   -- for this text's walks alone
set_option linter.unusedVariables false
set_option linter.unusedSimpArgs false

/-! ### wharfagelaw12_ViewStale: function 11, by hand -/
def wharfagelaw12_ViewStale.f (a0 a1 a2 a3 a4 a5 a6 : Int) : Option Bool := some true
abbrev vs_Sn := S85
def vs_blank : vs_Sn := ⟨⟨0, 0, 0, 0⟩, -1⟩
def vs_one (i : Nat) (s ld cp t : Int) : List vs_Sn := [vs_blank, vs_blank, vs_blank].set i ⟨⟨i, s, ld, cp⟩, t⟩
theorem vs_awake_f : wharfagelaw12_awake.f 300 = some true := by kernel_rfl
theorem vs_new_f : view_New.f = some [vs_blank, vs_blank, vs_blank] := rfl
theorem vs_num_f (x : Int) : wharfagelaw0_Num.f x = some x := rfl
theorem vs_may_new : mayV [vs_blank, vs_blank, vs_blank] = true := by kernel_rfl
theorem vs_rd3 (a b c : vs_Sn) (i : Nat) (hi : i < 3) : rd_T85 [a, b, c] (i : Int) = if i = 0 then a else if i = 1 then b else c := by
  obtain rfl | rfl | rfl : i = 0 ∨ i = 1 ∨ i = 2 := by omega
  all_goals rfl
theorem vs_rep_ok {a b c d : Int} (h : (0 ≤ a ∧ a < 3) ∧ (0 ≤ b ∧ b < 65536) ∧ (0 ≤ c ∧ c < 256) ∧ (0 ≤ d ∧ d < 256)) : repOk a b c d = true := decide_eq_true h
theorem vs_time_ok {t : Int} (h : 0 ≤ t ∧ t ≤ 1048576) : timeOk t = true := decide_eq_true h
theorem vs_seen_blank (i : Int) : seenOk i vs_blank = true := by
  unfold seenOk
  rw [show noneSeen vs_blank = true from by kernel_rfl]; rfl
theorem vs_seen_ok (i : Int) (v : vs_Sn) (h1 : timeOk v.f1 = true) (h2 : repOk v.f0.f0 v.f0.f1 v.f0.f2 v.f0.f3 = true) (h3 : v.f0.f0 = i) : seenOk i v = true := by
  unfold seenOk
  rw [h1, h2, decide_eq_true h3]; simp
theorem vs_may3 (a b c : vs_Sn) (ha : seenOk 0 a = true) (hb : seenOk 1 b = true) (hc : seenOk 2 c = true) : mayV [a, b, c] = true := by
  unfold mayV seensOk seensOk seensOk seensOk
  rw [show (((0 : Nat) : Int)) = 0 from rfl, show (((0 + 1 : Nat) : Int)) = 1 from rfl, show (((0 + 1 + 1 : Nat) : Int)) = 2 from rfl, ha, hb, hc]; rfl
theorem vs_may_one (i : Nat) (hi : i < 3) (s ld cp t : Int) (h1 : repOk i s ld cp = true) (h2 : timeOk t = true) : mayV (vs_one i s ld cp t) = true := by
  obtain rfl | rfl | rfl : i = 0 ∨ i = 1 ∨ i = 2 := by omega
  · exact vs_may3 _ _ _ (vs_seen_ok _ _ h2 h1 rfl) (vs_seen_blank _) (vs_seen_blank _)
  · exact vs_may3 _ _ _ (vs_seen_blank _) (vs_seen_ok _ _ h2 h1 rfl) (vs_seen_blank _)
  · exact vs_may3 _ _ _ (vs_seen_blank _) (vs_seen_blank _) (vs_seen_ok _ _ h2 h1 rfl)
theorem vs_rd_one (i : Nat) (hi : i < 3) (s ld cp t : Int) : rd_T85 (vs_one i s ld cp t) (i : Int) = ⟨⟨i, s, ld, cp⟩, t⟩ := by
  obtain rfl | rfl | rfl : i = 0 ∨ i = 1 ∨ i = 2 := by omega
  all_goals rfl
theorem vs_rd_one_other (i j : Nat) (hi : i < 3) (hj : j < 3) (hij : i ≠ j) (s ld cp t : Int) : rd_T85 (vs_one i s ld cp t) (j : Int) = vs_blank := by
  obtain rfl | rfl | rfl : i = 0 ∨ i = 1 ∨ i = 2 := by omega
  all_goals
    obtain rfl | rfl | rfl : j = 0 ∨ j = 1 ∨ j = 2 := by omega
    all_goals first | rfl | exact absurd rfl hij
theorem vs_take_new (i : Nat) (hi : i < 3) (s ld cp t : Int) (h1 : repOk i s ld cp = true) (h2 : timeOk t = true) : view_Take.f [vs_blank, vs_blank, vs_blank] i s ld cp t = some (vs_one i s ld cp t, true, 0) := by
  unfold view_Take.f takeF
  rw [vs_may_new, h1, h2, if_pos (show (true && (true && true)) = true from rfl), vs_rd3 _ _ _ i hi]
  rw [if_neg (by rintro ⟨h, _⟩; apply h; split; rfl; split <;> rfl)]
  rfl
theorem vs_site_f (i : Nat) (hi : i < 3) : report_Site.f (i : Int) = some true := by
  unfold report_Site.f
  rw [if_pos (by omega), decide_eq_true (by omega)]
theorem vs_spare_f (l : List vs_Sn) (hm : mayV l = true) (i : Nat) (hi : i < 3) (now : Int) (ht : timeOk now = true) (v : vs_Sn) (hv : rd_T85 l (i : Int) = v) :
    view_Spare.f 300 l (i : Int) now = some (if v.f1 = -1 then (0, false, 0) else if wrap64 (now - v.f1) < 0 then (0, false, 0) else if wrap64 (now - v.f1) ≥ 10 then (0, false, 0) else (mx (wrap64 (v.f0.f3 - v.f0.f2)) 0, true, 0)) := by
  have hl : l.length = 3 := by unfold mayV at hm; simp only [Bool.and_eq_true, decide_eq_true_eq] at hm; exact hm.2
  unfold view_Spare.f
  rw [may_plain l (by omega) 300 (by omega), hm]
  simp only [Option.bind_some, if_true]
  rw [time_plain, ht]
  simp only [Option.bind_some, if_true]
  rw [vs_site_f i hi]
  simp only [Option.bind_some, Bool.not_true]
  obtain ⟨k, hk⟩ : ∃ k, 300 = k + 1 := ⟨299, rfl⟩
  rw [hk]
  simp only [view_Spare.j0]
  rw [if_neg (by decide), if_pos (by omega), if_pos (by omega), hv]
  split
  · rfl
  · split
    · rfl
    · split <;> rfl
theorem vs_same_l0 (l : List vs_Sn) (hl : l.length ≤ 9223372036854775806) (d : Nat) : ∀ (k i : Nat), l.length - i ≤ d → d < k → i ≤ l.length → wharfagelaw0_SameSeens.l0 k l l (i : Int) = some true := by
  induction d with
  | zero =>
    intro k i hd hk hi
    obtain ⟨k, rfl⟩ : ∃ m, k = m + 1 := ⟨k - 1, by omega⟩
    simp only [wharfagelaw0_SameSeens.l0]
    rw [if_neg (by omega)]
  | succ d ih =>
    intro k i hd hk hi
    obtain ⟨k, rfl⟩ : ∃ m, k = m + 1 := ⟨k - 1, by omega⟩
    simp only [wharfagelaw0_SameSeens.l0]
    by_cases h : (i : Int) < (l.length : Int)
    · rw [if_pos h, if_pos (show (0 : Int) ≤ (i : Int) by omega), if_pos h, if_neg (by simp), show wrap64 ((i : Int) + 1) = ((i + 1 : Nat) : Int) by unfold wrap64; omega]
      exact ih k (i + 1) (by omega) (by omega) (by omega)
    · rw [if_neg h]
theorem vs_same_f (l : List vs_Sn) (k : Nat) (hl : l.length < k) (hl2 : l.length ≤ 9223372036854775806) : wharfagelaw0_SameSeens.f k l l = some true := by
  unfold wharfagelaw0_SameSeens.f
  rw [if_pos rfl]
  exact vs_same_l0 l hl2 l.length k 0 (by omega) hl (by omega)

theorem vs_elder (i : Nat) (hi : i < 3) (s ld cp t b : Int) (bs : 0 ≤ s ∧ s < 65536) (bl : 0 ≤ ld ∧ ld < 16) (bc : 0 ≤ cp ∧ cp < 16) (bt : 0 ≤ t ∧ t < 4096) (bb : 0 ≤ b ∧ b < 1024) : view_Take.f (vs_one i s ld cp t) i ((s + 65536 - b) % 65536) ld cp (t + 1) = some (vs_one i s ld cp t, false, 0) := by
  have hm : mayV (vs_one i s ld cp t) = true := vs_may_one i hi s ld cp t (vs_rep_ok ⟨by omega, bs, by omega, by omega⟩) (vs_time_ok (by omega))
  unfold view_Take.f takeF
  rw [hm, vs_rep_ok ⟨by omega, by omega, by omega, by omega⟩, vs_time_ok (by omega), if_pos (show (true && (true && true)) = true from rfl), vs_rd_one i hi]
  rw [if_pos ⟨by simp only []; omega, decide_eq_false (by simp only []; omega)⟩]
def vs_room (cp ld : Int) : Int := if 0 < cp - ld then cp - ld else 0
theorem vs_spare1 (i : Nat) (hi : i < 3) (s ld cp t d : Int) (bs : 0 ≤ s ∧ s < 65536) (bl : 0 ≤ ld ∧ ld < 16) (bc : 0 ≤ cp ∧ cp < 16) (bt : 0 ≤ t ∧ t < 4096) (bd : 0 ≤ d ∧ d < 32) (h : d < 10) : view_Spare.f 300 (vs_one i s ld cp t) i (t + d) = some (vs_room cp ld, true, 0) := by
  have hm : mayV (vs_one i s ld cp t) = true := vs_may_one i hi s ld cp t (vs_rep_ok ⟨by omega, bs, by omega, by omega⟩) (vs_time_ok (by omega))
  rw [vs_spare_f _ hm i hi (t + d) (vs_time_ok (by omega)) _ (vs_rd_one i hi s ld cp t)]
  have e1 : wrap64 (t + d - t) = d := by unfold wrap64; omega
  have e2 : wrap64 (cp - ld) = cp - ld := by unfold wrap64; omega
  simp only [e1, e2]
  rw [if_neg (by omega), if_neg (by omega), if_neg (by omega)]
  unfold vs_room mx
  split <;> split <;> first | rfl | (exfalso; omega) | (simp; omega)
theorem vs_spare2 (i : Nat) (hi : i < 3) (s ld cp t d : Int) (bs : 0 ≤ s ∧ s < 65536) (bl : 0 ≤ ld ∧ ld < 16) (bc : 0 ≤ cp ∧ cp < 16) (bt : 0 ≤ t ∧ t < 4096) (bd : 0 ≤ d ∧ d < 32) (h : ¬ d < 10) : view_Spare.f 300 (vs_one i s ld cp t) i (t + d) = some (0, false, 0) := by
  have hm : mayV (vs_one i s ld cp t) = true := vs_may_one i hi s ld cp t (vs_rep_ok ⟨by omega, bs, by omega, by omega⟩) (vs_time_ok (by omega))
  rw [vs_spare_f _ hm i hi (t + d) (vs_time_ok (by omega)) _ (vs_rd_one i hi s ld cp t)]
  have e1 : wrap64 (t + d - t) = d := by unfold wrap64; omega
  simp only [e1]
  rw [if_neg (by omega), if_neg (by omega), if_pos (by omega)]
theorem vs_spare3 (i : Nat) (hi : i < 3) (s ld cp t : Int) (bs : 0 ≤ s ∧ s < 65536) (bl : 0 ≤ ld ∧ ld < 16) (bc : 0 ≤ cp ∧ cp < 16) (bt : 0 ≤ t ∧ t < 4096) (j : Int) (hj : j = (((i + 1) % 3 : Nat) : Int)) : view_Spare.f 300 (vs_one i s ld cp t) j t = some (0, false, 0) := by
  have hm : mayV (vs_one i s ld cp t) = true := vs_may_one i hi s ld cp t (vs_rep_ok ⟨by omega, bs, by omega, by omega⟩) (vs_time_ok (by omega))
  rw [hj, vs_spare_f _ hm ((i + 1) % 3) (by omega) t (vs_time_ok (by omega)) _ (vs_rd_one_other i _ hi (by omega) (by omega) s ld cp t)]
  rfl
open Go.Proofs.Ytnocfhnandedoab.NumMath (and15 and31 and65535 and1023 and4095 wrap_u64_mod wrap64_in tmod_nn) in
set_option maxHeartbeats 8000000 in
set_option maxRecDepth 100000 in
theorem wharfagelaw12_ViewStale.calls (a0 a1 a2 a3 a4 a5 a6 : Int) (r : Bool) (w : World) (h : wharfagelaw12_ViewStale.f a0 a1 a2 a3 a4 a5 a6 = some r) :
    Calls Try.prog 11 #[.int .i64 a0, .int .i64 a1, .int .i64 a2, .int .i64 a3, .int .i64 a4, .int .i64 a5, .int .i64 a6] w fun e w' => e = .returned (.bool r) ∧ Below w.heap.size w w' := by
  obtain rfl := Option.some.inj h
  clear h
  have hu := Try.underlying85
  have hu2 := Try.underlying68
  obtain ⟨i, hi0, HI⟩ : ∃ i : Nat, wrap64 (Int.tmod (IntKind.u64.wrap a0) 3) = (i : Int) ∧ Aside0 (i < 3) := by
    rw [wrap_u64_mod, tmod_nn _ _ (by omega), wrap64_in _ (by omega) (by omega)]
    exact ⟨(a0 % 18446744073709551616 % 3).toNat, by omega, ⟨by omega⟩⟩
  obtain ⟨s, hs, bs⟩ : ∃ s, bits .and .i64 a1 65535 = s ∧ Aside0 (0 ≤ s ∧ s < 65536) := ⟨_, and65535 a1, ⟨by omega⟩⟩
  obtain ⟨ld, hld, bl⟩ : ∃ s, bits .and .i64 a2 15 = s ∧ Aside0 (0 ≤ s ∧ s < 16) := ⟨_, and15 a2, ⟨by omega⟩⟩
  obtain ⟨cp, hcp, bc⟩ : ∃ s, bits .and .i64 a3 15 = s ∧ Aside0 (0 ≤ s ∧ s < 16) := ⟨_, and15 a3, ⟨by omega⟩⟩
  obtain ⟨t, ht, bt⟩ : ∃ s, bits .and .i64 a4 4095 = s ∧ Aside0 (0 ≤ s ∧ s < 4096) := ⟨_, and4095 a4, ⟨by omega⟩⟩
  obtain ⟨d, hd, bd⟩ : ∃ s, bits .and .i64 a5 31 = s ∧ Aside0 (0 ≤ s ∧ s < 32) := ⟨_, and31 a5, ⟨by omega⟩⟩
  obtain ⟨b, hbb, bb⟩ : ∃ s, bits .and .i64 a6 1023 = s ∧ Aside0 (0 ≤ s ∧ s < 1024) := ⟨_, and1023 a6, ⟨by omega⟩⟩
  obtain ⟨td, htd, HTD⟩ : ∃ x, wrap64 (t + d) = x ∧ Aside0 (x = t + d) := ⟨t + d, by have := bt.out; have := bd.out; unfold wrap64; omega, ⟨rfl⟩⟩
  obtain ⟨t1, ht1, HT1⟩ : ∃ x, wrap64 (t + 1) = x ∧ Aside0 (x = t + 1) := ⟨t + 1, by have := bt.out; unfold wrap64; omega, ⟨rfl⟩⟩
  obtain ⟨i1, hi1, HI1⟩ : ∃ x, wrap64 ((i : Int) + 1) = x ∧ Aside0 (x = (i : Int) + 1) := ⟨(i : Int) + 1, by have := HI.out; unfold wrap64; omega, ⟨rfl⟩⟩
  obtain ⟨j, hj, HJ⟩ : ∃ x, Int.tmod i1 3 = x ∧ Aside0 (x = (((i + 1) % 3 : Nat) : Int)) := ⟨_, rfl, ⟨by rw [HI1.out, tmod_nn _ _ (by omega)]; omega⟩⟩
  obtain ⟨j', hj', HJ'⟩ : ∃ x, wrap64 j = x ∧ Aside0 (x = (((i + 1) % 3 : Nat) : Int)) := ⟨_, rfl, ⟨by rw [HJ.out, wrap64_in _ (by omega) (by omega)]⟩⟩
  obtain ⟨c, hc, HC⟩ : ∃ x, wrap64 (cp - ld) = x ∧ Aside0 (x = cp - ld) := ⟨cp - ld, by have := bl.out; have := bc.out; unfold wrap64; omega, ⟨rfl⟩⟩
  obtain ⟨s1, hs1, HS1⟩ : ∃ x, wrap64 (s + 65536) = x ∧ Aside0 (x = s + 65536) := ⟨s + 65536, by have := bs.out; unfold wrap64; omega, ⟨rfl⟩⟩
  obtain ⟨s2, hs2, HS2⟩ : ∃ x, wrap64 (s1 - b) = x ∧ Aside0 (x = s + 65536 - b) := ⟨s1 - b, by have := bs.out; have := bb.out; have := HS1.out; unfold wrap64; omega, ⟨by rw [HS1.out]⟩⟩
  obtain ⟨s3, hs3, HS3⟩ : ∃ x, Int.tmod s2 65536 = x ∧ Aside0 (x = (s + 65536 - b) % 65536) := ⟨_, rfl, ⟨by have := bs.out; have := bb.out; rw [HS2.out, tmod_nn _ _ (by omega)]⟩⟩
  obtain ⟨s4, hs4, HS4⟩ : ∃ x, wrap64 s3 = x ∧ Aside0 (x = (s + 65536 - b) % 65536) := ⟨_, rfl, ⟨by rw [HS3.out, wrap64_in _ (by omega) (by omega)]⟩⟩
  have HB := Aside0.mk (Below.refl w.heap.size w)
  by_cases h10 : d < 10
  · have H10 := Aside0.mk h10
    have hmx : (if 0 < c then c else 0) = vs_room cp ld := by rw [HC.out]; rfl
    go_enter Try.func11, Try.ntmps11
    go_wp2_with first
      | (go_at_call 50; refine (wharfagelaw12_awake.calls 300 true _ vs_awake_f).mono ?_; rintro e w1 ⟨rfl, hb⟩; replace HB := Aside0.mk (below_step HB.out hb); clear hb)
    obtain ⟨w2, hW⟩ : ∃ x_, x_ = w1.alloc (Obj.cells #[Value.int IntKind.i64 (i : Int), Value.int IntKind.i64 s, Value.int IntKind.i64 ld, Value.int IntKind.i64 cp] 68) := ⟨_, rfl⟩
    rw [← hW]
    have hb : Below w1.heap.size w1 w2 := hW ▸ below_alloc (Below.refl _ _) _
    have x0 : w2.cell? ⟨w1.heap.size, 0, none⟩ = some (.int .i64 (i : Int)) := by rw [hW]; simp
    have x1 : w2.cell? ⟨w1.heap.size, 1, none⟩ = some (.int .i64 s) := by rw [hW]; simp
    have x2 : w2.cell? ⟨w1.heap.size, 2, none⟩ = some (.int .i64 ld) := by rw [hW]; simp
    have x3 : w2.cell? ⟨w1.heap.size, 3, none⟩ = some (.int .i64 cp) := by rw [hW]; simp
    replace HB := Aside0.mk (below_step HB.out hb)
    clear hb hW
    go_region_held3 (fun w' => w'.cell? ⟨w1.heap.size, 0, none⟩ = some (.int .i64 (i : Int)) ∧ w'.cell? ⟨w1.heap.size, 1, none⟩ = some (.int .i64 s) ∧ w'.cell? ⟨w1.heap.size, 2, none⟩ = some (.int .i64 ld) ∧ w'.cell? ⟨w1.heap.size, 3, none⟩ = some (.int .i64 cp)) (first | go_keep | (refine ⟨pw_cell_below hb ?_, pw_cell_below hb ?_, pw_cell_below hb ?_, pw_cell_below hb ?_⟩ <;> simp [*]))
      (first | (go_at_call 46; refine (view_New.calls _ _ vs_new_f).mono ?_; rintro e w3 ⟨v3, rfl, ho, hb⟩; obtain ⟨g3, c3, rfl, _, _⟩ := Go.Proofs.Ytnocfhnandedoab.Hand.hk_own ho (by decide); have C3 := Aside0.mk (Kd.R_reads' ho).2.1; have O3 := Aside0.mk (Kd.R_reads' ho).2.2; replace HB := Aside0.mk (below_step (below_drew1 HB.out) hb); clear ho) | (go_at_call 39; refine (view_Take.calls _ c3 _ (i : Int) s ld cp t (vs_one i s ld cp t) true 0 _ O3.out C3.out (vs_take_new i HI.out s ld cp t (vs_rep_ok ⟨by have := HI.out; omega, bs.out, by have := bl.out; omega, by have := bc.out; omega⟩) (vs_time_ok (by have := bt.out; omega)))).mono ?_; rintro e w4 ⟨v4, rfl, ho, hb⟩; obtain ⟨g4, c4, rfl, _, _⟩ := Go.Proofs.Ytnocfhnandedoab.Hand.hk_own ho (by simp [vs_one]); have C4 := Aside0.mk (Kd.R_reads' ho).2.1; have O4 := Aside0.mk (Kd.R_reads' ho).2.2; replace HB := Aside0.mk (below_step HB.out hb); clear ho))
    obtain ⟨x0, x1, x2, x3⟩ : w4.cell? ⟨w1.heap.size, 0, none⟩ = some (.int .i64 (i : Int)) ∧ w4.cell? ⟨w1.heap.size, 1, none⟩ = some (.int .i64 s) ∧ w4.cell? ⟨w1.heap.size, 2, none⟩ = some (.int .i64 ld) ∧ w4.cell? ⟨w1.heap.size, 3, none⟩ = some (.int .i64 cp) := by assumption
    clear C3 O3
    go_wp2_with first
      | (go_at_call 17; refine (wharfagelaw0_Num.calls _ _ _ rfl).mono ?_; rintro e wn ⟨rfl, hn⟩; have hb := Go.Proofs.Ytnocfhnandedoab.Hand.hk_drawn hn; clear hn; (try (replace O9 := Aside0.mk (Kd.C_below O9.out hb))); replace x0 := pw_cell_below hb x0; replace x1 := pw_cell_below hb x1; replace x2 := pw_cell_below hb x2; replace x3 := pw_cell_below hb x3; replace O4 := Aside0.mk (Kd.C_below O4.out hb); replace HB := Aside0.mk (below_step HB.out hb); clear hb)
      | (go_at_call 41; (with_reducible refine calls_of_args (args' := #[Value.slice (some ⟨g4, 0, none⟩) (vs_one i s ld cp t).length c4, Value.int IntKind.i64 (i : Int), Value.int IntKind.i64 td]) rfl ?_); refine (view_Spare.calls 300 _ c4 _ (i : Int) td (vs_room cp ld) true 0 _ O4.out C4.out (by rw [HTD.out]; exact vs_spare1 i HI.out s ld cp t d bs.out bl.out bc.out bt.out bd.out (by have := H10.out; omega))).mono ?_; rintro e w5 ⟨rfl, hb⟩; replace x0 := pw_cell_below hb x0; replace x1 := pw_cell_below hb x1; replace x2 := pw_cell_below hb x2; replace x3 := pw_cell_below hb x3; replace O4 := Aside0.mk (Kd.C_below O4.out hb); replace HB := Aside0.mk (below_step HB.out hb); clear hb)
      | (go_at_call 41; (with_reducible refine calls_of_args (args' := #[Value.slice (some ⟨g4, 0, none⟩) (vs_one i s ld cp t).length c4, Value.int IntKind.i64 j, Value.int IntKind.i64 t]) rfl ?_); refine (view_Spare.calls 300 _ c4 _ j t 0 false 0 _ O4.out C4.out (vs_spare3 i HI.out s ld cp t bs.out bl.out bc.out bt.out j HJ.out)).mono ?_; rintro e w6 ⟨rfl, hb⟩; replace x0 := pw_cell_below hb x0; replace x1 := pw_cell_below hb x1; replace x2 := pw_cell_below hb x2; replace x3 := pw_cell_below hb x3; replace O4 := Aside0.mk (Kd.C_below O4.out hb); replace HB := Aside0.mk (below_step HB.out hb); clear hb)
      | (go_at_call 39; (with_reducible refine calls_of_args (args' := #[Value.slice (some ⟨g4, 0, none⟩) (vs_one i s ld cp t).length c4, Value.agg #[Value.int IntKind.i64 (i : Int), Value.int IntKind.i64 s3, Value.int IntKind.i64 ld, Value.int IntKind.i64 cp], Value.int IntKind.i64 t1]) rfl ?_); obtain ⟨w7, hW⟩ : ∃ x_, x_ = w6.alloc (Obj.cells #[Value.int IntKind.i64 (i : Int), Value.int IntKind.i64 s3, Value.int IntKind.i64 ld, Value.int IntKind.i64 cp] 68) := ⟨_, rfl⟩; rw [← hW]; have hb : Below w6.heap.size w6 w7 := hW ▸ below_alloc (Below.refl _ _) _; clear hW; replace x0 := pw_cell_below hb x0; replace x1 := pw_cell_below hb x1; replace x2 := pw_cell_below hb x2; replace x3 := pw_cell_below hb x3; replace O4 := Aside0.mk (Kd.C_below O4.out hb); replace HB := Aside0.mk (below_step HB.out hb); clear hb; refine (view_Take.calls _ c4 _ (i : Int) s3 ld cp t1 (vs_one i s ld cp t) false 0 _ O4.out C4.out (by rw [HS3.out, HT1.out]; exact vs_elder i HI.out s ld cp t b bs.out bl.out bc.out bt.out bb.out)).mono ?_; rintro e w8 ⟨v8, rfl, ho, hb⟩; obtain ⟨g8, c8, rfl, _, _⟩ := Go.Proofs.Ytnocfhnandedoab.Hand.hk_own ho (by simp [vs_one]); have C9 := Aside0.mk (Kd.R_reads' ho).2.1; have O9 := Aside0.mk (Kd.R_reads' ho).2.2; clear ho; replace x0 := pw_cell_below hb x0; replace x1 := pw_cell_below hb x1; replace x2 := pw_cell_below hb x2; replace x3 := pw_cell_below hb x3; replace O4 := Aside0.mk (Kd.C_below O4.out hb); replace HB := Aside0.mk (below_step HB.out hb); clear hb)
      | (go_at_call 43; refine (wharfagelaw0_SameSeens.calls 300 _ c8 _ _ c4 _ true _ O9.out C9.out O4.out C4.out (vs_same_f _ 300 (by simp [vs_one]) (by simp [vs_one]))).mono ?_; rintro e w9 ⟨rfl, hn⟩; replace HB := Aside0.mk (below_step HB.out (Go.Proofs.Ytnocfhnandedoab.Hand.hk_drawn hn)); clear hn)
    go_ret
    exact ⟨Go.Proofs.Ytnocfhnandedoab.Hand.hk_bool rfl, HB.out⟩
  · have H10 := Aside0.mk h10
    have hmx : (if 0 < c then c else 0) = vs_room cp ld := by rw [HC.out]; rfl
    go_enter Try.func11, Try.ntmps11
    go_wp2_with first
      | (go_at_call 50; refine (wharfagelaw12_awake.calls 300 true _ vs_awake_f).mono ?_; rintro e w1 ⟨rfl, hb⟩; replace HB := Aside0.mk (below_step HB.out hb); clear hb)
    obtain ⟨w2, hW⟩ : ∃ x_, x_ = w1.alloc (Obj.cells #[Value.int IntKind.i64 (i : Int), Value.int IntKind.i64 s, Value.int IntKind.i64 ld, Value.int IntKind.i64 cp] 68) := ⟨_, rfl⟩
    rw [← hW]
    have hb : Below w1.heap.size w1 w2 := hW ▸ below_alloc (Below.refl _ _) _
    have x0 : w2.cell? ⟨w1.heap.size, 0, none⟩ = some (.int .i64 (i : Int)) := by rw [hW]; simp
    have x1 : w2.cell? ⟨w1.heap.size, 1, none⟩ = some (.int .i64 s) := by rw [hW]; simp
    have x2 : w2.cell? ⟨w1.heap.size, 2, none⟩ = some (.int .i64 ld) := by rw [hW]; simp
    have x3 : w2.cell? ⟨w1.heap.size, 3, none⟩ = some (.int .i64 cp) := by rw [hW]; simp
    replace HB := Aside0.mk (below_step HB.out hb)
    clear hb hW
    go_region_held3 (fun w' => w'.cell? ⟨w1.heap.size, 0, none⟩ = some (.int .i64 (i : Int)) ∧ w'.cell? ⟨w1.heap.size, 1, none⟩ = some (.int .i64 s) ∧ w'.cell? ⟨w1.heap.size, 2, none⟩ = some (.int .i64 ld) ∧ w'.cell? ⟨w1.heap.size, 3, none⟩ = some (.int .i64 cp)) (first | go_keep | (refine ⟨pw_cell_below hb ?_, pw_cell_below hb ?_, pw_cell_below hb ?_, pw_cell_below hb ?_⟩ <;> simp [*]))
      (first | (go_at_call 46; refine (view_New.calls _ _ vs_new_f).mono ?_; rintro e w3 ⟨v3, rfl, ho, hb⟩; obtain ⟨g3, c3, rfl, _, _⟩ := Go.Proofs.Ytnocfhnandedoab.Hand.hk_own ho (by decide); have C3 := Aside0.mk (Kd.R_reads' ho).2.1; have O3 := Aside0.mk (Kd.R_reads' ho).2.2; replace HB := Aside0.mk (below_step (below_drew1 HB.out) hb); clear ho) | (go_at_call 39; refine (view_Take.calls _ c3 _ (i : Int) s ld cp t (vs_one i s ld cp t) true 0 _ O3.out C3.out (vs_take_new i HI.out s ld cp t (vs_rep_ok ⟨by have := HI.out; omega, bs.out, by have := bl.out; omega, by have := bc.out; omega⟩) (vs_time_ok (by have := bt.out; omega)))).mono ?_; rintro e w4 ⟨v4, rfl, ho, hb⟩; obtain ⟨g4, c4, rfl, _, _⟩ := Go.Proofs.Ytnocfhnandedoab.Hand.hk_own ho (by simp [vs_one]); have C4 := Aside0.mk (Kd.R_reads' ho).2.1; have O4 := Aside0.mk (Kd.R_reads' ho).2.2; replace HB := Aside0.mk (below_step HB.out hb); clear ho))
    obtain ⟨x0, x1, x2, x3⟩ : w4.cell? ⟨w1.heap.size, 0, none⟩ = some (.int .i64 (i : Int)) ∧ w4.cell? ⟨w1.heap.size, 1, none⟩ = some (.int .i64 s) ∧ w4.cell? ⟨w1.heap.size, 2, none⟩ = some (.int .i64 ld) ∧ w4.cell? ⟨w1.heap.size, 3, none⟩ = some (.int .i64 cp) := by assumption
    clear C3 O3
    go_wp2_with first
      | (go_at_call 17; refine (wharfagelaw0_Num.calls _ _ _ rfl).mono ?_; rintro e wn ⟨rfl, hn⟩; have hb := Go.Proofs.Ytnocfhnandedoab.Hand.hk_drawn hn; clear hn; (try (replace O9 := Aside0.mk (Kd.C_below O9.out hb))); replace x0 := pw_cell_below hb x0; replace x1 := pw_cell_below hb x1; replace x2 := pw_cell_below hb x2; replace x3 := pw_cell_below hb x3; replace O4 := Aside0.mk (Kd.C_below O4.out hb); replace HB := Aside0.mk (below_step HB.out hb); clear hb)
      | (go_at_call 41; (with_reducible refine calls_of_args (args' := #[Value.slice (some ⟨g4, 0, none⟩) (vs_one i s ld cp t).length c4, Value.int IntKind.i64 (i : Int), Value.int IntKind.i64 td]) rfl ?_); refine (view_Spare.calls 300 _ c4 _ (i : Int) td (0) false 0 _ O4.out C4.out (by rw [HTD.out]; exact vs_spare2 i HI.out s ld cp t d bs.out bl.out bc.out bt.out bd.out (by have := H10.out; omega))).mono ?_; rintro e w5 ⟨rfl, hb⟩; replace x0 := pw_cell_below hb x0; replace x1 := pw_cell_below hb x1; replace x2 := pw_cell_below hb x2; replace x3 := pw_cell_below hb x3; replace O4 := Aside0.mk (Kd.C_below O4.out hb); replace HB := Aside0.mk (below_step HB.out hb); clear hb)
      | (go_at_call 41; (with_reducible refine calls_of_args (args' := #[Value.slice (some ⟨g4, 0, none⟩) (vs_one i s ld cp t).length c4, Value.int IntKind.i64 j, Value.int IntKind.i64 t]) rfl ?_); refine (view_Spare.calls 300 _ c4 _ j t 0 false 0 _ O4.out C4.out (vs_spare3 i HI.out s ld cp t bs.out bl.out bc.out bt.out j HJ.out)).mono ?_; rintro e w6 ⟨rfl, hb⟩; replace x0 := pw_cell_below hb x0; replace x1 := pw_cell_below hb x1; replace x2 := pw_cell_below hb x2; replace x3 := pw_cell_below hb x3; replace O4 := Aside0.mk (Kd.C_below O4.out hb); replace HB := Aside0.mk (below_step HB.out hb); clear hb)
      | (go_at_call 39; (with_reducible refine calls_of_args (args' := #[Value.slice (some ⟨g4, 0, none⟩) (vs_one i s ld cp t).length c4, Value.agg #[Value.int IntKind.i64 (i : Int), Value.int IntKind.i64 s3, Value.int IntKind.i64 ld, Value.int IntKind.i64 cp], Value.int IntKind.i64 t1]) rfl ?_); obtain ⟨w7, hW⟩ : ∃ x_, x_ = w6.alloc (Obj.cells #[Value.int IntKind.i64 (i : Int), Value.int IntKind.i64 s3, Value.int IntKind.i64 ld, Value.int IntKind.i64 cp] 68) := ⟨_, rfl⟩; rw [← hW]; have hb : Below w6.heap.size w6 w7 := hW ▸ below_alloc (Below.refl _ _) _; clear hW; replace x0 := pw_cell_below hb x0; replace x1 := pw_cell_below hb x1; replace x2 := pw_cell_below hb x2; replace x3 := pw_cell_below hb x3; replace O4 := Aside0.mk (Kd.C_below O4.out hb); replace HB := Aside0.mk (below_step HB.out hb); clear hb; refine (view_Take.calls _ c4 _ (i : Int) s3 ld cp t1 (vs_one i s ld cp t) false 0 _ O4.out C4.out (by rw [HS3.out, HT1.out]; exact vs_elder i HI.out s ld cp t b bs.out bl.out bc.out bt.out bb.out)).mono ?_; rintro e w8 ⟨v8, rfl, ho, hb⟩; obtain ⟨g8, c8, rfl, _, _⟩ := Go.Proofs.Ytnocfhnandedoab.Hand.hk_own ho (by simp [vs_one]); have C9 := Aside0.mk (Kd.R_reads' ho).2.1; have O9 := Aside0.mk (Kd.R_reads' ho).2.2; clear ho; replace x0 := pw_cell_below hb x0; replace x1 := pw_cell_below hb x1; replace x2 := pw_cell_below hb x2; replace x3 := pw_cell_below hb x3; replace O4 := Aside0.mk (Kd.C_below O4.out hb); replace HB := Aside0.mk (below_step HB.out hb); clear hb)
      | (go_at_call 43; refine (wharfagelaw0_SameSeens.calls 300 _ c8 _ _ c4 _ true _ O9.out C9.out O4.out C4.out (vs_same_f _ 300 (by simp [vs_one]) (by simp [vs_one]))).mono ?_; rintro e w9 ⟨rfl, hn⟩; replace HB := Aside0.mk (below_step HB.out (Go.Proofs.Ytnocfhnandedoab.Hand.hk_drawn hn)); clear hn)
    go_ret
    exact ⟨Go.Proofs.Ytnocfhnandedoab.Hand.hk_bool rfl, HB.out⟩


end Go.Proofs.Ytnocfhnandedoab.PView
