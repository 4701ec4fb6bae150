/- Contracts: what calls of these functions of the program do, each as a plain function; written by a program of this session. -/
import Derived.Test.YtnocfhnandedoacPSpareTargetsx0
import Derived.Test.YtnocfhnandedoacPSpareTargetsx4
import Derived.Test.YtnocfhnandedoacPSpareTargetsx7
import Derived.Test.YtnocfhnandedoacPSpareTargetsx9
import Derived.Test.YtnocfhnandedoacPSpareTargetsx13
namespace Go.Proofs.Ytnocfhnandedoac.PSpareTargets
open Go.RowKit Go.Proofs.YtnocfhnandedoacW.PrintWords Go.Proofs.YtnocfhnandedoacW.PrintLast Go.Proofs.YtnocfhnandedoacW.PrintMore
attribute [local go_sem] max2_int min2_int max_two min_two max_three min_three max_four min_four   -- for this text's walks alone
set_option linter.unusedVariables false
set_option linter.unusedSimpArgs false

/-! ### spare_May: function 20, by hand -/
/-- A node that lies in a block, and what its slices lead to. -/
structure NodeAt (w : World) (g : Nat) (a0 a1 : Int) (A2 : Option Addr) (c2 : Nat) (l2 : List S51) (A3 : Option Addr) (c3 : Nat) (l3 : List S63) (A4 : Option Addr) (c4 : Nat) (l4 : List S55) (A5 : Option Addr) (c5 : Nat) (l5 : List S60) (a6 : Int) : Prop where
  blk : w.heap[g]? = some (.cells #[.int .i64 a0, .int .i64 a1, .slice A2 l2.length c2, .slice A3 l3.length c3, .slice A4 l4.length c4, .slice A5 l5.length c5, .int .i64 a6] 29 (0, 0))
  r2 : Kd.C k51 w A2 l2.length l2
  q2 : l2.length ≤ c2
  r3 : Kd.C k63 w A3 l3.length l3
  q3 : l3.length ≤ c3
  r4 : Kd.C k55 w A4 l4.length l4
  q4 : l4.length ≤ c4
  r5 : Kd.C k60 w A5 l5.length l5
  q5 : l5.length ≤ c5
theorem NodeAt.below {w : World} {g : Nat} {a0 a1 : Int} {A2 : Option Addr} {c2 : Nat} {l2 : List S51} {A3 : Option Addr} {c3 : Nat} {l3 : List S63} {A4 : Option Addr} {c4 : Nat} {l4 : List S55} {A5 : Option Addr} {c5 : Nat} {l5 : List S60} {a6 : Int} {w1 : World} (h : NodeAt w g a0 a1 A2 c2 l2 A3 c3 l3 A4 c4 l4 A5 c5 l5 a6) (hb : Below w.heap.size w w1) : NodeAt w1 g a0 a1 A2 c2 l2 A3 c3 l3 A4 c4 l4 A5 c5 l5 a6 :=
  ⟨blk_below h.blk hb, Kd.C_below h.r2 hb, h.q2, Kd.C_below h.r3 hb, h.q3, Kd.C_below h.r4 hb, h.q4, Kd.C_below h.r5 hb, h.q5⟩
def spare_May.f (k : Nat) (a0 a1 : Int) (l2 : List S51) (l3 : List S63) (l4 : List S55) (l5 : List S60) (a6 : Int) : Option Bool := (conf_May.f a1 l2).bind fun t1 => if t1 = true then (report_Site.f a0).bind fun t2 => (if t2 = true then (health_All.f k l3 4).bind fun t3 => (if t3 = true then (view_May.f k l4).bind fun t4 => (if t4 = true then cache_May.f k l5 else some false) else some false) else some false) else some false
theorem spare_May.mono : ∀ a0 a1 l2 l3 l4 l5 a6 k, LeO (spare_May.f k a0 a1 l2 l3 l4 l5 a6) (spare_May.f (k + 1) a0 a1 l2 l3 l4 l5 a6) := by
  intro a0 a1 l2 l3 l4 l5 a6 k
  unfold spare_May.f
  refine LeO.bind (LeO.refl _) (fun t => ?_)
  split
  · refine LeO.bind (LeO.refl _) (fun t => ?_)
    split
    · refine LeO.bind (health_All.mono _ _ _) (fun t => ?_)
      split
      · refine LeO.bind (view_May.mono _ _) (fun t => ?_)
        split
        · exact cache_May.mono _ _
        · exact LeO.refl _
      · exact LeO.refl _
    · exact LeO.refl _
  · exact LeO.refl _
set_option maxHeartbeats 8000000 in
set_option maxRecDepth 100000 in
theorem spare_May.at_ (k g : Nat) (a0 a1 : Int) (A2 : Option Addr) (c2 : Nat) (l2 : List S51) (A3 : Option Addr) (c3 : Nat) (l3 : List S63) (A4 : Option Addr) (c4 : Nat) (l4 : List S55) (A5 : Option Addr) (c5 : Nat) (l5 : List S60) (a6 : Int) (r : Bool) (w : World) (hN : NodeAt w g a0 a1 A2 c2 l2 A3 c3 l3 A4 c4 l4 A5 c5 l5 a6) (h : spare_May.f k a0 a1 l2 l3 l4 l5 a6 = some r) :
    Calls Try.prog 20 #[.pointer (some ⟨g, 0, none⟩)] w fun e w' => e = .returned (.bool r) ∧ Below w.heap.size w w' := by
  have HN := Aside0.mk hN
  have HB := Aside0.mk (Below.refl w.heap.size w)
  have x0 : w.cell? ⟨g, 0, none⟩ = some (.int .i64 a0) := (blk_cell hN.blk 0).trans rfl
  have x1 : w.cell? ⟨g, 1, none⟩ = some (.int .i64 a1) := (blk_cell hN.blk 1).trans rfl
  have x2 : w.cell? ⟨g, 2, none⟩ = some (.slice A2 l2.length c2) := (blk_cell hN.blk 2).trans rfl
  have x3 : w.cell? ⟨g, 3, none⟩ = some (.slice A3 l3.length c3) := (blk_cell hN.blk 3).trans rfl
  have x4 : w.cell? ⟨g, 4, none⟩ = some (.slice A4 l4.length c4) := (blk_cell hN.blk 4).trans rfl
  have x5 : w.cell? ⟨g, 5, none⟩ = some (.slice A5 l5.length c5) := (blk_cell hN.blk 5).trans rfl
  clear hN
  obtain ⟨t1, h1, h⟩ := Option.bind_eq_some_iff.mp h
  replace h1 := Aside0.mk h1
  cases t1
  · obtain rfl : false = r := Option.some.inj h
    clear h
    go_enter Try.func20, Try.ntmps20
    go_wp2_with (first | (go_at_call 38; refine (conf_May.calls a1 _ _ l2 false _ HN.out.r2 HN.out.q2 h1.out).mono ?_; rintro e w1 ⟨rfl, hb⟩; replace x0 := pw_cell_below hb x0; replace x1 := pw_cell_below hb x1; replace x2 := pw_cell_below hb x2; replace x3 := pw_cell_below hb x3; replace x4 := pw_cell_below hb x4; replace x5 := pw_cell_below hb x5; replace HN := Aside0.mk (HN.out.below hb); replace HB := Aside0.mk (below_step HB.out hb); clear hb))
    go_ret
    exact ⟨rfl, HB.out⟩
  · rw [if_pos rfl] at h
    obtain ⟨t2, h2, h⟩ := Option.bind_eq_some_iff.mp h
    replace h2 := Aside0.mk h2
    cases t2
    · obtain rfl : false = r := Option.some.inj h
      clear h
      go_enter Try.func20, Try.ntmps20
      go_wp2_with (first | (go_at_call 38; refine (conf_May.calls a1 _ _ l2 true _ HN.out.r2 HN.out.q2 h1.out).mono ?_; rintro e w1 ⟨rfl, hb⟩; replace x0 := pw_cell_below hb x0; replace x1 := pw_cell_below hb x1; replace x2 := pw_cell_below hb x2; replace x3 := pw_cell_below hb x3; replace x4 := pw_cell_below hb x4; replace x5 := pw_cell_below hb x5; replace HN := Aside0.mk (HN.out.below hb); replace HB := Aside0.mk (below_step HB.out hb); clear hb) | (go_at_call 39; refine (report_Site.calls a0 false _ h2.out).mono ?_; rintro e w2 ⟨rfl, hn⟩; have hb := Go.Proofs.Ytnocfhnandedoac.Hand.hk_drawn hn; clear hn; replace x0 := pw_cell_below hb x0; replace x1 := pw_cell_below hb x1; replace x2 := pw_cell_below hb x2; replace x3 := pw_cell_below hb x3; replace x4 := pw_cell_below hb x4; replace x5 := pw_cell_below hb x5; replace HN := Aside0.mk (HN.out.below hb); replace HB := Aside0.mk (below_step HB.out hb); clear hb))
      go_ret
      exact ⟨rfl, HB.out⟩
    · rw [if_pos rfl] at h
      obtain ⟨t3, h3, h⟩ := Option.bind_eq_some_iff.mp h
      replace h3 := Aside0.mk h3
      cases t3
      · obtain rfl : false = r := Option.some.inj h
        clear h
        go_enter Try.func20, Try.ntmps20
        go_wp2_with (first | (go_at_call 38; refine (conf_May.calls a1 _ _ l2 true _ HN.out.r2 HN.out.q2 h1.out).mono ?_; rintro e w1 ⟨rfl, hb⟩; replace x0 := pw_cell_below hb x0; replace x1 := pw_cell_below hb x1; replace x2 := pw_cell_below hb x2; replace x3 := pw_cell_below hb x3; replace x4 := pw_cell_below hb x4; replace x5 := pw_cell_below hb x5; replace HN := Aside0.mk (HN.out.below hb); replace HB := Aside0.mk (below_step HB.out hb); clear hb) | (go_at_call 39; refine (report_Site.calls a0 true _ h2.out).mono ?_; rintro e w2 ⟨rfl, hn⟩; have hb := Go.Proofs.Ytnocfhnandedoac.Hand.hk_drawn hn; clear hn; replace x0 := pw_cell_below hb x0; replace x1 := pw_cell_below hb x1; replace x2 := pw_cell_below hb x2; replace x3 := pw_cell_below hb x3; replace x4 := pw_cell_below hb x4; replace x5 := pw_cell_below hb x5; replace HN := Aside0.mk (HN.out.below hb); replace HB := Aside0.mk (below_step HB.out hb); clear hb) | (go_at_call 40; refine (health_All.calls k _ _ l3 4 false _ HN.out.r3 HN.out.q3 h3.out).mono ?_; rintro e w3 ⟨rfl, hb⟩; replace x0 := pw_cell_below hb x0; replace x1 := pw_cell_below hb x1; replace x2 := pw_cell_below hb x2; replace x3 := pw_cell_below hb x3; replace x4 := pw_cell_below hb x4; replace x5 := pw_cell_below hb x5; replace HN := Aside0.mk (HN.out.below hb); replace HB := Aside0.mk (below_step HB.out hb); clear hb))
        go_ret
        exact ⟨rfl, HB.out⟩
      · rw [if_pos rfl] at h
        obtain ⟨t4, h4, h⟩ := Option.bind_eq_some_iff.mp h
        replace h4 := Aside0.mk h4
        cases t4
        · obtain rfl : false = r := Option.some.inj h
          clear h
          go_enter Try.func20, Try.ntmps20
          go_wp2_with (first | (go_at_call 38; refine (conf_May.calls a1 _ _ l2 true _ HN.out.r2 HN.out.q2 h1.out).mono ?_; rintro e w1 ⟨rfl, hb⟩; replace x0 := pw_cell_below hb x0; replace x1 := pw_cell_below hb x1; replace x2 := pw_cell_below hb x2; replace x3 := pw_cell_below hb x3; replace x4 := pw_cell_below hb x4; replace x5 := pw_cell_below hb x5; replace HN := Aside0.mk (HN.out.below hb); replace HB := Aside0.mk (below_step HB.out hb); clear hb) | (go_at_call 39; refine (report_Site.calls a0 true _ h2.out).mono ?_; rintro e w2 ⟨rfl, hn⟩; have hb := Go.Proofs.Ytnocfhnandedoac.Hand.hk_drawn hn; clear hn; replace x0 := pw_cell_below hb x0; replace x1 := pw_cell_below hb x1; replace x2 := pw_cell_below hb x2; replace x3 := pw_cell_below hb x3; replace x4 := pw_cell_below hb x4; replace x5 := pw_cell_below hb x5; replace HN := Aside0.mk (HN.out.below hb); replace HB := Aside0.mk (below_step HB.out hb); clear hb) | (go_at_call 40; refine (health_All.calls k _ _ l3 4 true _ HN.out.r3 HN.out.q3 h3.out).mono ?_; rintro e w3 ⟨rfl, hb⟩; replace x0 := pw_cell_below hb x0; replace x1 := pw_cell_below hb x1; replace x2 := pw_cell_below hb x2; replace x3 := pw_cell_below hb x3; replace x4 := pw_cell_below hb x4; replace x5 := pw_cell_below hb x5; replace HN := Aside0.mk (HN.out.below hb); replace HB := Aside0.mk (below_step HB.out hb); clear hb) | (go_at_call 41; refine (view_May.calls k _ _ l4 false _ HN.out.r4 HN.out.q4 h4.out).mono ?_; rintro e w4 ⟨rfl, hb⟩; replace x0 := pw_cell_below hb x0; replace x1 := pw_cell_below hb x1; replace x2 := pw_cell_below hb x2; replace x3 := pw_cell_below hb x3; replace x4 := pw_cell_below hb x4; replace x5 := pw_cell_below hb x5; replace HN := Aside0.mk (HN.out.below hb); replace HB := Aside0.mk (below_step HB.out hb); clear hb))
          go_ret
          exact ⟨rfl, HB.out⟩
        · rw [if_pos rfl] at h
          have h5 := Aside0.mk h
          clear h
          go_enter Try.func20, Try.ntmps20
          go_wp2_with (first | (go_at_call 38; refine (conf_May.calls a1 _ _ l2 true _ HN.out.r2 HN.out.q2 h1.out).mono ?_; rintro e w1 ⟨rfl, hb⟩; replace x0 := pw_cell_below hb x0; replace x1 := pw_cell_below hb x1; replace x2 := pw_cell_below hb x2; replace x3 := pw_cell_below hb x3; replace x4 := pw_cell_below hb x4; replace x5 := pw_cell_below hb x5; replace HN := Aside0.mk (HN.out.below hb); replace HB := Aside0.mk (below_step HB.out hb); clear hb) | (go_at_call 39; refine (report_Site.calls a0 true _ h2.out).mono ?_; rintro e w2 ⟨rfl, hn⟩; have hb := Go.Proofs.Ytnocfhnandedoac.Hand.hk_drawn hn; clear hn; replace x0 := pw_cell_below hb x0; replace x1 := pw_cell_below hb x1; replace x2 := pw_cell_below hb x2; replace x3 := pw_cell_below hb x3; replace x4 := pw_cell_below hb x4; replace x5 := pw_cell_below hb x5; replace HN := Aside0.mk (HN.out.below hb); replace HB := Aside0.mk (below_step HB.out hb); clear hb) | (go_at_call 40; refine (health_All.calls k _ _ l3 4 true _ HN.out.r3 HN.out.q3 h3.out).mono ?_; rintro e w3 ⟨rfl, hb⟩; replace x0 := pw_cell_below hb x0; replace x1 := pw_cell_below hb x1; replace x2 := pw_cell_below hb x2; replace x3 := pw_cell_below hb x3; replace x4 := pw_cell_below hb x4; replace x5 := pw_cell_below hb x5; replace HN := Aside0.mk (HN.out.below hb); replace HB := Aside0.mk (below_step HB.out hb); clear hb) | (go_at_call 41; refine (view_May.calls k _ _ l4 true _ HN.out.r4 HN.out.q4 h4.out).mono ?_; rintro e w4 ⟨rfl, hb⟩; replace x0 := pw_cell_below hb x0; replace x1 := pw_cell_below hb x1; replace x2 := pw_cell_below hb x2; replace x3 := pw_cell_below hb x3; replace x4 := pw_cell_below hb x4; replace x5 := pw_cell_below hb x5; replace HN := Aside0.mk (HN.out.below hb); replace HB := Aside0.mk (below_step HB.out hb); clear hb) | (go_at_call 42; refine (cache_May.calls k _ _ l5 r _ HN.out.r5 HN.out.q5 h5.out).mono ?_; rintro e w5 ⟨rfl, hb⟩; replace x0 := pw_cell_below hb x0; replace x1 := pw_cell_below hb x1; replace x2 := pw_cell_below hb x2; replace x3 := pw_cell_below hb x3; replace x4 := pw_cell_below hb x4; replace x5 := pw_cell_below hb x5; replace HN := Aside0.mk (HN.out.below hb); replace HB := Aside0.mk (below_step HB.out hb); clear hb))
          go_ret
          exact ⟨rfl, HB.out⟩


end Go.Proofs.Ytnocfhnandedoac.PSpareTargets
