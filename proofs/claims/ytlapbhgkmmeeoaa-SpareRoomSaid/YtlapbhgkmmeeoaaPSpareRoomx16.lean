/- Contracts: what calls of these functions of the program do, each as a plain function; written by a program of this session. -/
import Derived.Test.YtlapbhgkmmeeoaaPSpareRoomx0
import Derived.Test.YtlapbhgkmmeeoaaPSpareRoomx6
import Derived.Test.YtlapbhgkmmeeoaaPSpareRoomx9
import Derived.Test.YtlapbhgkmmeeoaaPSpareRoomx11
import Derived.Test.YtlapbhgkmmeeoaaPSpareRoomx15
namespace Go.Proofs.Ytlapbhgkmmeeoaa.PSpareRoom
open Go.RowKit Go.Proofs.YtlapbhgkmmeeoaaW.PrintWords Go.Proofs.YtlapbhgkmmeeoaaW.PrintLast Go.Proofs.YtlapbhgkmmeeoaaW.PrintMore
attribute [local go_sem] max2_int min2_int max_two min_two max_three min_three max_four min_four   -- for this text's walks alone
set_option linter.unusedVariables false
set_option linter.unusedSimpArgs false

/-! ### spare_May: function 16, by hand -/
/-- A node that lies in a block, and what its slices lead to. -/
structure NodeAt (w : World) (g : Nat) (a0 a1 : Int) (A2 : Option Addr) (c2 : Nat) (l2 : List S53) (A3 : Option Addr) (c3 : Nat) (l3 : List S86) (A4 : Option Addr) (c4 : Nat) (l4 : List S91) (A5 : Option Addr) (c5 : Nat) (l5 : List S50) (a6 : Int) : Prop where
  blk : w.heap[g]? = some (.cells #[.int .i64 a0, .int .i64 a1, .slice A2 l2.length c2, .slice A3 l3.length c3, .slice A4 l4.length c4, .slice A5 l5.length c5, .int .i64 a6] 29 (0, 0))
  r2 : Kd.C k53 w A2 l2.length l2
  q2 : l2.length ≤ c2
  r3 : Kd.C k86 w A3 l3.length l3
  q3 : l3.length ≤ c3
  r4 : Kd.C k91 w A4 l4.length l4
  q4 : l4.length ≤ c4
  r5 : Kd.C k50 w A5 l5.length l5
  q5 : l5.length ≤ c5
theorem NodeAt.below {w : World} {g : Nat} {a0 a1 : Int} {A2 : Option Addr} {c2 : Nat} {l2 : List S53} {A3 : Option Addr} {c3 : Nat} {l3 : List S86} {A4 : Option Addr} {c4 : Nat} {l4 : List S91} {A5 : Option Addr} {c5 : Nat} {l5 : List S50} {a6 : Int} {w1 : World} (h : NodeAt w g a0 a1 A2 c2 l2 A3 c3 l3 A4 c4 l4 A5 c5 l5 a6) (hb : Below w.heap.size w w1) : NodeAt w1 g a0 a1 A2 c2 l2 A3 c3 l3 A4 c4 l4 A5 c5 l5 a6 :=
  ⟨blk_below h.blk hb, Kd.C_below h.r2 hb, h.q2, Kd.C_below h.r3 hb, h.q3, Kd.C_below h.r4 hb, h.q4, Kd.C_below h.r5 hb, h.q5⟩
def spare_May.f (k : Nat) (a0 a1 : Int) (l2 : List S53) (l3 : List S86) (l4 : List S91) (l5 : List S50) (a6 : Int) : Option Bool := (conf_May.f a1 l2).bind fun t1 => if t1 = true then (report_Site.f a0).bind fun t2 => (if t2 = true then (health_All.f k l3 4).bind fun t3 => (if t3 = true then (view_May.f k l4).bind fun t4 => (if t4 = true then cache_May.f k l5 else some false) else some false) else some false) else some false
theorem spare_May.mono : ∀ a0 a1 l2 l3 l4 l5 a6 k, LeO (spare_May.f k a0 a1 l2 l3 l4 l5 a6) (spare_May.f (k + 1) a0 a1 l2 l3 l4 l5 a6) := by
  intro a0 a1 l2 l3 l4 l5 a6 k
  unfold spare_May.f
  refine LeO.bind (LeO.refl _) (fun t => ?_)
  split
  · refine LeO.bind (LeO.refl _) (fun t => ?_)
    split
    · refine LeO.bind (health_All.mono _ _ _) (fun t => ?_)
      split
      · refine LeO.bind (view_May.mono _ _) (fun t => ?_)
        split
        · exact cache_May.mono _ _
        · exact LeO.refl _
      · exact LeO.refl _
    · exact LeO.refl _
  · exact LeO.refl _
set_option maxHeartbeats 8000000 in
set_option maxRecDepth 100000 in
theorem spare_May.at_ (k g : Nat) (a0 a1 : Int) (A2 : Option Addr) (c2 : Nat) (l2 : List S53) (A3 : Option Addr) (c3 : Nat) (l3 : List S86) (A4 : Option Addr) (c4 : Nat) (l4 : List S91) (A5 : Option Addr) (c5 : Nat) (l5 : List S50) (a6 : Int) (r : Bool) (w : World) (hN : NodeAt w g a0 a1 A2 c2 l2 A3 c3 l3 A4 c4 l4 A5 c5 l5 a6) (h : spare_May.f k a0 a1 l2 l3 l4 l5 a6 = some r) :
    Calls Try.prog 16 #[.pointer (some ⟨g, 0, none⟩)] w fun e w' => e = .returned (.bool r) ∧ Below w.heap.size w w' := by
  have HN := Aside0.mk hN
  have HB := Aside0.mk (Below.refl w.heap.size w)
  have x0 : w.cell? ⟨g, 0, none⟩ = some (.int .i64 a0) := (blk_cell hN.blk 0).trans rfl
  have x1 : w.cell? ⟨g, 1, none⟩ = some (.int .i64 a1) := (blk_cell hN.blk 1).trans rfl
  have x2 : w.cell? ⟨g, 2, none⟩ = some (.slice A2 l2.length c2) := (blk_cell hN.blk 2).trans rfl
  have x3 : w.cell? ⟨g, 3, none⟩ = some (.slice A3 l3.length c3) := (blk_cell hN.blk 3).trans rfl
  have x4 : w.cell? ⟨g, 4, none⟩ = some (.slice A4 l4.length c4) := (blk_cell hN.blk 4).trans rfl
  have x5 : w.cell? ⟨g, 5, none⟩ = some (.slice A5 l5.length c5) := (blk_cell hN.blk 5).trans rfl
  clear hN
  obtain ⟨t1, h1, h⟩ := Option.bind_eq_some_iff.mp h
  replace h1 := Aside0.mk h1
  cases t1
  · obtain rfl : false = r := Option.some.inj h
    clear h
    go_enter Try.func16, Try.ntmps16
    go_wp2_with (first | (go_at_call 33; refine (conf_May.calls a1 _ _ l2 false _ HN.out.r2 HN.out.q2 h1.out).mono ?_; rintro e w1 ⟨rfl, hb⟩; replace x0 := pw_cell_below hb x0; replace x1 := pw_cell_below hb x1; replace x2 := pw_cell_below hb x2; replace x3 := pw_cell_below hb x3; replace x4 := pw_cell_below hb x4; replace x5 := pw_cell_below hb x5; replace HN := Aside0.mk (HN.out.below hb); replace HB := Aside0.mk (below_step HB.out hb); clear hb))
    go_ret
    exact ⟨rfl, HB.out⟩
  · rw [if_pos rfl] at h
    obtain ⟨t2, h2, h⟩ := Option.bind_eq_some_iff.mp h
    replace h2 := Aside0.mk h2
    cases t2
    · obtain rfl : false = r := Option.some.inj h
      clear h
      go_enter Try.func16, Try.ntmps16
      go_wp2_with (first | (go_at_call 33; refine (conf_May.calls a1 _ _ l2 true _ HN.out.r2 HN.out.q2 h1.out).mono ?_; rintro e w1 ⟨rfl, hb⟩; replace x0 := pw_cell_below hb x0; replace x1 := pw_cell_below hb x1; replace x2 := pw_cell_below hb x2; replace x3 := pw_cell_below hb x3; replace x4 := pw_cell_below hb x4; replace x5 := pw_cell_below hb x5; replace HN := Aside0.mk (HN.out.below hb); replace HB := Aside0.mk (below_step HB.out hb); clear hb) | (go_at_call 34; refine (report_Site.calls a0 false _ h2.out).mono ?_; rintro e w2 ⟨rfl, hn⟩; have hb := Go.Proofs.Ytlapbhgkmmeeoaa.Hand.hk_drawn hn; clear hn; replace x0 := pw_cell_below hb x0; replace x1 := pw_cell_below hb x1; replace x2 := pw_cell_below hb x2; replace x3 := pw_cell_below hb x3; replace x4 := pw_cell_below hb x4; replace x5 := pw_cell_below hb x5; replace HN := Aside0.mk (HN.out.below hb); replace HB := Aside0.mk (below_step HB.out hb); clear hb))
      go_ret
      exact ⟨rfl, HB.out⟩
    · rw [if_pos rfl] at h
      obtain ⟨t3, h3, h⟩ := Option.bind_eq_some_iff.mp h
      replace h3 := Aside0.mk h3
      cases t3
      · obtain rfl : false = r := Option.some.inj h
        clear h
        go_enter Try.func16, Try.ntmps16
        go_wp2_with (first | (go_at_call 33; refine (conf_May.calls a1 _ _ l2 true _ HN.out.r2 HN.out.q2 h1.out).mono ?_; rintro e w1 ⟨rfl, hb⟩; replace x0 := pw_cell_below hb x0; replace x1 := pw_cell_below hb x1; replace x2 := pw_cell_below hb x2; replace x3 := pw_cell_below hb x3; replace x4 := pw_cell_below hb x4; replace x5 := pw_cell_below hb x5; replace HN := Aside0.mk (HN.out.below hb); replace HB := Aside0.mk (below_step HB.out hb); clear hb) | (go_at_call 34; refine (report_Site.calls a0 true _ h2.out).mono ?_; rintro e w2 ⟨rfl, hn⟩; have hb := Go.Proofs.Ytlapbhgkmmeeoaa.Hand.hk_drawn hn; clear hn; replace x0 := pw_cell_below hb x0; replace x1 := pw_cell_below hb x1; replace x2 := pw_cell_below hb x2; replace x3 := pw_cell_below hb x3; replace x4 := pw_cell_below hb x4; replace x5 := pw_cell_below hb x5; replace HN := Aside0.mk (HN.out.below hb); replace HB := Aside0.mk (below_step HB.out hb); clear hb) | (go_at_call 35; refine (health_All.calls k _ _ l3 4 false _ HN.out.r3 HN.out.q3 h3.out).mono ?_; rintro e w3 ⟨rfl, hb⟩; replace x0 := pw_cell_below hb x0; replace x1 := pw_cell_below hb x1; replace x2 := pw_cell_below hb x2; replace x3 := pw_cell_below hb x3; replace x4 := pw_cell_below hb x4; replace x5 := pw_cell_below hb x5; replace HN := Aside0.mk (HN.out.below hb); replace HB := Aside0.mk (below_step HB.out hb); clear hb))
        go_ret
        exact ⟨rfl, HB.out⟩
      · rw [if_pos rfl] at h
        obtain ⟨t4, h4, h⟩ := Option.bind_eq_some_iff.mp h
        replace h4 := Aside0.mk h4
        cases t4
        · obtain rfl : false = r := Option.some.inj h
          clear h
          go_enter Try.func16, Try.ntmps16
          go_wp2_with (first | (go_at_call 33; refine (conf_May.calls a1 _ _ l2 true _ HN.out.r2 HN.out.q2 h1.out).mono ?_; rintro e w1 ⟨rfl, hb⟩; replace x0 := pw_cell_below hb x0; replace x1 := pw_cell_below hb x1; replace x2 := pw_cell_below hb x2; replace x3 := pw_cell_below hb x3; replace x4 := pw_cell_below hb x4; replace x5 := pw_cell_below hb x5; replace HN := Aside0.mk (HN.out.below hb); replace HB := Aside0.mk (below_step HB.out hb); clear hb) | (go_at_call 34; refine (report_Site.calls a0 true _ h2.out).mono ?_; rintro e w2 ⟨rfl, hn⟩; have hb := Go.Proofs.Ytlapbhgkmmeeoaa.Hand.hk_drawn hn; clear hn; replace x0 := pw_cell_below hb x0; replace x1 := pw_cell_below hb x1; replace x2 := pw_cell_below hb x2; replace x3 := pw_cell_below hb x3; replace x4 := pw_cell_below hb x4; replace x5 := pw_cell_below hb x5; replace HN := Aside0.mk (HN.out.below hb); replace HB := Aside0.mk (below_step HB.out hb); clear hb) | (go_at_call 35; refine (health_All.calls k _ _ l3 4 true _ HN.out.r3 HN.out.q3 h3.out).mono ?_; rintro e w3 ⟨rfl, hb⟩; replace x0 := pw_cell_below hb x0; replace x1 := pw_cell_below hb x1; replace x2 := pw_cell_below hb x2; replace x3 := pw_cell_below hb x3; replace x4 := pw_cell_below hb x4; replace x5 := pw_cell_below hb x5; replace HN := Aside0.mk (HN.out.below hb); replace HB := Aside0.mk (below_step HB.out hb); clear hb) | (go_at_call 36; refine (view_May.calls k _ _ l4 false _ HN.out.r4 HN.out.q4 h4.out).mono ?_; rintro e w4 ⟨rfl, hb⟩; replace x0 := pw_cell_below hb x0; replace x1 := pw_cell_below hb x1; replace x2 := pw_cell_below hb x2; replace x3 := pw_cell_below hb x3; replace x4 := pw_cell_below hb x4; replace x5 := pw_cell_below hb x5; replace HN := Aside0.mk (HN.out.below hb); replace HB := Aside0.mk (below_step HB.out hb); clear hb))
          go_ret
          exact ⟨rfl, HB.out⟩
        · rw [if_pos rfl] at h
          have h5 := Aside0.mk h
          clear h
          go_enter Try.func16, Try.ntmps16
          go_wp2_with (first | (go_at_call 33; refine (conf_May.calls a1 _ _ l2 true _ HN.out.r2 HN.out.q2 h1.out).mono ?_; rintro e w1 ⟨rfl, hb⟩; replace x0 := pw_cell_below hb x0; replace x1 := pw_cell_below hb x1; replace x2 := pw_cell_below hb x2; replace x3 := pw_cell_below hb x3; replace x4 := pw_cell_below hb x4; replace x5 := pw_cell_below hb x5; replace HN := Aside0.mk (HN.out.below hb); replace HB := Aside0.mk (below_step HB.out hb); clear hb) | (go_at_call 34; refine (report_Site.calls a0 true _ h2.out).mono ?_; rintro e w2 ⟨rfl, hn⟩; have hb := Go.Proofs.Ytlapbhgkmmeeoaa.Hand.hk_drawn hn; clear hn; replace x0 := pw_cell_below hb x0; replace x1 := pw_cell_below hb x1; replace x2 := pw_cell_below hb x2; replace x3 := pw_cell_below hb x3; replace x4 := pw_cell_below hb x4; replace x5 := pw_cell_below hb x5; replace HN := Aside0.mk (HN.out.below hb); replace HB := Aside0.mk (below_step HB.out hb); clear hb) | (go_at_call 35; refine (health_All.calls k _ _ l3 4 true _ HN.out.r3 HN.out.q3 h3.out).mono ?_; rintro e w3 ⟨rfl, hb⟩; replace x0 := pw_cell_below hb x0; replace x1 := pw_cell_below hb x1; replace x2 := pw_cell_below hb x2; replace x3 := pw_cell_below hb x3; replace x4 := pw_cell_below hb x4; replace x5 := pw_cell_below hb x5; replace HN := Aside0.mk (HN.out.below hb); replace HB := Aside0.mk (below_step HB.out hb); clear hb) | (go_at_call 36; refine (view_May.calls k _ _ l4 true _ HN.out.r4 HN.out.q4 h4.out).mono ?_; rintro e w4 ⟨rfl, hb⟩; replace x0 := pw_cell_below hb x0; replace x1 := pw_cell_below hb x1; replace x2 := pw_cell_below hb x2; replace x3 := pw_cell_below hb x3; replace x4 := pw_cell_below hb x4; replace x5 := pw_cell_below hb x5; replace HN := Aside0.mk (HN.out.below hb); replace HB := Aside0.mk (below_step HB.out hb); clear hb) | (go_at_call 37; refine (cache_May.calls k _ _ l5 r _ HN.out.r5 HN.out.q5 h5.out).mono ?_; rintro e w5 ⟨rfl, hb⟩; replace x0 := pw_cell_below hb x0; replace x1 := pw_cell_below hb x1; replace x2 := pw_cell_below hb x2; replace x3 := pw_cell_below hb x3; replace x4 := pw_cell_below hb x4; replace x5 := pw_cell_below hb x5; replace HN := Aside0.mk (HN.out.below hb); replace HB := Aside0.mk (below_step HB.out hb); clear hb))
          go_ret
          exact ⟨rfl, HB.out⟩


/-! ### conf_Site: function 17, by hand -/
set_option maxHeartbeats 4000000 in
set_option maxRecDepth 100000 in
theorem conf_Site.no (g : Nat) (A : Option Addr) (c n : Nat) (i : Int) (hi : i < 0 ∨ (n : Int) ≤ i) (w : World) (h1 : w.cell? ⟨g, 1, none⟩ = some (.slice A n c)) :
    Calls Try.prog 17 #[.pointer (some ⟨g, 0, none⟩), .int .i64 i] w fun e w' => e = .returned (.tuple #[.agg #[.int .i64 0, .bool false, .int .i64 0, .slice none 0 0], .bool false]) ∧ Below w.heap.size w w' := by
  have hu := Try.underlying53
  have h1' : ∀ o, (w.alloc o).cell? ⟨g, 1, none⟩ = some (.slice A n c) := fun o => pw_cell_below ((Below.refl _ _).alloc (Nat.le_refl _) o) h1
  by_cases h0 : i < 0
  · clear hi
    go_enter Try.func17, Try.ntmps17
    go_wp2
    exact bodyPost_ret (v := .tuple #[.agg #[.int .i64 0, .bool false, .int .i64 0, .slice none 0 0], .bool false]) (by simp [results, Try.results17, go_sem]) rfl ⟨rfl, by repeat (first | exact Below.refl _ _ | exact (Below.refl _ _).alloc (Nat.le_refl _) _ | refine Below.setCell ?_ (by simp) _ | refine pw_below_drewN ?_ _)⟩
  · have h2 : (n : Int) ≤ i := by omega
    clear hi
    go_enter Try.func17, Try.ntmps17
    go_wp2
    exact bodyPost_ret (v := .tuple #[.agg #[.int .i64 0, .bool false, .int .i64 0, .slice none 0 0], .bool false]) (by simp [results, Try.results17, go_sem]) rfl ⟨rfl, by repeat (first | exact Below.refl _ _ | exact (Below.refl _ _).alloc (Nat.le_refl _) _ | refine Below.setCell ?_ (by simp) _ | refine pw_below_drewN ?_ _)⟩
set_option maxHeartbeats 4000000 in
set_option maxRecDepth 100000 in
theorem conf_Site.yes (g : Nat) (A : Option Addr) (c : Nat) (l : List S53) (i : Nat) (x : S53) (hx : l[i]? = some x) (w : World) (h1 : w.cell? ⟨g, 1, none⟩ = some (.slice A l.length c)) (hr : Kd.C k53 w A l.length l) :
    Calls Try.prog 17 #[.pointer (some ⟨g, 0, none⟩), .int .i64 (i : Int)] w fun e w' => Aside0 (∃ A3 c3, e = .returned (.tuple #[.agg #[.int .i64 x.f0, .bool x.f1, .int .i64 x.f2, .slice A3 x.f3.length c3], .bool true]) ∧ x.f3.length ≤ c3 ∧ Kd.C k83 w A3 x.f3.length x.f3 ∧ Below w.heap.size w w') := by
  have hl := hr.2.1
  obtain ⟨hi, hx'⟩ := List.getElem?_eq_some_iff.1 hx
  obtain ⟨ad, A3, c3, e, hx0, hx1, hx2, hx3, l3, g3⟩ := at_T53 hr (i : Int) (by omega) (by omega)
  subst e
  have er : rd_T53 l (i : Int) = x := by simp [rd_T53, hi, hx']
  rw [er] at hx0 hx1 hx2 hx3 l3 g3
  rw [Int.toNat_natCast] at hx0 hx1 hx2 hx3
  have G := Aside0.mk (And.intro l3 g3)
  clear l3 g3 hr er hx hx'
  have hu := Try.underlying53
  have h1' : ∀ o, (w.alloc o).cell? ⟨g, 1, none⟩ = some (.slice (some ad) l.length c) := fun o => pw_cell_below ((Below.refl _ _).alloc (Nat.le_refl _) o) h1
  have y0 : ∀ o, (w.alloc o).cell? _ = _ := fun o => pw_cell_below ((Below.refl _ _).alloc (Nat.le_refl _) o) hx0
  have y1 : ∀ o, (w.alloc o).cell? _ = _ := fun o => pw_cell_below ((Below.refl _ _).alloc (Nat.le_refl _) o) hx1
  have y2 : ∀ o, (w.alloc o).cell? _ = _ := fun o => pw_cell_below ((Below.refl _ _).alloc (Nat.le_refl _) o) hx2
  have y3 : ∀ o, (w.alloc o).cell? _ = _ := fun o => pw_cell_below ((Below.refl _ _).alloc (Nat.le_refl _) o) hx3
  clear hx0 hx1 hx2 hx3
  go_enter Try.func17, Try.ntmps17
  go_wp2
  exact bodyPost_ret (v := .tuple #[.agg #[.int .i64 x.f0, .bool x.f1, .int .i64 x.f2, .slice A3 x.f3.length c3], .bool true]) (by simp [results, Try.results17, go_sem]) rfl
    (Aside0.mk ⟨A3, c3, rfl, G.out.1, G.out.2, by repeat (first | exact Below.refl _ _ | exact (Below.refl _ _).alloc (Nat.le_refl _) _ | refine Below.setCell ?_ (by simp) _ | refine pw_below_drewN ?_ _)⟩)


end Go.Proofs.Ytlapbhgkmmeeoaa.PSpareRoom
