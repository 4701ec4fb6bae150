/- Contracts: what calls of these functions of the program do, each as a plain function; written by a program of this session. -/
import Derived.Test.YtlapbhgkmmeeoaaPSpareRoomx0
namespace Go.Proofs.Ytlapbhgkmmeeoaa.PSpareRoom
open Go.RowKit Go.Proofs.YtlapbhgkmmeeoaaW.PrintWords Go.Proofs.YtlapbhgkmmeeoaaW.PrintLast Go.Proofs.YtlapbhgkmmeeoaaW.PrintMore
attribute [local go_sem] max2_int min2_int max_two min_two max_three min_three max_four min_four   -- for this text's walks alone
set_option linter.unusedVariables false
set_option linter.unusedSimpArgs false

/-! ### cache_at: function 51, by hand -/
def beqF (a b : S48) : Bool := a.f0 == b.f0 && (a.f1 == b.f1 && (a.f2 == b.f2 && (a.f3 == b.f3 && a.f4 == b.f4)))
theorem beqF_iff (a b : S48) : beqF a b = true ↔ a = b := by
  obtain ⟨a0, a1, a2, a3, a4⟩ := a
  obtain ⟨b0, b1, b2, b3, b4⟩ := b
  unfold beqF
  simp
def idxFrom (f : S48) : List S50 → Nat → Int
  | [], _ => -1
  | x :: r, i => if beqF x.f0 f = true then (i : Int) else idxFrom f r (i + 1)
def entV (x : S50) : Value := .agg #[.int .i64 x.f0.f0, .int .i64 x.f0.f1, .int .i64 x.f0.f2, .int .i64 x.f0.f3, .int .i64 x.f0.f4, .int .i64 x.f1, .bool x.f2, .int .i64 x.f3, .int .i64 x.f4]
def cache_at.f (l0 : List S50) (a1_0 a1_1 a1_2 a1_3 a1_4 : Int) : Option Int := some (idxFrom ⟨a1_0, a1_1, a1_2, a1_3, a1_4⟩ l0 0)
theorem cache_at.eqf (d : Nat) (w : World) (x0 y0 : Int) (x1 y1 : Int) (x2 y2 : Int) (x3 y3 : Int) (x4 y4 : Int) :
    (Op.equalIn (d + 2) 48 (.agg #[.int .i64 x0, .int .i64 x1, .int .i64 x2, .int .i64 x3, .int .i64 x4]) (.agg #[.int .i64 y0, .int .i64 y1, .int .i64 y2, .int .i64 y3, .int .i64 y4])).run Try.prog w = .ok (x0 == y0 && (x1 == y1 && (x2 == y2 && (x3 == y3 && (x4 == y4))))) w := by
  refine eqA_of Try.underlying48 (by kernel_rfl) ?_
  refine eqf_cons (by rfl) (by go_simp; rfl) (by go_simp; rfl) (by go_simp) ?_
  refine eqf_cons (by rfl) (by go_simp; rfl) (by go_simp; rfl) (by go_simp) ?_
  refine eqf_cons (by rfl) (by go_simp; rfl) (by go_simp; rfl) (by go_simp) ?_
  refine eqf_cons (by rfl) (by go_simp; rfl) (by go_simp; rfl) (by go_simp) ?_
  exact eqf_last (by rfl) (by go_simp; rfl) (by go_simp; rfl) (by go_simp)
structure FlowAt (w : World) (b : Nat) (f : S48) : Prop where
  c0 : w.cell? ⟨b, 0, none⟩ = some (.int .i64 f.f0)
  c1 : w.cell? ⟨b, 1, none⟩ = some (.int .i64 f.f1)
  c2 : w.cell? ⟨b, 2, none⟩ = some (.int .i64 f.f2)
  c3 : w.cell? ⟨b, 3, none⟩ = some (.int .i64 f.f3)
  c4 : w.cell? ⟨b, 4, none⟩ = some (.int .i64 f.f4)
theorem FlowAt.below {w w1 : World} {b : Nat} {f : S48} (h : FlowAt w b f) (hb : Below w.heap.size w w1) : FlowAt w1 b f := ⟨pw_cell_below hb h.c0, pw_cell_below hb h.c1, pw_cell_below hb h.c2, pw_cell_below hb h.c3, pw_cell_below hb h.c4⟩
set_option maxHeartbeats 4000000 in
set_option maxRecDepth 100000 in
theorem cache_at.is (x : S50) (b : Nat) (f : S48) (w : World) (hf : FlowAt w b f) :
    Calls Try.prog 61 #[.agg #[.int .i64 x.f0.f0, .int .i64 x.f0.f1, .int .i64 x.f0.f2, .int .i64 x.f0.f3, .int .i64 x.f0.f4, .int .i64 x.f1, .bool x.f2, .int .i64 x.f3, .int .i64 x.f4], .pointer (some ⟨b, 0, none⟩)] w fun e w' => e = .returned (.bool (beqF x.f0 f)) ∧ Below w.heap.size w w' := by
  have hq := cache_at.eqf
  have hu := Try.underlying50
  have hu2 := Try.underlying48
  have hb : Below w.heap.size w (w.alloc (Obj.cells #[.int .i64 x.f0.f0, .int .i64 x.f0.f1, .int .i64 x.f0.f2, .int .i64 x.f0.f3, .int .i64 x.f0.f4, .int .i64 x.f1, .bool x.f2, .int .i64 x.f3, .int .i64 x.f4] 50)) := below_alloc (Below.refl _ _) _
  have hf2 := hf.below hb
  have f0 := hf2.c0
  have f1 := hf2.c1
  have f2 := hf2.c2
  have f3 := hf2.c3
  have f4 := hf2.c4
  have HB := Aside0.mk hb
  clear hb hf hf2
  go_enter Try.func61, Try.ntmps61
  go_wp2_with fail
  go_ret
  exact ⟨rfl, HB.out⟩
theorem idxFrom_step (f : S48) (l : List S50) (x : Int) (h0 : 0 ≤ x) (h1 : x < (l.length : Int)) : idxFrom f (l.drop x.toNat) x.toNat = if beqF (rd_T50 l x).f0 f = true then x else idxFrom f (l.drop (x.toNat + 1)) (x.toNat + 1) := by
  have hl : x.toNat < l.length := by omega
  rw [List.drop_eq_getElem_cons hl]
  have hr : rd_T50 l x = l[x.toNat] := by
    unfold rd_T50
    simp [List.getD, List.getElem?_eq_getElem hl]
  rw [hr, idxFrom, Int.toNat_of_nonneg h0]
set_option maxHeartbeats 8000000 in
set_option maxRecDepth 100000 in
theorem cache_at.idx (A0 : Option Addr) (c0 : Nat) (l0 : List S50) (b : Nat) (f : S48) (w : World) (hr0 : Kd.C k50 w A0 l0.length l0) (hc0 : l0.length ≤ c0) (hf : FlowAt w b f) :
    Calls Try.prog 60 #[.slice A0 l0.length c0, .func (.func 61) #[] #[.pointer (some ⟨b, 0, none⟩)]] w fun e w' => e = .returned (.int .i64 (idxFrom f l0 0)) ∧ Below w.heap.size w w' := by
  have hu := Try.underlying50
  have HR0 := Aside0.mk hr0
  have HF := Aside0.mk hf
  have HLE := Aside0.mk hr0.2.1
  clear hr0 hc0 hf
  go_enter Try.func60, Try.ntmps60
  go_wp2_with fail
  go_loopg [8] (l0.length + 1) (fun kq v8 w' => ∃ (x : Int), v8 = .int .i64 x ∧ Aside0 (0 ≤ x ∧ x ≤ (l0.length : Int) ∧ (kq : Int) + x = l0.length + 1) ∧ Aside0 (idxFrom f (l0.drop x.toNat) x.toNat = idxFrom f l0 0) ∧ Aside0 (Below w.heap.size w w'))
  case atStart => exact ⟨0, rfl, ⟨by omega⟩, ⟨rfl⟩, ⟨Below.refl _ _⟩⟩
  case round =>
    obtain ⟨x, rfl, HX, HI, HB⟩ := hrel
    cases gk with
    | zero => have := HX.out; omega
    | succ k1 =>
      by_cases c3 : x < (l0.length : Int)
      · have c3b := decide_eq_true c3
        have p1 : 0 ≤ x := HX.out.1
        have p1b := decide_eq_true p1
        obtain ⟨ad, ea, hx0, hx1, hx2, hx3, hx4, hx5, hx6, hx7, hx8⟩ := at_T50 HR0.out x p1 c3
        cases ea
        replace hx0 := (HB.out.cell (World.block_lt_of_cell? w _ hx0)).trans hx0
        replace hx1 := (HB.out.cell (World.block_lt_of_cell? w _ hx1)).trans hx1
        replace hx2 := (HB.out.cell (World.block_lt_of_cell? w _ hx2)).trans hx2
        replace hx3 := (HB.out.cell (World.block_lt_of_cell? w _ hx3)).trans hx3
        replace hx4 := (HB.out.cell (World.block_lt_of_cell? w _ hx4)).trans hx4
        replace hx5 := (HB.out.cell (World.block_lt_of_cell? w _ hx5)).trans hx5
        replace hx6 := (HB.out.cell (World.block_lt_of_cell? w _ hx6)).trans hx6
        replace hx7 := (HB.out.cell (World.block_lt_of_cell? w _ hx7)).trans hx7
        replace hx8 := (HB.out.cell (World.block_lt_of_cell? w _ hx8)).trans hx8
        have HS := Aside0.mk (idxFrom_step f l0 x p1 c3)
        have HC3 := Aside0.mk c3
        have HF2 := Aside0.mk (HF.out.below HB.out)
        have p1' := eq_true p1
        have c3' := eq_true c3
        obtain ⟨bq, hbq⟩ : ∃ b_ : Bool, Aside0 (beqF (rd_T50 l0 x).f0 f = b_) := ⟨_, ⟨rfl⟩⟩
        cases bq
        · go_wp2_with (go_at_call 61; refine (cache_at.is (rd_T50 l0 x) b f _ HF2.out).mono ?_; rintro e w2 ⟨he, hb⟩; rw [hbq.out] at he; subst he; replace HB := Aside0.mk (below_step HB.out hb); clear hb)
          go_roundg k1
          case measure => have := HX.out; omega
          case rel =>
            have h1 := HX.out
            have hw : wrap64 (x + 1) = x + 1 := by have := HLE.out; have := HC3.out; unfold wrap64; omega
            refine ⟨wrap64 (x + 1), rfl, ⟨by rw [hw]; have := HC3.out; omega⟩, ⟨?_⟩, HB⟩
            rw [hw, ← HI.out, HS.out, hbq.out, if_neg (by simp), show (x + 1).toNat = x.toNat + 1 by omega]
        · go_wp2_with (go_at_call 61; refine (cache_at.is (rd_T50 l0 x) b f _ HF2.out).mono ?_; rintro e w2 ⟨he, hb⟩; rw [hbq.out] at he; subst he; replace HB := Aside0.mk (below_step HB.out hb); clear hb)
          go_ret
          exact ⟨by rw [← HI.out, HS.out, hbq.out, if_pos rfl]; rfl, HB.out⟩
      · have c3b := decide_eq_false c3
        have HE : x = (l0.length : Int) := by have := HX.out; omega
        go_wp2_with fail
        go_ret
        refine ⟨?_, HB.out⟩
        rw [← HI.out, HE, Int.toNat_natCast, List.drop_length]
        rfl
set_option maxHeartbeats 8000000 in
set_option maxRecDepth 100000 in
theorem cache_at.calls (A0 : Option Addr) (c0 : Nat) (l0 : List S50) (a1_0 a1_1 a1_2 a1_3 a1_4 : Int) (r : Int) (w : World) (hr0 : Kd.C k50 w A0 l0.length l0) (hc0 : l0.length ≤ c0) (h : cache_at.f l0 a1_0 a1_1 a1_2 a1_3 a1_4 = some r) :
    Calls Try.prog 51 #[.slice A0 l0.length c0, .agg #[.int .i64 a1_0, .int .i64 a1_1, .int .i64 a1_2, .int .i64 a1_3, .int .i64 a1_4]] w fun e w' => e = .returned (.int .i64 r) ∧ Below w.heap.size w w' := by
  obtain rfl := Option.some.inj h
  clear h
  have hb : Below w.heap.size w (w.alloc (Obj.cells #[.int .i64 a1_0, .int .i64 a1_1, .int .i64 a1_2, .int .i64 a1_3, .int .i64 a1_4] 48)) := below_alloc (Below.refl _ _) _
  have HF := Aside0.mk (show FlowAt (w.alloc (Obj.cells #[.int .i64 a1_0, .int .i64 a1_1, .int .i64 a1_2, .int .i64 a1_3, .int .i64 a1_4] 48)) w.heap.size ⟨a1_0, a1_1, a1_2, a1_3, a1_4⟩ from ⟨by simp, by simp, by simp, by simp, by simp⟩)
  have HR := Aside0.mk (Kd.C_below hr0 hb)
  have HB := Aside0.mk hb
  clear hb hr0
  go_enter Try.func51, Try.ntmps51
  go_wp2_with (go_at_call 60; refine (cache_at.idx _ _ l0 w.heap.size ⟨a1_0, a1_1, a1_2, a1_3, a1_4⟩ _ HR.out hc0 HF.out).mono ?_; rintro e w2 ⟨rfl, hb⟩; replace HB := Aside0.mk (below_step HB.out hb); clear hb)
  go_ret
  exact ⟨rfl, HB.out⟩


end Go.Proofs.Ytlapbhgkmmeeoaa.PSpareRoom
