/- Contracts: what calls of these functions of the program do, each as a plain function; written by a program of this session. -/
import Derived.Test.YtiidegomccifaaaPCachesx0
import Derived.Test.YtiidegomccifaaaPCachesx6
import Derived.Test.YtiidegomccifaaaPCachesx7
namespace Go.Proofs.Ytiidegomccifaaa.PCaches
open Go.RowKit Go.Proofs.YtiidegomccifaaaW.PrintWords Go.Proofs.YtiidegomccifaaaW.PrintLast Go.Proofs.YtiidegomccifaaaW.PrintMore
attribute [local go_sem] max2_int min2_int max_two min_two max_three min_three max_four min_four   -- for this text's walks alone
set_option linter.unusedVariables false
set_option linter.unusedSimpArgs false

/-! ### cache_Drop: function 10, by hand -/
def cache_Drop.f (k : Nat) (l0 : List S26) (a1_0 a1_1 a1_2 a1_3 a1_4 : Int) : Option (List S26 × Int) := (cache_May.f k l0).bind fun m => if m = true then some (l0.filter (fun p => !beqF p.f0 ⟨a1_0, a1_1, a1_2, a1_3, a1_4⟩), 0) else some ([], 1600)
theorem cache_Drop.mono : ∀ l0 a b c d e k, LeO (cache_Drop.f k l0 a b c d e) (cache_Drop.f (k + 1) l0 a b c d e) := by
  intro l0 a b c d e k
  unfold cache_Drop.f
  exact LeO.bind (cache_May.mono _ _) (fun _ => LeO.refl _)
theorem cache_Drop.maylen : ∀ (k : Nat) (x0 x5 : List S26) (x6 x7 : Int), cache_May.l0 k x0 x5 x6 x7 = some true → x0.length ≤ 8
  | 0, _, _, _, _, h => by simp [cache_May.l0] at h
  | k + 1, x0, x5, x6, x7, h => by
    simp only [cache_May.l0] at h
    split at h
    · split at h
      · split at h
        · obtain ⟨t, _, h⟩ := Option.bind_eq_some_iff.mp h
          split at h
          · obtain ⟨t2, _, h⟩ := Option.bind_eq_some_iff.mp h
            split at h
            · exact cache_Drop.maylen k _ _ _ _ h
            · cases h
          · cases h
        · cases h
      · cases h
    · have := Option.some.inj h
      have := of_decide_eq_true this
      omega
theorem cache_Drop.info : (Try.prog.info? 26).map (fun i => (i.zero, i.size, i.bytes)) = some (some (.agg #[(.int .i64 0), (.int .i64 0), (.int .i64 0), (.int .i64 0), (.int .i64 0), (.int .i64 0), (.bool false), (.int .i64 0), (.int .i64 0)]), 9, 72) := by kernel_rfl
theorem cache_Drop.tk (l : List S26) (x : Int) (h0 : 0 ≤ x) (h1 : x < (l.length : Int)) : l.take (x.toNat + 1) = l.take x.toNat ++ [rd_T26 l x] := by
  have hl : x.toNat < l.length := by omega
  rw [List.take_add_one, List.getElem?_eq_getElem hl]
  unfold rd_T26
  simp [List.getD, List.getElem?_eq_getElem hl]
set_option maxHeartbeats 8000000 in
set_option maxRecDepth 100000 in
theorem cache_Drop.split (P : S26 → Bool) (A0 : Option Addr) (c0 : Nat) (l0 : List S26) (b : Nat) (w : World) (hr0 : Kd.C k26 w A0 l0.length l0) (hc0 : l0.length ≤ c0) (hlen : l0.length < 1000) (hcl : ∀ (p : S26) (w1 : World), Below w.heap.size w w1 → Calls Try.prog 31 #[.agg #[.int .i64 p.f0.f0, .int .i64 p.f0.f1, .int .i64 p.f0.f2, .int .i64 p.f0.f3, .int .i64 p.f0.f4, .int .i64 p.f1, .bool p.f2, .int .i64 p.f3, .int .i64 p.f4], .pointer (some ⟨b, 0, none⟩)] w1 fun e w2 => e = .returned (.bool (P p)) ∧ Below w1.heap.size w1 w2) :
    Calls Try.prog 24 #[.slice A0 l0.length c0, .func (.func 31) #[] #[.pointer (some ⟨b, 0, none⟩)]] w fun e w' => ∃ v0_ v1_ : Value, e = .returned (.tuple #[v0_, v1_]) ∧ Kd.R k26 26 w' w.heap.size (fun k_ => some k_ ≠ (v1_ : Value).ownBlock) v0_ (l0.filter P) ∧ Kd.R k26 26 w' w.heap.size (fun k_ => some k_ ≠ (v0_ : Value).ownBlock) v1_ (l0.filter (fun p => !P p)) ∧ Below w.heap.size w w' := by
  have hu := Try.underlying26
  have HR0 := Aside0.mk hr0
  have HCL := Aside0.mk hcl
  have HLE := Aside0.mk hlen
  clear hr0 hc0 hlen hcl
  go_enter Try.func24, Try.ntmps24
  go_wp2_with fail
  go_loopg [4, 5, 10] (l0.length + 1) (fun kq v4 v5 v10 w' => ∃ (xs ys : List S26) (x : Int), v10 = .int .i64 x ∧ Aside0 (0 ≤ x ∧ x ≤ (l0.length : Int) ∧ (kq : Int) + x = l0.length + 1) ∧ Aside0 (xs = (l0.take x.toNat).filter P ∧ ys = (l0.take x.toNat).filter (fun p => !P p)) ∧ Aside0 (Kd.R k26 26 w' w.heap.size (fun k_ => some k_ ≠ (v5 : Value).ownBlock) v4 xs) ∧ Aside0 (Kd.R k26 26 w' w.heap.size (fun k_ => some k_ ≠ (v4 : Value).ownBlock) v5 ys) ∧ Aside0 (Below w.heap.size w w'))
  case atStart => exact ⟨[], [], 0, rfl, ⟨by omega⟩, ⟨rfl, rfl⟩, ⟨Kd.R_nil _ _ _ _ _⟩, ⟨Kd.R_nil _ _ _ _ _⟩, ⟨Below.refl _ _⟩⟩
  case round =>
    obtain ⟨xs, ys, x, rfl, HX, HI, HO4, HO5, HB⟩ := hrel
    cases gk with
    | zero => have := HX.out; omega
    | succ k1 =>
      by_cases c3 : x < (l0.length : Int)
      · have c3b := decide_eq_true c3
        have p1 : 0 ≤ x := HX.out.1
        have p1b := decide_eq_true p1
        obtain ⟨ad, ea, hx0, hx1, hx2, hx3, hx4, hx5, hx6, hx7, hx8⟩ := at_T26 HR0.out x p1 c3
        cases ea
        replace hx0 := (HB.out.cell (World.block_lt_of_cell? w _ hx0)).trans hx0
        replace hx1 := (HB.out.cell (World.block_lt_of_cell? w _ hx1)).trans hx1
        replace hx2 := (HB.out.cell (World.block_lt_of_cell? w _ hx2)).trans hx2
        replace hx3 := (HB.out.cell (World.block_lt_of_cell? w _ hx3)).trans hx3
        replace hx4 := (HB.out.cell (World.block_lt_of_cell? w _ hx4)).trans hx4
        replace hx5 := (HB.out.cell (World.block_lt_of_cell? w _ hx5)).trans hx5
        replace hx6 := (HB.out.cell (World.block_lt_of_cell? w _ hx6)).trans hx6
        replace hx7 := (HB.out.cell (World.block_lt_of_cell? w _ hx7)).trans hx7
        replace hx8 := (HB.out.cell (World.block_lt_of_cell? w _ hx8)).trans hx8
        have HS := Aside0.mk (cache_Drop.tk l0 x p1 c3)
        have HC3 := Aside0.mk c3
        have p1' := eq_true p1
        have c3' := eq_true c3
        have HQ : xs.length < 1000 ∧ ys.length < 1000 := by
          have h1 := HI.out
          have h2 := HLE.out
          have h3 := List.length_filter_le P (l0.take x.toNat)
          have h4 := List.length_filter_le (fun p => !P p) (l0.take x.toNat)
          have h5 := List.length_take_le' x.toNat l0
          rw [h1.1, h1.2]
          omega
        obtain ⟨p, hp⟩ : ∃ p_, p_ = rd_T26 l0 x := ⟨_, rfl⟩
        rw [← hp] at hx0 hx1 hx2 hx3 hx4 hx5 hx6 hx7 hx8 HS
        clear hp
        obtain ⟨bq, HP⟩ : ∃ b_ : Bool, Aside0 (P p = b_) := ⟨_, ⟨rfl⟩⟩
        cases bq
        · have HL := Aside0.mk (show ys.length < 1000 from HQ.2)
          clear HQ
          go_wp2_with (first | ((with_reducible refine gate_dst (N := 7) rfl ?_); refine box_event ?hg (N := 7) ?hd (cs := #[.int .i64 0, .int .i64 0, .int .i64 0, .int .i64 0, .int .i64 0, .int .i64 0, .bool false, .int .i64 0, .int .i64 0]) (t := 26) ?hr ?_; (case hd => rfl); (case hg => rfl); (case hr => first | (go_simp; done) | (go_simp; rfl)); intro gb hg wb hbox hb; have HBW := Aside0.mk hb; have GE := Aside0.mk (Nat.le_of_eq hg.symm : wr.heap.size ≤ gb); have BK := Aside0.mk hbox; clear hb hbox hg; have hcz0 : wb.cell? ⟨gb, 0, none⟩ = some (.int .i64 0) := (blk_cell BK.out 0).trans rfl; have hfz0 := blk_frozen BK.out 0; have hcz1 : wb.cell? ⟨gb, 1, none⟩ = some (.int .i64 0) := (blk_cell BK.out 1).trans rfl; have hfz1 := blk_frozen BK.out 1; have hcz2 : wb.cell? ⟨gb, 2, none⟩ = some (.int .i64 0) := (blk_cell BK.out 2).trans rfl; have hfz2 := blk_frozen BK.out 2; have hcz3 : wb.cell? ⟨gb, 3, none⟩ = some (.int .i64 0) := (blk_cell BK.out 3).trans rfl; have hfz3 := blk_frozen BK.out 3; have hcz4 : wb.cell? ⟨gb, 4, none⟩ = some (.int .i64 0) := (blk_cell BK.out 4).trans rfl; have hfz4 := blk_frozen BK.out 4; have hcz5 : wb.cell? ⟨gb, 5, none⟩ = some (.int .i64 0) := (blk_cell BK.out 5).trans rfl; have hfz5 := blk_frozen BK.out 5; have hcz6 : wb.cell? ⟨gb, 6, none⟩ = some (.bool false) := (blk_cell BK.out 6).trans rfl; have hfz6 := blk_frozen BK.out 6; have hcz7 : wb.cell? ⟨gb, 7, none⟩ = some (.int .i64 0) := (blk_cell BK.out 7).trans rfl; have hfz7 := blk_frozen BK.out 7; have hcz8 : wb.cell? ⟨gb, 8, none⟩ = some (.int .i64 0) := (blk_cell BK.out 8).trans rfl; have hfz8 := blk_frozen BK.out 8) | (go_at_call 31; refine (HCL.out p _ (below_step HB.out (by with_reducible repeat (first | exact HBW.out | refine below_set ?_ GE.out)))).mono ?_; rintro e w2 ⟨he, hb⟩; rw [HP.out] at he; subst he; have BK2 := Aside0.mk (blk_below (g := gb) (o := .cells #[.int .i64 p.f0.f0, .int .i64 p.f0.f1, .int .i64 p.f0.f2, .int .i64 p.f0.f3, .int .i64 p.f0.f4, .int .i64 p.f1, .bool p.f2, .int .i64 p.f3, .int .i64 p.f4] 26 (0, 0)) (by refine blk_put (cs := #[.int .i64 p.f0.f0, .int .i64 p.f0.f1, .int .i64 p.f0.f2, .int .i64 p.f0.f3, .int .i64 p.f0.f4, .int .i64 p.f1, .bool p.f2, .int .i64 p.f3, .int .i64 0]) ?_ 8 _ rfl; refine blk_put (cs := #[.int .i64 p.f0.f0, .int .i64 p.f0.f1, .int .i64 p.f0.f2, .int .i64 p.f0.f3, .int .i64 p.f0.f4, .int .i64 p.f1, .bool p.f2, .int .i64 0, .int .i64 0]) ?_ 7 _ rfl; refine blk_put (cs := #[.int .i64 p.f0.f0, .int .i64 p.f0.f1, .int .i64 p.f0.f2, .int .i64 p.f0.f3, .int .i64 p.f0.f4, .int .i64 p.f1, .bool false, .int .i64 0, .int .i64 0]) ?_ 6 _ rfl; refine blk_put (cs := #[.int .i64 p.f0.f0, .int .i64 p.f0.f1, .int .i64 p.f0.f2, .int .i64 p.f0.f3, .int .i64 p.f0.f4, .int .i64 0, .bool false, .int .i64 0, .int .i64 0]) ?_ 5 _ rfl; refine blk_put (cs := #[.int .i64 p.f0.f0, .int .i64 p.f0.f1, .int .i64 p.f0.f2, .int .i64 p.f0.f3, .int .i64 0, .int .i64 0, .bool false, .int .i64 0, .int .i64 0]) ?_ 4 _ rfl; refine blk_put (cs := #[.int .i64 p.f0.f0, .int .i64 p.f0.f1, .int .i64 p.f0.f2, .int .i64 0, .int .i64 0, .int .i64 0, .bool false, .int .i64 0, .int .i64 0]) ?_ 3 _ rfl; refine blk_put (cs := #[.int .i64 p.f0.f0, .int .i64 p.f0.f1, .int .i64 0, .int .i64 0, .int .i64 0, .int .i64 0, .bool false, .int .i64 0, .int .i64 0]) ?_ 2 _ rfl; refine blk_put (cs := #[.int .i64 p.f0.f0, .int .i64 0, .int .i64 0, .int .i64 0, .int .i64 0, .int .i64 0, .bool false, .int .i64 0, .int .i64 0]) ?_ 1 _ rfl; refine blk_put (cs := #[.int .i64 0, .int .i64 0, .int .i64 0, .int .i64 0, .int .i64 0, .int .i64 0, .bool false, .int .i64 0, .int .i64 0]) ?_ 0 _ rfl; exact BK.out) hb); have HB2 := Aside0.mk (show Below wr.heap.size wr w2 from below_step (by with_reducible repeat (first | exact HBW.out | refine below_set ?_ GE.out)) hb); clear BK HBW; replace HB := Aside0.mk (below_step HB.out HB2.out); replace HO4 := Aside0.mk (Kd.R_below HO4.out HB2.out); replace HO5 := Aside0.mk (Kd.R_below HO5.out HB2.out); clear hb HB2; have hcy0 : w2.cell? ⟨gb, 0, none⟩ = some (.int .i64 p.f0.f0) := (blk_cell BK2.out 0).trans rfl; have hcy1 : w2.cell? ⟨gb, 1, none⟩ = some (.int .i64 p.f0.f1) := (blk_cell BK2.out 1).trans rfl; have hcy2 : w2.cell? ⟨gb, 2, none⟩ = some (.int .i64 p.f0.f2) := (blk_cell BK2.out 2).trans rfl; have hcy3 : w2.cell? ⟨gb, 3, none⟩ = some (.int .i64 p.f0.f3) := (blk_cell BK2.out 3).trans rfl; have hcy4 : w2.cell? ⟨gb, 4, none⟩ = some (.int .i64 p.f0.f4) := (blk_cell BK2.out 4).trans rfl; have hcy5 : w2.cell? ⟨gb, 5, none⟩ = some (.int .i64 p.f1) := (blk_cell BK2.out 5).trans rfl; have hcy6 : w2.cell? ⟨gb, 6, none⟩ = some (.bool p.f2) := (blk_cell BK2.out 6).trans rfl; have hcy7 : w2.cell? ⟨gb, 7, none⟩ = some (.int .i64 p.f3) := (blk_cell BK2.out 7).trans rfl; have hcy8 : w2.cell? ⟨gb, 8, none⟩ = some (.int .i64 p.f4) := (blk_cell BK2.out 8).trans rfl) | ((with_reducible refine gate_builtin (b := .append) (xs := #[.tmp 21, .tmp 23]) rfl ?_); at_builtin; refine Kd.R_append k26 (w0 := w) w.heap.size rfl (.tmp 21) (.tmp 23) 22 26 (.agg #[(.int .i64 0), (.int .i64 0), (.int .i64 0), (.int .i64 0), (.int .i64 0), (.int .i64 0), (.bool false), (.int .i64 0), (.int .i64 0)]) 72 rfl Try.underlying22 cache_Drop.info rfl (by decide) (by omega) u5 ys p [.int .i64 p.f0.f0, .int .i64 p.f0.f1, .int .i64 p.f0.f2, .int .i64 p.f0.f3, .int .i64 p.f0.f4, .int .i64 p.f1, .bool p.f2, .int .i64 p.f3, .int .i64 p.f4] (fun k_ => some k_ ≠ (u4 : Value).ownBlock) (fun _ => False) rfl rfl ?aP (fun _ hk => hk.elim) ?aF ?aO ?aB ?aS ?aL ?_; (case aP => exact k26_mkM _ _ _ p); (case aB => exact HB.out); (case aF => exact (fun k_ hk => Kd.fresh' (Kd.R_lt HO4.out) k_ hk)); (case aO => exact HO5.out); (case aS => exact below_size HB.out); (case aL => have := HL.out; omega); intro vN wN ho hb hg hat; replace HB := Aside0.mk hb; have HN := Aside0.mk ho; replace HO4 := Aside0.mk (Kd.R_after (ok := (fun _ => True)) (Kd.R_mono HO4.out (fun _ hk => ⟨trivial, hk⟩)) hg hat); clear ho hb hg hat))
          go_roundg k1
          case measure => have := HX.out; omega
          case rel =>
            have h1 := HX.out
            have hw : wrap64 (x + 1) = x + 1 := by have := HLE.out; have := HC3.out; unfold wrap64; omega
            refine ⟨xs, (ys ++ [p]), wrap64 (x + 1), rfl, ⟨by rw [hw]; have := HC3.out; omega⟩, ⟨?_⟩, ⟨Kd.R_mono HO4.out (fun _ hk => hk.2)⟩, ⟨HN.out⟩, HB⟩
            rw [hw, show (x + 1).toNat = x.toNat + 1 by omega, HS.out, List.filter_append, List.filter_append, ← HI.out.1, ← HI.out.2]
            constructor <;> simp [HP.out]
        · have HL := Aside0.mk (show xs.length < 1000 from HQ.1)
          clear HQ
          go_wp2_with (first | ((with_reducible refine gate_dst (N := 7) rfl ?_); refine box_event ?hg (N := 7) ?hd (cs := #[.int .i64 0, .int .i64 0, .int .i64 0, .int .i64 0, .int .i64 0, .int .i64 0, .bool false, .int .i64 0, .int .i64 0]) (t := 26) ?hr ?_; (case hd => rfl); (case hg => rfl); (case hr => first | (go_simp; done) | (go_simp; rfl)); intro gb hg wb hbox hb; have HBW := Aside0.mk hb; have GE := Aside0.mk (Nat.le_of_eq hg.symm : wr.heap.size ≤ gb); have BK := Aside0.mk hbox; clear hb hbox hg; have hcz0 : wb.cell? ⟨gb, 0, none⟩ = some (.int .i64 0) := (blk_cell BK.out 0).trans rfl; have hfz0 := blk_frozen BK.out 0; have hcz1 : wb.cell? ⟨gb, 1, none⟩ = some (.int .i64 0) := (blk_cell BK.out 1).trans rfl; have hfz1 := blk_frozen BK.out 1; have hcz2 : wb.cell? ⟨gb, 2, none⟩ = some (.int .i64 0) := (blk_cell BK.out 2).trans rfl; have hfz2 := blk_frozen BK.out 2; have hcz3 : wb.cell? ⟨gb, 3, none⟩ = some (.int .i64 0) := (blk_cell BK.out 3).trans rfl; have hfz3 := blk_frozen BK.out 3; have hcz4 : wb.cell? ⟨gb, 4, none⟩ = some (.int .i64 0) := (blk_cell BK.out 4).trans rfl; have hfz4 := blk_frozen BK.out 4; have hcz5 : wb.cell? ⟨gb, 5, none⟩ = some (.int .i64 0) := (blk_cell BK.out 5).trans rfl; have hfz5 := blk_frozen BK.out 5; have hcz6 : wb.cell? ⟨gb, 6, none⟩ = some (.bool false) := (blk_cell BK.out 6).trans rfl; have hfz6 := blk_frozen BK.out 6; have hcz7 : wb.cell? ⟨gb, 7, none⟩ = some (.int .i64 0) := (blk_cell BK.out 7).trans rfl; have hfz7 := blk_frozen BK.out 7; have hcz8 : wb.cell? ⟨gb, 8, none⟩ = some (.int .i64 0) := (blk_cell BK.out 8).trans rfl; have hfz8 := blk_frozen BK.out 8) | (go_at_call 31; refine (HCL.out p _ (below_step HB.out (by with_reducible repeat (first | exact HBW.out | refine below_set ?_ GE.out)))).mono ?_; rintro e w2 ⟨he, hb⟩; rw [HP.out] at he; subst he; have BK2 := Aside0.mk (blk_below (g := gb) (o := .cells #[.int .i64 p.f0.f0, .int .i64 p.f0.f1, .int .i64 p.f0.f2, .int .i64 p.f0.f3, .int .i64 p.f0.f4, .int .i64 p.f1, .bool p.f2, .int .i64 p.f3, .int .i64 p.f4] 26 (0, 0)) (by refine blk_put (cs := #[.int .i64 p.f0.f0, .int .i64 p.f0.f1, .int .i64 p.f0.f2, .int .i64 p.f0.f3, .int .i64 p.f0.f4, .int .i64 p.f1, .bool p.f2, .int .i64 p.f3, .int .i64 0]) ?_ 8 _ rfl; refine blk_put (cs := #[.int .i64 p.f0.f0, .int .i64 p.f0.f1, .int .i64 p.f0.f2, .int .i64 p.f0.f3, .int .i64 p.f0.f4, .int .i64 p.f1, .bool p.f2, .int .i64 0, .int .i64 0]) ?_ 7 _ rfl; refine blk_put (cs := #[.int .i64 p.f0.f0, .int .i64 p.f0.f1, .int .i64 p.f0.f2, .int .i64 p.f0.f3, .int .i64 p.f0.f4, .int .i64 p.f1, .bool false, .int .i64 0, .int .i64 0]) ?_ 6 _ rfl; refine blk_put (cs := #[.int .i64 p.f0.f0, .int .i64 p.f0.f1, .int .i64 p.f0.f2, .int .i64 p.f0.f3, .int .i64 p.f0.f4, .int .i64 0, .bool false, .int .i64 0, .int .i64 0]) ?_ 5 _ rfl; refine blk_put (cs := #[.int .i64 p.f0.f0, .int .i64 p.f0.f1, .int .i64 p.f0.f2, .int .i64 p.f0.f3, .int .i64 0, .int .i64 0, .bool false, .int .i64 0, .int .i64 0]) ?_ 4 _ rfl; refine blk_put (cs := #[.int .i64 p.f0.f0, .int .i64 p.f0.f1, .int .i64 p.f0.f2, .int .i64 0, .int .i64 0, .int .i64 0, .bool false, .int .i64 0, .int .i64 0]) ?_ 3 _ rfl; refine blk_put (cs := #[.int .i64 p.f0.f0, .int .i64 p.f0.f1, .int .i64 0, .int .i64 0, .int .i64 0, .int .i64 0, .bool false, .int .i64 0, .int .i64 0]) ?_ 2 _ rfl; refine blk_put (cs := #[.int .i64 p.f0.f0, .int .i64 0, .int .i64 0, .int .i64 0, .int .i64 0, .int .i64 0, .bool false, .int .i64 0, .int .i64 0]) ?_ 1 _ rfl; refine blk_put (cs := #[.int .i64 0, .int .i64 0, .int .i64 0, .int .i64 0, .int .i64 0, .int .i64 0, .bool false, .int .i64 0, .int .i64 0]) ?_ 0 _ rfl; exact BK.out) hb); have HB2 := Aside0.mk (show Below wr.heap.size wr w2 from below_step (by with_reducible repeat (first | exact HBW.out | refine below_set ?_ GE.out)) hb); clear BK HBW; replace HB := Aside0.mk (below_step HB.out HB2.out); replace HO4 := Aside0.mk (Kd.R_below HO4.out HB2.out); replace HO5 := Aside0.mk (Kd.R_below HO5.out HB2.out); clear hb HB2; have hcy0 : w2.cell? ⟨gb, 0, none⟩ = some (.int .i64 p.f0.f0) := (blk_cell BK2.out 0).trans rfl; have hcy1 : w2.cell? ⟨gb, 1, none⟩ = some (.int .i64 p.f0.f1) := (blk_cell BK2.out 1).trans rfl; have hcy2 : w2.cell? ⟨gb, 2, none⟩ = some (.int .i64 p.f0.f2) := (blk_cell BK2.out 2).trans rfl; have hcy3 : w2.cell? ⟨gb, 3, none⟩ = some (.int .i64 p.f0.f3) := (blk_cell BK2.out 3).trans rfl; have hcy4 : w2.cell? ⟨gb, 4, none⟩ = some (.int .i64 p.f0.f4) := (blk_cell BK2.out 4).trans rfl; have hcy5 : w2.cell? ⟨gb, 5, none⟩ = some (.int .i64 p.f1) := (blk_cell BK2.out 5).trans rfl; have hcy6 : w2.cell? ⟨gb, 6, none⟩ = some (.bool p.f2) := (blk_cell BK2.out 6).trans rfl; have hcy7 : w2.cell? ⟨gb, 7, none⟩ = some (.int .i64 p.f3) := (blk_cell BK2.out 7).trans rfl; have hcy8 : w2.cell? ⟨gb, 8, none⟩ = some (.int .i64 p.f4) := (blk_cell BK2.out 8).trans rfl) | ((with_reducible refine gate_builtin (b := .append) (xs := #[.tmp 17, .tmp 19]) rfl ?_); at_builtin; refine Kd.R_append k26 (w0 := w) w.heap.size rfl (.tmp 17) (.tmp 19) 22 26 (.agg #[(.int .i64 0), (.int .i64 0), (.int .i64 0), (.int .i64 0), (.int .i64 0), (.int .i64 0), (.bool false), (.int .i64 0), (.int .i64 0)]) 72 rfl Try.underlying22 cache_Drop.info rfl (by decide) (by omega) u4 xs p [.int .i64 p.f0.f0, .int .i64 p.f0.f1, .int .i64 p.f0.f2, .int .i64 p.f0.f3, .int .i64 p.f0.f4, .int .i64 p.f1, .bool p.f2, .int .i64 p.f3, .int .i64 p.f4] (fun k_ => some k_ ≠ (u5 : Value).ownBlock) (fun _ => False) rfl rfl ?aP (fun _ hk => hk.elim) ?aF ?aO ?aB ?aS ?aL ?_; (case aP => exact k26_mkM _ _ _ p); (case aB => exact HB.out); (case aF => exact (fun k_ hk => Kd.fresh' (Kd.R_lt HO5.out) k_ hk)); (case aO => exact HO4.out); (case aS => exact below_size HB.out); (case aL => have := HL.out; omega); intro vN wN ho hb hg hat; replace HB := Aside0.mk hb; have HN := Aside0.mk ho; replace HO5 := Aside0.mk (Kd.R_after (ok := (fun _ => True)) (Kd.R_mono HO5.out (fun _ hk => ⟨trivial, hk⟩)) hg hat); clear ho hb hg hat))
          go_roundg k1
          case measure => have := HX.out; omega
          case rel =>
            have h1 := HX.out
            have hw : wrap64 (x + 1) = x + 1 := by have := HLE.out; have := HC3.out; unfold wrap64; omega
            refine ⟨(xs ++ [p]), ys, wrap64 (x + 1), rfl, ⟨by rw [hw]; have := HC3.out; omega⟩, ⟨?_⟩, ⟨HN.out⟩, ⟨Kd.R_mono HO5.out (fun _ hk => hk.2)⟩, HB⟩
            rw [hw, show (x + 1).toNat = x.toNat + 1 by omega, HS.out, List.filter_append, List.filter_append, ← HI.out.1, ← HI.out.2]
            constructor <;> simp [HP.out]
      · have c3b := decide_eq_false c3
        have HE : x = (l0.length : Int) := by have := HX.out; omega
        have h1 := HI.out
        rw [HE, Int.toNat_natCast, List.take_length] at h1
        have H1 := Aside0.mk h1
        clear h1 HE
        go_wp2_with fail
        go_ret2
        exact ⟨_, _, rfl, by rw [← H1.out.1]; exact HO4.out, by rw [← H1.out.2]; exact HO5.out, HB.out⟩
set_option maxHeartbeats 4000000 in
set_option maxRecDepth 100000 in
theorem cache_Drop.is (x : S26) (b : Nat) (f : S24) (w : World) (hf : FlowAt w b f) :
    Calls Try.prog 31 #[.agg #[.int .i64 x.f0.f0, .int .i64 x.f0.f1, .int .i64 x.f0.f2, .int .i64 x.f0.f3, .int .i64 x.f0.f4, .int .i64 x.f1, .bool x.f2, .int .i64 x.f3, .int .i64 x.f4], .pointer (some ⟨b, 0, none⟩)] w fun e w' => e = .returned (.bool (beqF x.f0 f)) ∧ Below w.heap.size w w' := by
  have hq := cache_at.eqf
  have hu := Try.underlying26
  have hu2 := Try.underlying24
  have hb : Below w.heap.size w (w.alloc (Obj.cells #[.int .i64 x.f0.f0, .int .i64 x.f0.f1, .int .i64 x.f0.f2, .int .i64 x.f0.f3, .int .i64 x.f0.f4, .int .i64 x.f1, .bool x.f2, .int .i64 x.f3, .int .i64 x.f4] 26)) := below_alloc (Below.refl _ _) _
  have hf2 := hf.below hb
  have f0 := hf2.c0
  have f1 := hf2.c1
  have f2 := hf2.c2
  have f3 := hf2.c3
  have f4 := hf2.c4
  have HB := Aside0.mk hb
  clear hb hf hf2
  go_enter Try.func31, Try.ntmps31
  go_wp2_with fail
  go_ret
  exact ⟨rfl, HB.out⟩
set_option maxHeartbeats 8000000 in
set_option maxRecDepth 100000 in
theorem cache_Drop.calls (k : Nat) (A0 : Option Addr) (c0 : Nat) (l0 : List S26) (a1_0 a1_1 a1_2 a1_3 a1_4 : Int) (r1 : List S26) (r2 : Int) (w : World) (hr0 : Kd.C k26 w A0 l0.length l0) (hc0 : l0.length ≤ c0) (h : cache_Drop.f k l0 a1_0 a1_1 a1_2 a1_3 a1_4 = some (r1, r2)) :
    Calls Try.prog 10 #[.slice A0 l0.length c0, .agg #[.int .i64 a1_0, .int .i64 a1_1, .int .i64 a1_2, .int .i64 a1_3, .int .i64 a1_4]] w fun e w' => ∃ v0_ : Value, e = .returned (.tuple #[v0_, .int .i64 r2]) ∧ Kd.R k26 26 w' w.heap.size (fun _ => True) v0_ r1 ∧ Below w.heap.size w w' := by
  have hb : Below w.heap.size w (w.alloc (Obj.cells #[.int .i64 a1_0, .int .i64 a1_1, .int .i64 a1_2, .int .i64 a1_3, .int .i64 a1_4] 24)) := below_alloc (Below.refl _ _) _
  have HF := Aside0.mk (show FlowAt (w.alloc (Obj.cells #[.int .i64 a1_0, .int .i64 a1_1, .int .i64 a1_2, .int .i64 a1_3, .int .i64 a1_4] 24)) w.heap.size ⟨a1_0, a1_1, a1_2, a1_3, a1_4⟩ from ⟨by simp, by simp, by simp, by simp, by simp⟩)
  have HR := Aside0.mk (Kd.C_below hr0 hb)
  have HC0 := Aside0.mk hc0
  have HB := Aside0.mk hb
  clear hb hr0 hc0
  obtain ⟨m, hm, h⟩ := Option.bind_eq_some_iff.mp h
  replace hm := Aside0.mk hm
  cases m
  · obtain ⟨rfl, rfl⟩ : [] = r1 ∧ 1600 = r2 := by simpa using h
    clear h
    go_enter Try.func10, Try.ntmps10
    go_wp2_with (go_at_call 16; refine (cache_May.calls k _ _ l0 false _ HR.out HC0.out hm.out).mono ?_; rintro e w1 ⟨rfl, hb⟩; replace HR := Aside0.mk (Kd.C_below HR.out hb); replace HB := Aside0.mk (below_step HB.out hb); clear hb)
    go_ret2
    exact ⟨_, rfl, Kd.R_nil _ _ _ _ _, HB.out⟩
  · obtain ⟨rfl, rfl⟩ : l0.filter (fun p => !beqF p.f0 ⟨a1_0, a1_1, a1_2, a1_3, a1_4⟩) = r1 ∧ 0 = r2 := by simpa using h
    clear h
    have HL := Aside0.mk (cache_Drop.maylen k l0 l0 _ _ hm.out)
    go_enter Try.func10, Try.ntmps10
    go_wp2_with (first | (go_at_call 16; refine (cache_May.calls k _ _ l0 true _ HR.out HC0.out hm.out).mono ?_; rintro e w1 ⟨rfl, hb⟩; replace HF := Aside0.mk (HF.out.below hb); replace HR := Aside0.mk (Kd.C_below HR.out hb); replace HB := Aside0.mk (below_step HB.out hb); clear hb) | (go_at_call 24; refine (cache_Drop.split (fun p => beqF p.f0 ⟨a1_0, a1_1, a1_2, a1_3, a1_4⟩) _ _ l0 w.heap.size _ HR.out HC0.out (by have := HL.out; omega) (fun p w1 hb1 => cache_Drop.is p _ _ _ (HF.out.below hb1))).mono ?_; rintro e w2 ⟨v0, v1, rfl, _, ho, hb⟩; have HO := Aside0.mk (Kd.R_lower (Kd.R_mono (ok' := fun _ => True) ho (fun _ _ => trivial)) (below_size HB.out)); replace HB := Aside0.mk (below_step HB.out hb); clear ho hb))
    go_ret2
    exact ⟨_, rfl, HO.out, HB.out⟩


end Go.Proofs.Ytiidegomccifaaa.PCaches
