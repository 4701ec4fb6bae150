/- Contracts: what calls of these functions of the program do, each as a plain function; written by a program of this session. -/
import Derived.Test.YtnocfhnandedoabPVRowx0
namespace Go.Proofs.Ytnocfhnandedoab.PVRow
open Go.RowKit Go.Proofs.YtnocfhnandedoabW.PrintWords Go.Proofs.YtnocfhnandedoabW.PrintLast Go.Proofs.YtnocfhnandedoabW.PrintMore
attribute [local go_sem] max2_int min2_int max_two min_two max_three min_three max_four min_four   -- for this text's walks alone
set_option linter.unusedVariables false
set_option linter.unusedSimpArgs false

/-! ### bits_Mul32: function 92 -/
def bits_Mul32.f (a0 : Int) (a1 : Int) : Option (Int × Int) := some (((IntKind.u64.wrap ((IntKind.u64.wrap (a0)) * (IntKind.u64.wrap (a1)))) / 4294967296) % 4294967296, (IntKind.u64.wrap ((IntKind.u64.wrap (a0)) * (IntKind.u64.wrap (a1)))) % 4294967296)
set_option maxHeartbeats 8000000 in
set_option maxRecDepth 100000 in
theorem bits_Mul32.calls (a0 : Int) (a1 : Int) (r1 : Int) (r2 : Int) (w : World) (h : bits_Mul32.f a0 a1 = some (r1, r2)) :
    Calls Try.prog 92 #[.int .u32 a0, .int .u32 a1] w fun e w' => e = .returned (.tuple #[.int .u32 r1, .int .u32 r2]) ∧ Drawn0 w w' := by
  have H : (some (((IntKind.u64.wrap ((IntKind.u64.wrap (a0)) * (IntKind.u64.wrap (a1)))) / 4294967296) % 4294967296, (IntKind.u64.wrap ((IntKind.u64.wrap (a0)) * (IntKind.u64.wrap (a1)))) % 4294967296)) = some (r1, r2) := h
  clear h
  simp only [Option.some.injEq, Prod.mk.injEq] at H
  obtain ⟨rfl, rfl⟩ := H
  go_enter Try.func92, Try.ntmps92
  go_wp2
  go_ret2
  exact ⟨by first | rfl | (simp; done) | (simp [*]; done), by repeat (first | exact Drawn0.refl _ | apply Drawn0.step)⟩

/-! ### bits_Mul64: function 93 -/
def bits_Mul64.f (a0 : Int) (a1 : Int) : Option (Int × Int) := some (IntKind.u64.wrap ((IntKind.u64.wrap ((IntKind.u64.wrap ((a0 / 4294967296) * (a1 / 4294967296))) + ((IntKind.u64.wrap ((IntKind.u64.wrap ((a0 / 4294967296) * (Go.bits .and .u64 a1 4294967295))) + ((IntKind.u64.wrap ((Go.bits .and .u64 a0 4294967295) * (Go.bits .and .u64 a1 4294967295))) / 4294967296))) / 4294967296))) + ((IntKind.u64.wrap ((Go.bits .and .u64 (IntKind.u64.wrap ((IntKind.u64.wrap ((a0 / 4294967296) * (Go.bits .and .u64 a1 4294967295))) + ((IntKind.u64.wrap ((Go.bits .and .u64 a0 4294967295) * (Go.bits .and .u64 a1 4294967295))) / 4294967296))) 4294967295) + (IntKind.u64.wrap ((Go.bits .and .u64 a0 4294967295) * (a1 / 4294967296))))) / 4294967296)), IntKind.u64.wrap (a0 * a1))
set_option maxHeartbeats 8000000 in
set_option maxRecDepth 100000 in
theorem bits_Mul64.calls (a0 : Int) (a1 : Int) (r1 : Int) (r2 : Int) (w : World) (h : bits_Mul64.f a0 a1 = some (r1, r2)) :
    Calls Try.prog 93 #[.int .u64 a0, .int .u64 a1] w fun e w' => e = .returned (.tuple #[.int .u64 r1, .int .u64 r2]) ∧ Drawn0 w w' := by
  have H : (some (IntKind.u64.wrap ((IntKind.u64.wrap ((IntKind.u64.wrap ((a0 / 4294967296) * (a1 / 4294967296))) + ((IntKind.u64.wrap ((IntKind.u64.wrap ((a0 / 4294967296) * (Go.bits .and .u64 a1 4294967295))) + ((IntKind.u64.wrap ((Go.bits .and .u64 a0 4294967295) * (Go.bits .and .u64 a1 4294967295))) / 4294967296))) / 4294967296))) + ((IntKind.u64.wrap ((Go.bits .and .u64 (IntKind.u64.wrap ((IntKind.u64.wrap ((a0 / 4294967296) * (Go.bits .and .u64 a1 4294967295))) + ((IntKind.u64.wrap ((Go.bits .and .u64 a0 4294967295) * (Go.bits .and .u64 a1 4294967295))) / 4294967296))) 4294967295) + (IntKind.u64.wrap ((Go.bits .and .u64 a0 4294967295) * (a1 / 4294967296))))) / 4294967296)), IntKind.u64.wrap (a0 * a1))) = some (r1, r2) := h
  clear h
  simp only [Option.some.injEq, Prod.mk.injEq] at H
  obtain ⟨rfl, rfl⟩ := H
  go_enter Try.func93, Try.ntmps93
  go_wp2
  go_ret2
  exact ⟨by first | rfl | (simp; done) | (simp [*]; done), by repeat (first | exact Drawn0.refl _ | apply Drawn0.step)⟩

/-! ### bits_Mul: function 90 -/
def bits_Mul.f (a0 : Int) (a1 : Int) : Option (Int × Int) := (bits_Mul64.f a0 a1).bind fun bt113 => (some (bt113.1, bt113.2))
set_option maxHeartbeats 8000000 in
set_option maxRecDepth 100000 in
theorem bits_Mul.calls (a0 : Int) (a1 : Int) (r1 : Int) (r2 : Int) (w : World) (h : bits_Mul.f a0 a1 = some (r1, r2)) :
    Calls Try.prog 90 #[.int .u64 a0, .int .u64 a1] w fun e w' => e = .returned (.tuple #[.int .u64 r1, .int .u64 r2]) ∧ Drawn0 w w' := by
  have H : ((bits_Mul64.f a0 a1).bind fun bt113 => (some (bt113.1, bt113.2))) = some (r1, r2) := h
  clear h
  replace H := Option.bind_eq_some_iff.mp H
  obtain ⟨⟨t113, t114⟩, A30, H⟩ := H
  replace H : (some (t113, t114)) = some (r1, r2) := H
  have A3 := Aside0.mk A30
  clear A30
  simp only [Option.some.injEq, Prod.mk.injEq] at H
  obtain ⟨rfl, rfl⟩ := H
  go_enter Try.func90, Try.ntmps90
  go_wp2_with (first | ((with_reducible refine gate_callee (f := 93) rfl ?_); refine goesL_ (some 25) rfl rfl Try.func93 (by kernel_rfl) rfl #[.int .u64 a0, .int .u64 a1] rfl (by (try simp only [List.map_toArray, List.map_cons, List.map_nil]); first | done | rfl | (simp only [List.length_drop, List.length_take]; rfl)) ?_; (with_reducible refine (bits_Mul64.calls a0 a1 t113 t114 _ A3.out).mono ?_); rintro e w' ⟨rfl, ⟨nd, rfl⟩⟩; refine ⟨_, rfl, ?_⟩))
  go_ret2
  exact ⟨by first | rfl | (simp; done) | (simp [*]; done), by repeat (first | exact Drawn0.refl _ | apply Drawn0.step)⟩

-- NOT PRINTED: function 75 (api_Seen_75)

/-! ### view_New: function 46, by hand -/
def view_New.f : Option (List S85) := some [⟨⟨0, 0, 0, 0⟩, -1⟩, ⟨⟨0, 0, 0, 0⟩, -1⟩, ⟨⟨0, 0, 0, 0⟩, -1⟩]
def view_New.b : List Value := [.int .i64 0, .int .i64 0, .int .i64 0, .int .i64 0, .int .i64 (-1)]
def view_New.z : List Value := [.int .i64 0, .int .i64 0, .int .i64 0, .int .i64 0, .int .i64 0]
def view_New.row : Nat → List Value
  | 0 => view_New.z ++ view_New.z ++ view_New.z
  | 1 => view_New.b ++ view_New.z ++ view_New.z
  | 2 => view_New.b ++ view_New.b ++ view_New.z
  | _ => view_New.b ++ view_New.b ++ view_New.b
theorem view_New.mul64 (w : World) : Calls Try.prog 93 #[.int .u64 1, .int .u64 3] w fun e w' => e = .returned (.tuple #[.int .u64 0, .int .u64 3]) ∧ w = w' := by
  go_enter Try.func93, Try.ntmps93
  go_wp2
  go_ret2
  exact ⟨rfl, rfl⟩
theorem view_New.mul (w : World) : Calls Try.prog 90 #[.int .u64 1, .int .u64 3] w fun e w' => e = .returned (.tuple #[.int .u64 0, .int .u64 3]) ∧ w = w' := by
  go_enter Try.func90, Try.ntmps90
  go_wp2_with first
    | (go_at_call 93; refine (view_New.mul64 _).mono ?_; rintro e w1 ⟨rfl, rfl⟩)
  go_ret2
  exact ⟨rfl, rfl⟩
theorem view_New.pre (m j : Nat) (v : Value) (h : view_New.b[j]? = some v) : (view_New.row (m + 1)).toArray[j]? = some v := by
  have hj : j < 5 := (List.getElem?_eq_some_iff.1 h).1
  have e : ∃ r, view_New.row (m + 1) = view_New.b ++ r := by
    match m with
    | 0 => exact ⟨_, rfl⟩
    | 1 => exact ⟨_, rfl⟩
    | n + 2 => exact ⟨_, rfl⟩
  obtain ⟨r, e⟩ := e
  rw [e, List.getElem?_toArray, List.getElem?_append_left (by exact hj)]
  exact h
set_option maxHeartbeats 4000000 in
set_option maxRecDepth 100000 in
theorem view_New.rep (w : World) (g : Nat) (hs : ∀ j v, view_New.b[j]? = some v → w.cell? ((⟨g, 0, none⟩ : Addr).add j) = some v) : Calls Try.prog 75 #[.slice (some ⟨g, 0, none⟩) 1 1, .int .i64 3] w fun e w' => e = .returned (.slice (some ⟨w.heap.size, 0, none⟩) 3 3) ∧ w'.heap[w.heap.size]? = some (.cells (view_New.row 3).toArray 85 (0, 0)) ∧ Below w.heap.size w w' := by
  have HS := Aside0.mk hs
  clear hs
  go_enter Try.func75, Try.ntmps75
  go_wp2_with first
    | (go_at_call 90; refine (view_New.mul _).mono ?_; rintro e w1 ⟨rfl, rfl⟩)
    | ((with_reducible refine gate_dst (N := 30) rfl ?_); refine Kd.event_run (w1 := w.alloc (.cells (view_New.row 0).toArray 85)) (v := .slice (some ⟨w.heap.size, 0, none⟩) 3 3) rfl (by go_simp; kernel_rfl) ?_; obtain ⟨w2, hW⟩ : ∃ x_, x_ = w.alloc (.cells (view_New.row 0).toArray 85) := ⟨_, rfl⟩; rw [← hW]; have HG := Aside0.mk (show w2.heap[w.heap.size]? = some (.cells (view_New.row 0).toArray 85 (0, 0)) by rw [hW]; show (w.heap.push _)[w.heap.size]? = _; exact Array.getElem?_push_size); have HB := Aside0.mk (show Below w.heap.size w w2 from hW ▸ below_alloc (Below.refl _ _) _); clear hW)
    | ((with_reducible refine gate_dst (N := 33) rfl ?_); refine Kd.event_run (w1 := w2.setRow w.heap.size (view_New.row 1).toArray) (v := .int .i64 1) rfl (by go_simp; rw [Go.Proofs.Ytnocfhnandedoab.Hand.hk_copy w2 66 66 3 85 w.heap.size 0 3 3 ⟨g, 0, none⟩ 1 1 _ _ view_New.b 5 1 Try.underlying66 (by kernel_rfl) HG.out rfl rfl (fun j v h => by rw [← HS.out j v h]; exact HB.out.cell (World.block_lt_of_cell? w _ (HS.out j v h))) (by decide) (by decide)]; kernel_rfl) ?_; obtain ⟨w3, hW⟩ : ∃ x_, x_ = w2.setRow w.heap.size (view_New.row 1).toArray := ⟨_, rfl⟩; rw [← hW]; replace HB := Aside0.mk (show Below w.heap.size w w3 from hW ▸ below_setRow HB.out (Nat.le_refl _) _); replace HG := Aside0.mk (show w3.heap[w.heap.size]? = some (.cells (view_New.row 1).toArray 85 (0, 0)) by rw [hW]; exact setRow_heap _ _ _ _ _ _ HG.out); clear hW)
  go_loopw [8] (fun v wr => ∃ m : Nat, v = .int .i64 (m : Int) ∧ (m = 1 ∨ m = 2 ∨ m = 3) ∧ Aside0 (wr.heap[w.heap.size]? = some (.cells (view_New.row m).toArray 85 (0, 0))) ∧ Aside0 (Below w.heap.size w wr)) (fun v _ => 3 - (intOf v).toNat)
  case atStart => exact ⟨1, rfl, .inl rfl, HG, HB⟩
  case round =>
    clear HG HB
    obtain ⟨m, rfl, hm, HG, HB⟩ := hrel
    rcases hm with rfl | rfl | rfl
    · go_wp2_with fail
      go_region_held3 (fun w' => True) (trivial) ((refine event_step (w1 := wr.drew.setRow w.heap.size (view_New.row 2).toArray) (v := .int .i64 1) rfl (by go_simp; rw [Go.Proofs.Ytnocfhnandedoab.Hand.hk_copy wr.drew 66 66 3 85 w.heap.size 5 2 2 ⟨w.heap.size, 0, none⟩ 1 3 _ _ view_New.b 5 1 Try.underlying66 (by kernel_rfl) HG.out rfl rfl (fun j v h => by rw [Go.Proofs.Ytnocfhnandedoab.Hand.hk_add0, World.cell?, show wr.drew.heap[w.heap.size]? = _ from HG.out, Nat.zero_add]; revert h; exact view_New.pre 0 j v) (by decide) (by decide)]; kernel_rfl) ?_; obtain ⟨w3, hW⟩ : ∃ x_, x_ = wr.drew.setRow w.heap.size (view_New.row 2).toArray := ⟨_, rfl⟩; rw [← hW]; replace HB := Aside0.mk (show Below w.heap.size w w3 from hW ▸ below_setRow (below_drew1 HB.out) (Nat.le_refl _) _); replace HG := Aside0.mk (show w3.heap[w.heap.size]? = some (.cells (view_New.row 2).toArray 85 (0, 0)) by rw [hW]; exact setRow_heap _ _ _ _ _ _ HG.out); clear hW))
      go_wp2_with fail
      go_roundw
      case rel => exact ⟨2, by kernel_rfl, by decide, HG, HB⟩
      case measure => first | decide | (simp [intOf]; decide)
    · go_wp2_with fail
      go_region_held3 (fun w' => True) (trivial) ((refine event_step (w1 := wr.drew.setRow w.heap.size (view_New.row 3).toArray) (v := .int .i64 1) rfl (by go_simp; rw [Go.Proofs.Ytnocfhnandedoab.Hand.hk_copy wr.drew 66 66 3 85 w.heap.size 10 1 1 ⟨w.heap.size, 0, none⟩ 2 3 _ _ view_New.b 5 1 Try.underlying66 (by kernel_rfl) HG.out rfl rfl (fun j v h => by rw [Go.Proofs.Ytnocfhnandedoab.Hand.hk_add0, World.cell?, show wr.drew.heap[w.heap.size]? = _ from HG.out, Nat.zero_add]; revert h; exact view_New.pre 1 j v) (by decide) (by decide)]; kernel_rfl) ?_; obtain ⟨w3, hW⟩ : ∃ x_, x_ = wr.drew.setRow w.heap.size (view_New.row 3).toArray := ⟨_, rfl⟩; rw [← hW]; replace HB := Aside0.mk (show Below w.heap.size w w3 from hW ▸ below_setRow (below_drew1 HB.out) (Nat.le_refl _) _); replace HG := Aside0.mk (show w3.heap[w.heap.size]? = some (.cells (view_New.row 3).toArray 85 (0, 0)) by rw [hW]; exact setRow_heap _ _ _ _ _ _ HG.out); clear hW))
      go_wp2_with fail
      go_roundw
      case rel => exact ⟨3, by kernel_rfl, by decide, HG, HB⟩
      case measure => first | decide | (simp [intOf]; decide)
    · go_wp2_with fail
      go_ret
      exact ⟨rfl, HG.out, HB.out⟩
theorem view_New.calls (r : List S85) (w : World) (h : view_New.f = some r) :
    Calls Try.prog 46 #[] w fun e w' => ∃ v0_ : Value, e = .returned (v0_) ∧ Kd.R k85 85 w' w.heap.size (fun _ => True) v0_ r ∧ Below w.heap.size w w' := by
  obtain rfl := Option.some.inj h
  clear h
  have HB := Aside0.mk (Below.refl w.heap.size w)
  go_enter Try.func46, Try.ntmps46
  go_wp2_with first
    | (go_at_call 75; obtain ⟨w1, hW⟩ : ∃ x_, x_ = w.alloc (.cells view_New.b.toArray 85) := ⟨_, rfl⟩; rw [show w.alloc (.cells #[.int .i64 0, .int .i64 0, .int .i64 0, .int .i64 0, .int .i64 (-1)] 85) = w1 from hW.symm]; have hb : Below w.heap.size w w1 := hW ▸ below_alloc (Below.refl _ _) _; refine (view_New.rep w1 w.heap.size (fun j v h => by rw [hW, Go.Proofs.Ytnocfhnandedoab.Hand.hk_add0, World.cell?_alloc_at _ _ _ _ rfl, Nat.zero_add, List.getElem?_toArray]; exact h)).mono ?_; rintro e w2 ⟨rfl, hg, hb2⟩; have HG := Aside0.mk hg; replace HB := Aside0.mk (below_step hb hb2); have HS := Aside0.mk hb.size; have HL := Aside0.mk (show w1.heap.size < w2.heap.size from by rw [Array.getElem?_eq_some_iff] at hg; exact hg.1); clear hg hb hb2 hW)
  go_ret
  refine ⟨_, rfl, ⟨fun _ _ => trivial, view_New.row 3, ⟨by kernel_rfl, .inr ⟨w1.heap.size, 3, _, rfl, HS.out, HG.out, by decide, by decide, by kernel_rfl, by kernel_rfl⟩⟩, ?_⟩, HB.out⟩
  refine ⟨by kernel_rfl, ?_⟩
  intro j p hj
  match j, hj with
  | 0, hj => exact (Option.some.inj hj) ▸ k85_mkM _ _ _ _
  | 1, hj => exact (Option.some.inj hj) ▸ k85_mkM _ _ _ _
  | 2, hj => exact (Option.some.inj hj) ▸ k85_mkM _ _ _ _
  | j + 3, hj => simp at hj


end Go.Proofs.Ytnocfhnandedoab.PVRow
