/- Contracts: what calls of these functions of the program do, each as a plain function; written by a program of this session. -/
import Derived.Test.YtfdmcleopakmcaaPConfsx0
import Derived.Test.YtfdmcleopakmcaaPConfsx14
namespace Go.Proofs.Ytfdmcleopakmcaa.PConfs
open Go.RowKit Go.Proofs.YtfdmcleopakmcaaW.PrintWords Go.Proofs.YtfdmcleopakmcaaW.PrintLast Go.Proofs.YtfdmcleopakmcaaW.PrintMore
attribute [local go_sem] max2_int min2_int max_two min_two max_three min_three max_four min_four   -- for this text's walks alone
set_option linter.unusedVariables false
set_option linter.unusedSimpArgs false

/-! ### wharfagelaw0_SpoilConfig: function 14, by hand -/
def wharfagelaw0_SpoilConfig.f (a0_0 : Int) (l0_1 : List S42) : Option Unit := some ()
theorem back_some (d : Nat) : ∀ (k j : Nat) (l : List S44), l.length ≤ 9223372036854775807 → l.length - j ≤ d → d < k → j ≤ l.length → ∃ r, wharfagelaw0_SpoilBacks.l0 k l (j : Int) = some r := by
  induction d with
  | zero =>
    intro k j l hl hd hk hj
    obtain ⟨k, rfl⟩ : ∃ m, k = m + 1 := ⟨k - 1, by omega⟩
    simp only [wharfagelaw0_SpoilBacks.l0]
    rw [if_neg (by omega)]
    exact ⟨_, rfl⟩
  | succ d ih =>
    intro k j l hl hd hk hj
    obtain ⟨k, rfl⟩ : ∃ m, k = m + 1 := ⟨k - 1, by omega⟩
    simp only [wharfagelaw0_SpoilBacks.l0]
    by_cases h : (j : Int) < (l.length : Int)
    · rw [if_pos h, if_pos (show (0 : Int) ≤ (j : Int) by omega), show wrap64 ((j : Int) + 1) = ((j + 1 : Nat) : Int) by unfold wrap64; omega]
      exact ih k (j + 1) _ (by rw [List.length_set]; exact hl) (by rw [List.length_set]; omega) (by omega) (by rw [List.length_set]; omega)
    · rw [if_neg h]
      exact ⟨_, rfl⟩
theorem back_f (l : List S44) (hl : l.length ≤ 9223372036854775807) : ∃ r, wharfagelaw0_SpoilBacks.f (l.length + 1) l = some r := by
  unfold wharfagelaw0_SpoilBacks.f
  exact back_some l.length (l.length + 1) 0 l hl (by omega) (by omega) (by omega)
theorem back_ok {w : World} {base : Nat} {ok ok' : Nat → Prop} {v : Value} {l : List S44} (h : Kd.R k44 44 w base ok v l) (h2 : ∀ k, v.ownBlock = some k → ok' k) : Kd.R k44 44 w base ok' v l :=
  ⟨h2, h.2.imp_ (fun x cs hp => by rw [k44_openM hp]; exact k44_mkM _ _ _ _)⟩
/-- The form of a row of sites, whatever numbers stand in it. -/
def shapeW (g n base : Nat) (f : Nat → Nat) (us : Nat → Value) (w : World) : Prop :=
  ∃ cur : Array Value, w.heap[g]? = some (.cells cur 42 (0, 0)) ∧ ∀ j, j < n → (∃ x : Int, cur[j * 4]? = some (.int .i64 x)) ∧ cur[j * 4 + 3]? = some (us j) ∧ ∃ b : List S44, Kd.R k44 44 w base (fun k => k ≠ g ∧ f k = j) (us j) b
theorem shape_of {w : World} {base : Nat} {v : Value} {l : List S42} (h : Kd.S k42 42 w base (fun _ => True) v l) :
    (v = .slice none 0 0 ∧ l = []) ∨ ∃ g cap f us, v = .slice (some ⟨g, 0, none⟩) l.length cap ∧ base ≤ g ∧ shapeW g l.length base f us w := by
  obtain ⟨f, h0, inner, ho, hr⟩ := h
  rw [List.length_zipIdx] at ho
  rcases ho.2 with ⟨hv, hn⟩ | ⟨g, cap, cur, hv, hg, hh, hc1, hc2, hc3, hc4⟩
  · exact .inl ⟨hv, List.eq_nil_of_length_eq_zero hn⟩
  · refine .inr ⟨g, cap, f, fun j => inner.getD (j * 4 + 3) undef, hv, hg, cur, hh, fun j hj => ?_⟩
    have hM := hr.2 j (l[j], j) (Kd.zip_at (List.getElem?_eq_getElem hj))
    obtain ⟨u, hcs, hR⟩ := k42_openM hM
    have hcur : ∀ i, i < l.length * 4 → cur[i]? = inner[i]? := fun i hi => by
      have h8 := congrArg (fun x => x[i]?) hc4
      have hi' : i < l.length * (Kd.tag f k42).sz := hi
      simp only [List.getElem?_take, hi', if_true, Array.getElem?_toList] at h8
      exact h8
    have hin : ∀ i v, i < 4 → [Value.int .i64 l[j].f0, .bool l[j].f1, .int .i64 l[j].f2, u][i]? = some v → inner[j * 4 + i]? = some v := fun i v hi hv => by
      have h9 := congrArg (fun x => x[i]?) hcs
      simp only [List.getElem?_take, List.getElem?_drop] at h9
      have e : (Kd.tag f k42).sz = 4 := rfl
      rw [e, if_pos hi, hv] at h9
      exact h9
    refine ⟨⟨l[j].f0, ?_⟩, ?_, l[j].f3, ?_⟩
    · rw [hcur _ (by omega)]; exact hin 0 _ (by omega) rfl
    · rw [hcur _ (by omega)]
      show _ = some (inner.getD (j * 4 + 3) undef)
      rw [List.getD_eq_getElem?_getD, hin 3 u (by omega) rfl]; rfl
    · show Kd.R _ _ _ _ _ (inner.getD (j * 4 + 3) undef) _
      rw [List.getD_eq_getElem?_getD, hin 3 u (by omega) rfl]
      exact Kd.R_mono hR (fun k hk => ⟨fun e => hk.1.2 (by rw [hv, e]; rfl), hk.2⟩)
theorem shape_spoil {g n base : Nat} {f : Nat → Nat} {us : Nat → Value} {w w1 : World} (h : shapeW g n base f us w) (i : Nat) (hk : Kept w w1 (fun k => k ≠ g ∧ f k = i)) {r : List S44} {ok : Nat → Prop} (hr : Kd.R k44 44 w1 base ok (us i) r) : shapeW g n base f us w1 := by
  obtain ⟨cur, hg, hc⟩ := h
  have hlt : g < w.heap.size := (Array.getElem?_eq_some_iff.1 hg).1
  refine ⟨cur, (hk.2 g hlt (fun hh => hh.1 rfl)).trans hg, fun j hj => ?_⟩
  obtain ⟨h1, h2, b, h3⟩ := hc j hj
  refine ⟨h1, h2, ?_⟩
  by_cases hji : j = i
  · subst hji
    exact ⟨r, back_ok hr h3.1⟩
  · exact ⟨b, Kd.R_kept h3 hk (fun k hk2 hk3 => hji (hk2.2.symm.trans hk3.2))⟩
theorem shape_store {g n base : Nat} {f : Nat → Nat} {us : Nat → Value} {w : World} (h : shapeW g n base f us w) (i : Nat) (y : Int) : shapeW g n base f us (w.setCell ⟨g, i * 4, none⟩ (.int .i64 y)) := by
  obtain ⟨cur, hg, hc⟩ := h
  refine ⟨cur.setIfInBounds (i * 4) (.int .i64 y), ?_, fun j hj => ?_⟩
  · show (w.heap.modify g _)[g]? = _
    rw [Array.getElem?_modify, if_pos rfl, hg]
    rfl
  · obtain ⟨⟨x, h1⟩, h2, b, h3⟩ := hc j hj
    refine ⟨?_, ?_, b, Kd.R_far (p := ⟨g, i * 4, none⟩) h3 (fun k hk => hk.1) _⟩
    · by_cases hji : j = i
      · subst hji
        exact ⟨y, Array.getElem?_setIfInBounds_self_of_lt (Array.getElem?_eq_some_iff.1 h1).1⟩
      · exact ⟨x, by rw [Array.getElem?_setIfInBounds_ne (by omega)]; exact h1⟩
    · rw [Array.getElem?_setIfInBounds_ne (by omega)]; exact h2
theorem shape_drew {g n base : Nat} {f : Nat → Nat} {us : Nat → Value} {w : World} (h : shapeW g n base f us w) : shapeW g n base f us w.drew := h
theorem shape_below {g n base : Nat} {f : Nat → Nat} {us : Nat → Value} {w w1 : World} (h : shapeW g n base f us w) (hb : Below w.heap.size w w1) : shapeW g n base f us w1 := by
  obtain ⟨cur, hg, hc⟩ := h
  refine ⟨cur, (hb.block g (Array.getElem?_eq_some_iff.1 hg).1).trans hg, fun j hj => ?_⟩
  obtain ⟨h1, h2, b, h3⟩ := hc j hj
  exact ⟨h1, h2, b, Kd.R_below h3 hb⟩
set_option maxHeartbeats 8000000 in
set_option maxRecDepth 100000 in
theorem wharfagelaw0_SpoilConfig.calls (a0_0 : Int) (u0 : Value) (l0 : List S42) (w0 w : World) (hB : Below w0.heap.size w0 w) (ho0 : Kd.S k42 42 w w0.heap.size (fun _ => True) u0 l0) :
    Calls Try.prog 14 #[.agg #[.int .i64 a0_0, u0]] w fun e w' => e = .returned (.tuple #[]) ∧ Below w0.heap.size w0 w' := by
  have hu := Try.underlying42
  have hu2 := Try.underlying24
  have hlm := (Kd.R_reads (Kd.S_R ho0))
  have hlm : l0.length ≤ 9223372036854775807 := by
    obtain ⟨_, _, _, _, hC0⟩ := hlm
    exact hC0.2.1
  rcases shape_of ho0 with ⟨rfl, rfl⟩ | ⟨g, cap, f, us, rfl, hg, hsh⟩
  · have HB := Aside0.mk hB
    clear ho0 hB
    go_enter Try.func14, Try.ntmps14
    go_wp2_with fail
    go_loopw [2] (fun vi wr => vi = .int .i64 0 ∧ wr = w.alloc (.cells #[.int .i64 a0_0, .slice none 0 0] 24)) (fun _ _ => 0)
    case atStart => exact ⟨rfl, rfl⟩
    case round =>
      obtain ⟨rfl, rfl⟩ := hrel
      go_wp2_with fail
      go_end0
      exact ⟨rfl, below_alloc HB.out _⟩
  · have HB := Aside0.mk (show Below w0.heap.size w0 (w.alloc (.cells #[.int .i64 a0_0, .slice (some ⟨g, 0, none⟩) l0.length cap] 24)) from below_alloc hB _)
    have HS := Aside0.mk (shape_below hsh (below_alloc (Below.refl w.heap.size w) (.cells #[.int .i64 a0_0, .slice (some ⟨g, 0, none⟩) l0.length cap] 24)))
    have HG := Aside0.mk hg
    have HW := Aside0.mk hB.size
    obtain ⟨p, hp⟩ : ∃ p, w.heap.size = p := ⟨_, rfl⟩
    have hgp : g ≠ p := by
      obtain ⟨cur, hc, _⟩ := hsh
      have := (Array.getElem?_eq_some_iff.1 hc).1
      omega
    have HGP := Aside0.mk hgp
    clear ho0 hB hsh hgp hg
    go_enter Try.func14, Try.ntmps14
    go_wp2_with fail
    have HP := Aside0.mk (show (w.alloc (.cells #[.int .i64 a0_0, .slice (some ⟨g, 0, none⟩) l0.length cap] 24)).heap[p]? = some (.cells #[.int .i64 a0_0, .slice (some ⟨g, 0, none⟩) l0.length cap] 24 (0, 0)) by rw [← hp]; exact heap_alloc_new w _)
    have HPW := Aside0.mk (show w0.heap.size ≤ p by rw [← hp]; exact HW.out)
    go_loopw [2] (fun vi wr => ∃ i : Nat, vi = .int .i64 i ∧ i ≤ l0.length ∧ Aside0 (wr.heap[p]? = some (.cells #[.int .i64 a0_0, .slice (some ⟨g, 0, none⟩) l0.length cap] 24 (0, 0))) ∧ Aside0 (shapeW g l0.length w0.heap.size f us wr) ∧ Aside0 (Below w0.heap.size w0 wr)) (fun vi _ => l0.length - (intOf vi).toNat)
    case atStart => exact ⟨0, rfl, Nat.zero_le _, HP, HS, HB⟩
    case round =>
      clear HS HB HP
      obtain ⟨i, rfl, hi, HP, HS, HB⟩ := hrel
      have b1 : wr.cell? ⟨p, 1, none⟩ = some (.slice (some ⟨g, 0, none⟩) l0.length cap) := by rw [World.cell?, HP.out]; rfl
      by_cases hlt : i < l0.length
      · obtain ⟨cur, hg, hc⟩ := HS.out
        obtain ⟨⟨x, hx⟩, hu3, bs, hbs⟩ := hc i hlt
        have x3 : wr.cell? ⟨g, i * 4 + 3, none⟩ = some (us i) := by rw [World.cell?, hg]; exact hu3
        obtain ⟨r, hr⟩ := back_f bs (by obtain ⟨_, _, _, _, hC0⟩ := Kd.R_reads hbs; exact hC0.2.1)
        have HOK := Aside0.mk hbs.1
        have hbs2 := back_ok (ok' := fun k => (us i).ownBlock = some k) hbs (fun _ h => h)
        have hpo : ¬ (us i).ownBlock = some p := fun e => Kd.R_ne hbs HP.out (by decide) e.symm
        have HPO := Aside0.mk hpo
        obtain ⟨A3, c3, hus⟩ := Kd.R_slice hbs
        have HUS := Aside0.mk hus
        rw [hus] at x3 hbs2
        have HBS := Aside0.mk hbs2
        have HR := Aside0.mk hr
        clear hus hbs hbs2 hr hpo hx hu3 hc hg
        go_wp2_with first
          | (go_at_call 23; refine (wharfagelaw0_SpoilBacks.calls (bs.length + 1) _ _ bs r w0 wr HB.out HBS.out HR.out).mono ?_; rintro e w1 ⟨rfl, ho, hb, hk⟩; clear b1 x3; have HP1 := Aside0.mk ((hk.2 p (Array.getElem?_eq_some_iff.1 HP.out).1 (fun e => HPO.out (HUS.out.symm ▸ e))).trans HP.out); have HS1 := Aside0.mk (shape_spoil HS.out i (hk.mono (fun k e => HOK.out k (HUS.out.symm ▸ e))) (HUS.out.symm ▸ ho)); have HB1 := Aside0.mk hb; clear ho hb hk HS HB HP)
        have b1 : w1.cell? ⟨p, 1, none⟩ = some (.slice (some ⟨g, 0, none⟩) l0.length cap) := by rw [World.cell?, HP1.out]; rfl
        obtain ⟨x2, y0⟩ : ∃ x2 : Int, w1.cell? ⟨g, i * 4, none⟩ = some (.int .i64 x2) := by
          obtain ⟨cur, hg, hc⟩ := HS1.out
          obtain ⟨⟨x2, hx⟩, _⟩ := hc i hlt
          exact ⟨x2, by rw [World.cell?, hg]; exact hx⟩
        go_still_tail 12, (by kernel_rfl)
        change wpList _ _ _ _ _ w1.drew
        have z0 : w1.drew.cell? ⟨g, i * 4, none⟩ = some (.int .i64 x2) := y0
        have z1 : w1.drew.frozen? ⟨g, i * 4, none⟩ = false := by
          obtain ⟨cur, hg, _⟩ := HS1.out
          show (match w1.heap[g]? with | some (.cells _ _ (lo, hi)) => decide (lo ≤ i * 4) && decide (i * 4 < hi) | _ => false) = false
          rw [hg]; simp
        go_wp2_with fail
        go_roundw
        case rel => exact ⟨i + 1, by go_num, by omega, ⟨(Below.heap_setCell w1 ⟨g, i * 4, none⟩ _ p (fun e => HGP.out e.symm)).trans HP1.out⟩, ⟨shape_drew (shape_store HS1.out i _)⟩, ⟨(HB1.out.setCell HG.out _).trans (show Below w0.heap.size (w1.setCell ⟨g, i * 4, none⟩ _) (w1.setCell ⟨g, i * 4, none⟩ _).drew from ⟨rfl, rfl, rfl, Nat.le_refl _, fun _ _ => rfl⟩)⟩⟩
        case measure => simp [intOf]; omega
      · go_wp2_with fail
        go_end0
        exact ⟨rfl, HB.out⟩


end Go.Proofs.Ytfdmcleopakmcaa.PConfs
