/- A pen in a world that grew out of an elder one (whose rows stand): writes of numbers, letters, a configuration, an act. -/
import Derived.Test.YtnojgkiaolmoeaaDoorPenS
import Derived.Test.YtnojgkiaolmoeaaDoorPScx0
import Derived.Deep.DeepCutAuto
import Derived.StillTailTactics
namespace Go.Proofs.YtnojgkiaolmoeaaDoor.Pen
open Go.RowKit Go.Proofs.YtnojgkiaolmoeaaDoorW.PrintWords Go.Proofs.YtnojgkiaolmoeaaDoorW.PrintLast Go.Proofs.YtnojgkiaolmoeaaDoorW.PrintMore Go.Proofs.YtnojgkiaolmoeaaDoor.PSc
set_option linter.unusedVariables false
set_option linter.unusedSimpArgs false
theorem PenAt.lt {B b : Nat} {l : List UInt8} {w : World} (h : PenAt B b l w) : b < w.heap.size := by
  rcases h with h | h
  · exact h.lt
  · exact h.lt
/-- A pen b with the bytes l, in a world in which all that lay in w0 is as it was. -/
structure St (w0 : World) (b : Nat) (l : List UInt8) (w : World) : Prop where
  pen : PenAt w0.heap.size b l w
  low : Below w0.heap.size w0 w
theorem St.sz {w0 w : World} {b : Nat} {l : List UInt8} (h : St w0 b l w) : w0.heap.size ≤ w.heap.size := below_size h.low
theorem St.drew {w0 w : World} {b : Nat} {l : List UInt8} (h : St w0 b l w) : St w0 b l w.drew := ⟨h.pen.drew, h.low.drew⟩
theorem St.alloc {w0 w : World} {b : Nat} {l : List UInt8} (h : St w0 b l w) (o : Obj) : St w0 b l (w.alloc o) := ⟨h.pen.alloc o, h.low.alloc h.sz o⟩
theorem St.below {w0 w w1 : World} {b : Nat} {l : List UInt8} (h : St w0 b l w) (hb : Below w.heap.size w w1) : St w0 b l w1 := ⟨h.pen.below hb, h.low.trans (below_of h.sz hb)⟩
theorem St.tab {w0 w : World} {b : Nat} {l : List UInt8} (h : St w0 b l w) (ht : TabB w0.heap.size w0) : TabB w0.heap.size w := ht.next h.low
theorem St.cell {w0 w : World} {b : Nat} {l : List UInt8} (h : St w0 b l w) {p : Addr} {v : Value} (hc : w0.cell? p = some v) : w.cell? p = some v := pw_cell_below h.low hc
/-- What another write leaves of the call's own rows. -/
abbrev Oth (b : Nat) (w w1 : World) : Prop := Lib.OthersKept 5 (some b) w w1
theorem Oth.blk {b g : Nat} {w w1 : World} {cs : Array Value} {t : TypeId} {fz : Nat × Nat} (h : Oth b w w1) (hg : w.heap[g]? = some (.cells cs t fz)) (hgb : g ≠ b) (ht : t ≠ 5) : w1.heap[g]? = some (.cells cs t fz) := h g _ hg (by simpa using hgb) (fun c f e => ht (by injection e))
theorem nums_ (w0 : World) (b : Nat) (l : List UInt8) (xs : List Int) (n : Nat) (hn : xs.length = n) (cs : Array Value) (hcs : cs = (xs.map (Value.int .i64)).toArray) (w : World) (h : St w0 b l w) (ht : TabB w0.heap.size w0) (hin : ∀ x ∈ xs, I64 x) (hlen : l.length + 22 * n ≤ 140737488355328) :
    Calls Tryd.prog 38 #[.pointer (some ⟨b, 0, none⟩), .slice (some ⟨w.heap.size, 0, none⟩) n n] (w.alloc (.cells cs 3)) fun e w' => e = .returned (.tuple #[]) ∧ St w0 b (l ++ numsT xs) w' ∧ Oth b w w' := by
  subst hcs
  have h1 := h.alloc (.cells (xs.map (Value.int .i64)).toArray 3)
  refine (nums w0.heap.size b w.heap.size l xs n hn _ h1.pen (heap_alloc_new _ _) (Nat.ne_of_gt h.pen.lt) hin hlen h1.sz (h1.tab ht)).mono ?_
  rintro e w' ⟨rfl, hp, hs⟩
  exact ⟨rfl, ⟨hp, h1.low.trans hs.low⟩, ((Lib.OthersKept.refl _ _ w).alloc _).trans hs.oth⟩
theorem letter_ (w0 : World) (b : Nat) (l : List UInt8) (is : Bool) (y n : UInt8) (w : World) (h : St w0 b l w) (hlen : l.length + 1 ≤ 140737488355328) :
    Calls Tryd.prog 39 #[.pointer (some ⟨b, 0, none⟩), .bool is, .int .u8 y.toNat, .int .u8 n.toNat] w fun e w' => e = .returned (.tuple #[]) ∧ St w0 b (l ++ [if is = true then y else n]) w' ∧ Oth b w w' := by
  refine (letter w0.heap.size b l is y n w h.pen hlen h.sz).mono ?_
  rintro e w' ⟨rfl, hp, hs⟩
  exact ⟨rfl, ⟨hp, h.low.trans hs.low⟩, hs.oth⟩
theorem writeString_ (w0 : World) (b : Nat) (l : List UInt8) (s : ByteArray) (w : World) (h : St w0 b l w) (hlen : l.length + s.size ≤ 140737488355328) :
    Calls Tryd.prog 40 #[.pointer (some ⟨b, 0, none⟩), .string s] w fun e w' => e = .returned (.tuple #[.int .i64 s.size, .nilIface]) ∧ St w0 b (l ++ s.data.toList) w' ∧ Oth b w w' := by
  refine (writeString w0.heap.size b l s w h.pen hlen h.sz).mono ?_
  rintro e w' ⟨rfl, hp, hs⟩
  exact ⟨rfl, ⟨hp, h.low.trans hs.low⟩, hs.oth⟩
def backT (x : S65) : List UInt8 := numsT [x.f0] ++ [if x.f1 = true then 100 else 117]
def siteT (x : S63) : List UInt8 := numsT [x.f0] ++ [if x.f1 = true then 100 else 117] ++ numsT [x.f2, (x.f3.length : Int)] ++ x.f3.flatMap backT
def cfgT (v : Int) (l : List S63) : List UInt8 := numsT [v, (l.length : Int)] ++ l.flatMap siteT
structure SiteI (x : S63) : Prop where
  w : I64 x.f0
  c : I64 x.f2
  n : x.f3.length ≤ 4
  b : ∀ y ∈ x.f3, I64 y.f0
structure CfgI (v : Int) (l : List S63) : Prop where
  v : I64 v
  n : l.length ≤ 3
  s : ∀ x ∈ l, SiteI x
theorem I64_small {n : Nat} (h : n ≤ 1000) : I64 (n : Int) := ⟨by omega, by omega⟩
theorem numsT_le (xs : List Int) (h : ∀ x ∈ xs, I64 x) (n : Nat) (hn : xs.length = n) : (numsT xs).length ≤ 22 * n := hn ▸ numsT_len xs h
theorem backT_len {y : S65} (h : I64 y.f0) : (backT y).length ≤ 23 := by
  have h1 := numsT_le [y.f0] (by simpa using h) 1 rfl
  unfold backT
  rw [List.length_append, List.length_singleton]
  omega
theorem flat_len {α : Type} (f : α → List UInt8) (m : Nat) (l : List α) (h : ∀ x ∈ l, (f x).length ≤ m) : (l.flatMap f).length ≤ m * l.length := by
  induction l with
  | nil => exact Nat.zero_le _
  | cons x l ih =>
    have h1 := ih (fun y hy => h y (List.mem_cons_of_mem _ hy))
    have h2 := h x List.mem_cons_self
    simp only [List.flatMap_cons, List.length_append, List.length_cons, Nat.mul_add]
    omega
theorem siteT_len {x : S63} (h : SiteI x) : (siteT x).length ≤ 160 := by
  have h1 := numsT_le [x.f0] (by simpa using h.w) 1 rfl
  have h2 := numsT_le [x.f2, (x.f3.length : Int)] (by have h9 := I64_small (show x.f3.length ≤ 1000 by have := h.n; omega); simp only [List.mem_cons, List.not_mem_nil, or_false]; rintro y (rfl | rfl); exact h.c; exact h9) 2 rfl
  have h3 := flat_len backT 23 x.f3 (fun y hy => backT_len (h.b y hy))
  have h4 := h.n
  unfold siteT
  simp only [List.length_append, List.length_singleton]
  omega
theorem cfgT_len {v : Int} {l : List S63} (h : CfgI v l) : (cfgT v l).length ≤ 600 := by
  have h2 := numsT_le [v, (l.length : Int)] (by have h9 := I64_small (show l.length ≤ 1000 by have := h.n; omega); simp only [List.mem_cons, List.not_mem_nil, or_false]; rintro y (rfl | rfl); exact h.v; exact h9) 2 rfl
  have h3 := flat_len siteT 160 l (fun y hy => siteT_len (h.s y hy))
  have h4 := h.n
  unfold cfgT
  simp only [List.length_append]
  omega
theorem flat_take {α : Type} (f : α → List UInt8) (l : List α) (i : Nat) (x : α) (h : l[i]? = some x) : (l.take (i + 1)).flatMap f = (l.take i).flatMap f ++ f x := by
  rw [List.take_add_one, h, List.flatMap_append]
  simp
theorem hide_ {P : Program} {c : Code} {Q : Exit → Act → World → Prop} {a : Act} {w : World} (R : World → Prop) (h : R w) (k : ∀ w', R w' → c.wp P Q a w') : c.wp P Q a w := k w h
set_option maxHeartbeats 4000000 in
set_option maxRecDepth 100000 in
theorem config (w0 : World) (b : Nat) (l : List UInt8) (q : Addr) (v : Int) (A : Option Addr) (c : Nat) (ss : List S63) (w : World) (h : St w0 b l w) (ht : TabB w0.heap.size w0) (h0 : w0.cell? q = some (.int .i64 v)) (h1 : w0.cell? ⟨q.block, q.off + 1, none⟩ = some (.slice A ss.length c)) (hC : Kd.C k63 w0 A ss.length ss) (hI : CfgI v ss) (hlen : l.length + 1000 ≤ 140737488355328) :
    Calls Tryd.prog 42 #[.pointer (some ⟨b, 0, none⟩), .pointer (some q)] w fun e w' => e = .returned (.tuple #[]) ∧ St w0 b (l ++ cfgT v ss) w' := by
  have hu := Tryd.underlying63
  have hu2 := Tryd.underlying65
  have HT := Aside0.mk ht
  have HC := Aside0.mk hC
  have HI := Aside0.mk hI
  have HS := Aside0.mk h
  have HL := Aside0.mk hlen
  have H1 := Aside0.mk h1
  have H0 := Aside0.mk h0
  have q0 := h.cell h0
  have q1 := h.cell h1
  have HLE_ := Aside0.mk (show l.length + 1000 ≤ 140737488355328 from hlen)
  have HIN_ := Aside0.mk (show ∀ x ∈ [v, (ss.length : Int)], I64 x by have h9 := I64_small (show ss.length ≤ 1000 by have := hI.n; omega); simp only [List.mem_cons, List.not_mem_nil, or_false]; rintro y (rfl | rfl); exact hI.v; exact h9)
  clear h ht h0 h1 hC hI hlen
  go_enter Tryd.func42, Tryd.ntmps42
  go_upto_region 0 with fail
  go_region_held3 (fun w' => w'.cell? q = some (.int .i64 v) ∧ w'.cell? ⟨q.block, q.off + 1, none⟩ = some (.slice A ss.length c)) (first | exact ⟨q0, q1⟩ | go_keep) ((go_at_call 38; (first | refine (nums_ w0 b _ [v, (ss.length : Int)] 2 rfl _ rfl _ HS.out HT.out ?hin ?hle).mono ?_ | refine (nums_ w0 b _ [v, (ss.length : Int)] 2 rfl _ rfl _ HS.out.drew HT.out ?hin ?hle).mono ?_); (case hin => exact HIN_.out); (case hle => have h9 := HLE_.out; omega); rintro e w3 ⟨rfl, h_, k_⟩; have HS1 := Aside0.mk h_; replace q0 := HS1.out.cell H0.out; replace q1 := HS1.out.cell H1.out; clear h_ k_))
  clear HLE_ HIN_
  go_wp2_with fail
  go_loopg [25] (ss.length + 1) (fun kq v25 w' => ∃ i : Nat, v25 = .int .i64 (i : Int) ∧ Aside0 (i ≤ ss.length ∧ (kq : Int) + i = ss.length + 1) ∧ Aside0 (St w0 b (l ++ numsT [v, (ss.length : Int)] ++ (ss.take i).flatMap siteT) w'))
  case atStart => exact ⟨0, rfl, ⟨by omega⟩, ⟨by simpa using HS1.out⟩⟩
  case round =>
    obtain ⟨i, rfl, HX, HP⟩ := hrel
    cases gk with
    | zero => have := HX.out; omega
    | succ k1 =>
      by_cases c3 : (i : Int) < (ss.length : Int)
      · have c3b := decide_eq_true c3
        have p1 : (0 : Int) ≤ (i : Int) := by omega
        have p1b := decide_eq_true p1
        obtain ⟨ad, A9, c9, ea, hx0, hx1, hx2, hx3, hl9, hi9⟩ := at_T63 HC.out (i : Int) p1 c3
        cases ea
        obtain ⟨x, hx⟩ : ∃ x, rd_T63 ss (i : Int) = x := ⟨_, rfl⟩
        have hlt : i < ss.length := by omega
        have hget : ss[i]? = some x := by rw [← hx]; simp [rd_T63, hlt]
        rw [hx] at hx0 hx1 hx2 hx3 hl9 hi9
        rw [Int.toNat_natCast] at hx0 hx1 hx2 hx3
        have HSI := Aside0.mk (HI.out.s x (List.mem_of_getElem? hget))
        have HGET := Aside0.mk hget
        replace hx0 := HP.out.cell hx0
        replace hx1 := HP.out.cell hx1
        replace hx2 := HP.out.cell hx2
        replace hx3 := HP.out.cell hx3
        have HC9 := Aside0.mk hi9
        have HLL := Aside0.mk (show (l ++ numsT [v, (ss.length : Int)] ++ (ss.take i).flatMap siteT).length + 300 ≤ 140737488355328 by
          have h9 := flat_len siteT 160 (ss.take i) (fun y hy => siteT_len (HI.out.s y (List.mem_of_mem_take hy)))
          have h8 : (ss.take i).length ≤ 3 := by rw [List.length_take]; have := HI.out.n; omega
          have h7 := numsT_le [v, (ss.length : Int)] (by have h9 := I64_small (show ss.length ≤ 1000 by have := HI.out.n; omega); simp only [List.mem_cons, List.not_mem_nil, or_false]; rintro y (rfl | rfl); exact HI.out.v; exact h9) 2 rfl
          have h6 := HL.out
          simp only [List.length_append] at *
          omega)
        obtain ⟨L, hL⟩ : ∃ L, l ++ numsT [v, (ss.length : Int)] ++ (ss.take i).flatMap siteT = L := ⟨_, rfl⟩
        have HLQ := Aside0.mk hL
        rw [hL] at HP HLL
        have c3' := eq_true c3
        have p1' := eq_true p1
        clear hx hlt hget hl9 hi9 hL
        go_upto_region 4 with ((with_reducible refine gate_dst (N := 5) rfl ?_); refine box_event ?hg (N := 5) ?hd (cs := #[.int .i64 0, .bool false, .int .i64 0, .slice none 0 0]) (t := 63) ?hr ?_; (case hd => rfl); (case hg => rfl); (case hr => first | (go_simp; done) | (go_simp; rfl)); intro gs hg w3 hbox hb; have HW := Aside0.mk hb; have G := Aside0.mk (Nat.le_of_eq hg.symm : wr.heap.size ≤ gs); have Zb := Aside0.mk hbox; clear hb hbox hg; have z0 : w3.cell? ⟨gs, 0, none⟩ = some (.int .i64 0) := (blk_cell Zb.out 0).trans rfl; have y0 := blk_frozen Zb.out 0; have z1 : w3.cell? ⟨gs, 1, none⟩ = some (.bool false) := (blk_cell Zb.out 1).trans rfl; have y1 := blk_frozen Zb.out 1; have z2 : w3.cell? ⟨gs, 2, none⟩ = some (.int .i64 0) := (blk_cell Zb.out 2).trans rfl; have y2 := blk_frozen Zb.out 2; have z3 : w3.cell? ⟨gs, 3, none⟩ = some (.slice none 0 0) := (blk_cell Zb.out 3).trans rfl; have y3 := blk_frozen Zb.out 3; skip)
        refine hide_ (fun W => Below wr.heap.size wr W ∧ W.heap[gs]? = some (.cells #[.int .i64 x.f0, .bool x.f1, .int .i64 x.f2, .slice A9 x.f3.length c9] 63 (0, 0)) ∧ gs ≠ b) ⟨by with_reducible repeat (first | exact HW.out | refine below_set ?_ G.out), by refine blk_put (cs := #[.int .i64 x.f0, .bool x.f1, .int .i64 x.f2, .slice none 0 0]) ?_ 3 _ rfl; refine blk_put (cs := #[.int .i64 x.f0, .bool x.f1, .int .i64 0, .slice none 0 0]) ?_ 2 _ rfl; refine blk_put (cs := #[.int .i64 x.f0, .bool false, .int .i64 0, .slice none 0 0]) ?_ 1 _ rfl; refine blk_put (cs := #[.int .i64 0, .bool false, .int .i64 0, .slice none 0 0]) ?_ 0 _ rfl; exact Zb.out, by have h1 := G.out; have h2 := HP.out.pen.lt; omega⟩ ?_
        intro w4 ⟨hb, hz, hne⟩
        have S4 := Aside0.mk (HP.out.below hb)
        have BZ := Aside0.mk hz
        have HNE := Aside0.mk hne
        have b0 : w4.cell? ⟨gs, 0, none⟩ = some (.int .i64 x.f0) := (blk_cell hz 0).trans rfl
        have HLE_ := Aside0.mk (show L.length + 300 ≤ 140737488355328 from HLL.out)
        have HIN_ := Aside0.mk (show ∀ z ∈ [x.f0], I64 z by simpa using HSI.out.w)
        clear hb hz hne HW G Zb z0 y0 z1 y1 z2 y2 z3 y3 hx0 hx1 hx2 hx3
        go_upto_region 5 with (go_at_call 38; (first | refine (nums_ w0 b _ [x.f0] 1 rfl _ rfl _ S4.out HT.out ?hin ?hle).mono ?_ | refine (nums_ w0 b _ [x.f0] 1 rfl _ rfl _ S4.out.drew HT.out ?hin ?hle).mono ?_); (case hin => exact HIN_.out); (case hle => have h9 := HLE_.out; omega); rintro e w5 ⟨rfl, h_, k_⟩; have S5 := Aside0.mk h_; replace BZ := Aside0.mk (Oth.blk k_ BZ.out HNE.out (by decide)); have b1 : w5.cell? ⟨gs, 1, none⟩ = some (.bool x.f1) := (blk_cell BZ.out 1).trans rfl; clear h_ k_ b0)
        replace HLE_ := Aside0.mk (show (L ++ numsT [x.f0]).length + 270 ≤ 140737488355328 by have h9 := HLL.out; have h8 := numsT_le [x.f0] HIN_.out 1 rfl; rw [List.length_append]; omega)
        go_upto_region 6 with (go_at_call 39; refine (letter_ w0 b _ x.f1 100 117 _ S5.out ?hle).mono ?_; (case hle => have h9 := HLE_.out; omega); rintro e w6 ⟨rfl, h_, k_⟩; have S6 := Aside0.mk h_; replace BZ := Aside0.mk (Oth.blk k_ BZ.out HNE.out (by decide)); have b2 : w6.cell? ⟨gs, 2, none⟩ = some (.int .i64 x.f2) := (blk_cell BZ.out 2).trans rfl; have b3 : w6.cell? ⟨gs, 3, none⟩ = some (.slice A9 x.f3.length c9) := (blk_cell BZ.out 3).trans rfl; clear h_ k_ b1)
        replace HLE_ := Aside0.mk (show (L ++ numsT [x.f0] ++ [if x.f1 = true then (100 : UInt8) else 117]).length + 260 ≤ 140737488355328 by have h9 := HLE_.out; rw [List.length_append, List.length_singleton]; omega)
        replace HIN_ := Aside0.mk (show ∀ z ∈ [x.f2, (x.f3.length : Int)], I64 z by have h9 := I64_small (show x.f3.length ≤ 1000 by have := HSI.out.n; omega); simp only [List.mem_cons, List.not_mem_nil, or_false]; rintro y (rfl | rfl); exact HSI.out.c; exact h9)
        go_upto_region 7 with (go_at_call 38; (first | refine (nums_ w0 b _ [x.f2, (x.f3.length : Int)] 2 rfl _ rfl _ S6.out HT.out ?hin ?hle).mono ?_ | refine (nums_ w0 b _ [x.f2, (x.f3.length : Int)] 2 rfl _ rfl _ S6.out.drew HT.out ?hin ?hle).mono ?_); (case hin => exact HIN_.out); (case hle => have h9 := HLE_.out; omega); rintro e w7 ⟨rfl, h_, k_⟩; have S7 := Aside0.mk h_; replace BZ := Aside0.mk (Oth.blk k_ BZ.out HNE.out (by decide)); clear b2 b3; have b3 : w7.cell? ⟨gs, 3, none⟩ = some (.slice A9 x.f3.length c9) := (blk_cell BZ.out 3).trans rfl; clear h_ k_)
        obtain ⟨M, hM⟩ : ∃ M, L ++ numsT [x.f0] ++ [if x.f1 = true then (100 : UInt8) else 117] ++ numsT [x.f2, (x.f3.length : Int)] = M := ⟨_, rfl⟩
        have HMQ := Aside0.mk hM
        have HML := Aside0.mk (show M.length + 200 ≤ 140737488355328 by rw [← hM]; have h9 := HLE_.out; have h8 := numsT_le [x.f2, (x.f3.length : Int)] HIN_.out 2 rfl; rw [List.length_append]; omega)
        rw [hM] at S7
        clear HLE_ HIN_ hM
        go_wp2_with fail
        go_loopg [49] (x.f3.length + 1) (fun kq v49 w' => ∃ j : Nat, v49 = .int .i64 (j : Int) ∧ Aside0 (j ≤ x.f3.length ∧ (kq : Int) + j = x.f3.length + 1) ∧ Aside0 (St w0 b (M ++ (x.f3.take j).flatMap backT) w'))
        case atStart => exact ⟨0, rfl, ⟨by omega⟩, ⟨by simpa using S7.out⟩⟩
        case round =>
          obtain ⟨j, rfl, HY, HP2⟩ := hrel
          cases gk with
          | zero => have := HY.out; omega
          | succ k2 =>
            by_cases d3 : (j : Int) < (x.f3.length : Int)
            · have d3b := decide_eq_true d3
              have e1 : (0 : Int) ≤ (j : Int) := by omega
              have e1b := decide_eq_true e1
              obtain ⟨bd, eb, hy0, hy1⟩ := at_T65 HC9.out (j : Int) e1 d3
              cases eb
              obtain ⟨y, hy⟩ : ∃ y, rd_T65 x.f3 (j : Int) = y := ⟨_, rfl⟩
              have hlt : j < x.f3.length := by omega
              have hget : x.f3[j]? = some y := by rw [← hy]; simp [rd_T65, hlt]
              rw [hy] at hy0 hy1
              rw [Int.toNat_natCast] at hy0 hy1
              have HYI := Aside0.mk (HSI.out.b y (List.mem_of_getElem? hget))
              have HYG := Aside0.mk hget
              replace hy0 := HP2.out.cell hy0
              replace hy1 := HP2.out.cell hy1
              have HNL := Aside0.mk (show (M ++ (x.f3.take j).flatMap backT).length + 50 ≤ 140737488355328 by
                have h9 := flat_len backT 23 (x.f3.take j) (fun z hz => backT_len (HSI.out.b z (List.mem_of_mem_take hz)))
                have h8 : (x.f3.take j).length ≤ 4 := by rw [List.length_take]; have := HSI.out.n; omega
                have h6 := HML.out
                rw [List.length_append]
                omega)
              obtain ⟨K, hK⟩ : ∃ K, M ++ (x.f3.take j).flatMap backT = K := ⟨_, rfl⟩
              have HKQ := Aside0.mk hK
              rw [hK] at HP2 HNL
              have d3' := eq_true d3
              have e1' := eq_true e1
              clear hy hlt hget hK
              go_upto_region 10 with ((with_reducible refine gate_dst (N := 7) rfl ?_); refine box_event ?hg (N := 7) ?hd (cs := #[.int .i64 0, .bool false]) (t := 65) ?hr ?_; (case hd => rfl); (case hg => rfl); (case hr => first | (go_simp; done) | (go_simp; rfl)); intro gs2 hg w3 hbox hb; have HW := Aside0.mk hb; have G := Aside0.mk (Nat.le_of_eq hg.symm : wr.heap.size ≤ gs2); have Zb := Aside0.mk hbox; clear hb hbox hg; have z0 : w3.cell? ⟨gs2, 0, none⟩ = some (.int .i64 0) := (blk_cell Zb.out 0).trans rfl; have y0 := blk_frozen Zb.out 0; have z1 : w3.cell? ⟨gs2, 1, none⟩ = some (.bool false) := (blk_cell Zb.out 1).trans rfl; have y1 := blk_frozen Zb.out 1; skip)
              refine hide_ (fun W => Below wr.heap.size wr W ∧ W.heap[gs2]? = some (.cells #[.int .i64 y.f0, .bool y.f1] 65 (0, 0)) ∧ gs2 ≠ b) ⟨by with_reducible repeat (first | exact HW.out | refine below_set ?_ G.out), by refine blk_put (cs := #[.int .i64 y.f0, .bool false]) ?_ 1 _ rfl; refine blk_put (cs := #[.int .i64 0, .bool false]) ?_ 0 _ rfl; exact Zb.out, by have h1 := G.out; have h2 := HP2.out.pen.lt; omega⟩ ?_
              intro w4 ⟨hb, hz, hne⟩
              have S4 := Aside0.mk (HP2.out.below hb)
              have BZ := Aside0.mk hz
              have HNE := Aside0.mk hne
              have b0 : w4.cell? ⟨gs2, 0, none⟩ = some (.int .i64 y.f0) := (blk_cell hz 0).trans rfl
              have HLE_ := Aside0.mk (show K.length + 50 ≤ 140737488355328 from HNL.out)
              have HIN_ := Aside0.mk (show ∀ z ∈ [y.f0], I64 z by simpa using HYI.out)
              clear hb hz hne HW G Zb z0 y0 z1 y1 hy0 hy1
              go_upto_region 11 with (go_at_call 38; (first | refine (nums_ w0 b _ [y.f0] 1 rfl _ rfl _ S4.out HT.out ?hin ?hle).mono ?_ | refine (nums_ w0 b _ [y.f0] 1 rfl _ rfl _ S4.out.drew HT.out ?hin ?hle).mono ?_); (case hin => exact HIN_.out); (case hle => have h9 := HLE_.out; omega); rintro e w5 ⟨rfl, h_, k_⟩; have S5 := Aside0.mk h_; replace BZ := Aside0.mk (Oth.blk k_ BZ.out HNE.out (by decide)); have b1 : w5.cell? ⟨gs2, 1, none⟩ = some (.bool y.f1) := (blk_cell BZ.out 1).trans rfl; clear h_ k_ b0)
              replace HLE_ := Aside0.mk (show (K ++ numsT [y.f0]).length + 20 ≤ 140737488355328 by have h9 := HNL.out; have h8 := numsT_le [y.f0] HIN_.out 1 rfl; rw [List.length_append]; omega)
              go_upto_region 12 with (go_at_call 39; refine (letter_ w0 b _ y.f1 100 117 _ S5.out ?hle).mono ?_; (case hle => have h9 := HLE_.out; omega); rintro e w6 ⟨rfl, h_, k_⟩; have S6 := Aside0.mk h_; clear h_ k_ b1)
              go_wp2_with fail
              go_roundg k2
              case measure => have := HY.out; omega
              case rel =>
                have h1 := HY.out
                have hn_ := HSI.out.n
                refine ⟨j + 1, by rw [show wrap64 ((j : Int) + 1) = ((j + 1 : Nat) : Int) by unfold wrap64; omega], ⟨by omega⟩, ⟨?_⟩⟩
                rw [flat_take backT x.f3 j y HYG.out, ← List.append_assoc, HKQ.out]
                have h2 := S6.out
                rw [List.append_assoc] at h2
                exact h2
            · have d3b := decide_eq_false d3
              go_wp2_with fail
              go_roundg k1
              case measure => have := HX.out; omega
              case rel =>
                have h1 := HX.out
                have h4 := HY.out
                have h2 := HP2.out
                rw [List.take_of_length_le (by omega)] at h2
                have hn_ := HI.out.n
                refine ⟨i + 1, by rw [show wrap64 ((i : Int) + 1) = ((i + 1 : Nat) : Int) by unfold wrap64; omega], ⟨by omega⟩, ⟨?_⟩⟩
                rw [flat_take siteT ss i x HGET.out, ← List.append_assoc, HLQ.out]
                rw [← HMQ.out] at h2
                unfold siteT
                simpa only [List.append_assoc] using h2
      · have c3b := decide_eq_false c3
        go_wp2_with fail
        go_end0
        have h1 := HX.out
        have h2 := HP.out
        rw [List.take_of_length_le (by omega)] at h2
        refine ⟨rfl, ?_⟩
        unfold cfgT
        simpa only [List.append_assoc] using h2
end Go.Proofs.YtnojgkiaolmoeaaDoor.Pen
