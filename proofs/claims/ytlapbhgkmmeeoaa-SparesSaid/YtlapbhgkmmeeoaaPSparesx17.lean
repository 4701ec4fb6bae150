/- Several texts of this proof in one file (put together by a program of this session). -/
import Derived.Test.YtlapbhgkmmeeoaaProg
import Derived.Below
import Derived.Deep.Draws
import Derived.Deep.AppendLies
import Derived.Maps.AppendAt
import Derived.OwnWalk
import Derived.Laws.BytesArg
import Derived.Laws.MakeOwn
import Derived.Laws.OwnMore
import Derived.Deep.OwnRows
import Derived.Tactics
import Derived.Lib.ConvBytes
import Derived.Laws.Slices
import Derived.WalkKit
import Derived.KernelRfl
import Derived.RowKit3
import Derived.Deep.LoopGhost
import Derived.Deep.QuietTactic
import Derived.BigQuiet
import Derived.WideLaws
import Derived.Deep.DeepCutAuto
import Derived.Deep.CutBlock
import Derived.Deep.RegionHeld3
import Derived.Laws.Rows
import Derived.Lib.AppendStr
import Derived.ArgAppend
import Derived.Laws.IdiomCopy
import Derived.OrdersHeld
import Derived.Laws.BitsLemmas
import Derived.RowKit
import Derived.WalkSpells
import Derived.StillTailTactics
import Derived.Test.YtlapbhgkmmeeoaaHand
import Derived.Test.YtlapbhgkmmeeoaaNumMath
import Derived.Test.YtlapbhgkmmeeoaaWWords
import Derived.Test.YtlapbhgkmmeeoaaWLast
import Derived.Test.YtlapbhgkmmeeoaaWTab
import Derived.Test.YtlapbhgkmmeeoaaWFour
import Derived.Test.YtlapbhgkmmeeoaaWQPut
import Derived.Test.YtlapbhgkmmeeoaaWApart
import Derived.Test.YtlapbhgkmmeeoaaWArr
import Derived.Test.YtlapbhgkmmeeoaaWZeros
import Derived.Test.YtlapbhgkmmeeoaaWFoot
import Derived.Test.YtlapbhgkmmeeoaaWKept
import Derived.Test.YtlapbhgkmmeeoaaWShare
import Derived.Test.YtlapbhgkmmeeoaaWN
import Derived.Test.YtlapbhgkmmeeoaaWFootNe
import Derived.Test.YtlapbhgkmmeeoaaWAt
import Derived.Test.YtlapbhgkmmeeoaaWEqStruct
import Derived.Test.YtlapbhgkmmeeoaaWRepsOne
import Derived.Test.YtlapbhgkmmeeoaaWInv
import Derived.Test.YtlapbhgkmmeeoaaWInvWords
import Derived.Test.YtlapbhgkmmeeoaaWGuard
import Derived.Test.YtlapbhgkmmeeoaaWNEv
import Derived.Test.YtlapbhgkmmeeoaaWMore
section
/- Contracts: what calls of these functions of the program do, each as a plain function; written by a program of this session. -/
namespace Go.Proofs.Ytlapbhgkmmeeoaa.PSpares
open Go.RowKit Go.Proofs.YtlapbhgkmmeeoaaW.PrintWords Go.Proofs.YtlapbhgkmmeeoaaW.PrintLast Go.Proofs.YtlapbhgkmmeeoaaW.PrintMore
attribute [local go_sem] max2_int min2_int max_two min_two max_three min_three max_four min_four   -- for this text's walks alone
set_option linter.unusedVariables false
set_option linter.unusedSimpArgs false



def errW : Option Int → Value
 | none => .nilIface
 | some c => .iface 0 (.int .i64 c)
theorem errW_none : errW none = .nilIface := rfl
theorem errW_some (c : Int) : errW (some c) = .iface 0 (.int .i64 c) := rfl

theorem info53 : (Try.prog.info? 53).map (fun i => (i.zero, i.size, i.bytes)) = some (some (.agg #[(.int .i64 0), (.bool false), (.int .i64 0), (.slice none 0 0)]), 4, 48) := by kernel_rfl
theorem info70 : (Try.prog.info? 70).map (fun i => (i.zero, i.size, i.bytes)) = some (some (.agg #[(.int .i64 0), (.int .i64 0)]), 2, 16) := by kernel_rfl
theorem info83 : (Try.prog.info? 83).map (fun i => (i.zero, i.size, i.bytes)) = some (some (.agg #[(.int .i64 0), (.bool false)]), 2, 16) := by kernel_rfl
theorem info86 : (Try.prog.info? 86).map (fun i => (i.zero, i.size, i.bytes)) = some (some (.agg #[(.bool false), (.int .i64 0)]), 2, 16) := by kernel_rfl
theorem info91 : (Try.prog.info? 91).map (fun i => (i.zero, i.size, i.bytes)) = some (some (.agg #[(.int .i64 0), (.int .i64 0), (.int .i64 0), (.int .i64 0), (.int .i64 0)]), 5, 40) := by kernel_rfl
-- the values' own types
/-! #### struct type 83 -/
structure S83 where
 f0 : Int
 f1 : Bool
def z83 : S83 := ⟨(0 : Int), false⟩
def k83 : Kd S83 := Kd.iso (Kd.pair (Kd.int .i64) Kd.bool) (fun x : S83 => (x.f0, x.f1))
theorem k83_open {w : World} {x : S83} {cs : List Value} (h : k83.K w x cs) : cs = [.int .i64 x.f0, .bool x.f1] := by
 obtain ⟨_, _, rfl, rfl, rfl⟩ := h
 exact rfl
theorem k83_mkM (w : World) (base : Nat) (ok : Nat → Prop) (x : S83)  : k83.M w base ok x [.int .i64 x.f0, .bool x.f1] := ⟨[.int .i64 x.f0], [.bool x.f1], rfl, rfl, rfl⟩
def rd_T83 (xs : List S83) (i : Int) : S83 := xs.getD i.toNat z83
theorem at_T83 {w : World} {A : Option Addr} {n : Nat} {xs : List S83} (h : Kd.C k83 w A n xs) (i : Int) (h0 : 0 ≤ i) (h1 : i < n) : ∃ ad , A = some ad ∧ w.cell? (ad.add (i.toNat * 2)) = some (.int .i64 (rd_T83 xs i).f0) ∧ w.cell? ⟨(ad.add (i.toNat * 2)).block, (ad.add (i.toNat * 2)).off + 1, none⟩ = some (.bool (rd_T83 xs i).f1) := by
 obtain ⟨ad, c, e, _, hK, hc0⟩ := Kd.C_get h z83 i h0 h1
 have hc : ∀ j u, c[j]? = some u → w.cell? (ad.add (i.toNat * 2 + j)) = some u := hc0
 obtain rfl := k83_open hK
 exact ⟨ad, e, hc 0 _ rfl, by rw [← add_field _ _ 1 (by omega)]; exact hc 1 _ rfl⟩

/-! #### struct type 53 -/
structure S53 where
 f0 : Int
 f1 : Bool
 f2 : Int
 f3 : (List S83)
def z53 : S53 := ⟨(0 : Int), false, (0 : Int), ([] : List S83)⟩
def k53 : Kd S53 := Kd.iso (Kd.pair (Kd.int .i64) (Kd.pair Kd.bool (Kd.pair (Kd.int .i64) (Kd.slice 83 k83)))) (fun x : S53 => (x.f0, x.f1, x.f2, x.f3))
theorem k53_open {w : World} {x : S53} {cs : List Value} (h : k53.K w x cs) : ∃ A3 c3, cs = [.int .i64 x.f0, .bool x.f1, .int .i64 x.f2, .slice A3 x.f3.length c3] ∧ x.f3.length ≤ c3 ∧ k83.C w A3 x.f3.length x.f3 := by
 obtain ⟨_, _, rfl, rfl, ⟨_, _, rfl, rfl, ⟨_, _, rfl, rfl, ⟨A3, c3, rfl, l3, g3⟩⟩⟩⟩ := h
 exact ⟨A3, c3, rfl, l3, g3⟩
theorem k53_mk (w : World) (x : S53) {A3 : Option Addr} {c3 : Nat} (l3 : x.f3.length ≤ c3) (g3 : k83.C w A3 x.f3.length x.f3) : k53.K w x [.int .i64 x.f0, .bool x.f1, .int .i64 x.f2, .slice A3 x.f3.length c3] := ⟨[.int .i64 x.f0], [.bool x.f1, .int .i64 x.f2, .slice A3 x.f3.length c3], rfl, rfl, ⟨[.bool x.f1], [.int .i64 x.f2, .slice A3 x.f3.length c3], rfl, rfl, ⟨[.int .i64 x.f2], [.slice A3 x.f3.length c3], rfl, rfl, ⟨A3, c3, rfl, l3, g3⟩⟩⟩⟩
theorem k53_mkM (w : World) (base : Nat) (ok : Nat → Prop) (x : S53) {v3 : Value} (g3 : k83.R 83 w base ok v3 x.f3) : k53.M w base ok x [.int .i64 x.f0, .bool x.f1, .int .i64 x.f2, v3] := ⟨[.int .i64 x.f0], [.bool x.f1, .int .i64 x.f2, v3], rfl, rfl, ⟨[.bool x.f1], [.int .i64 x.f2, v3], rfl, rfl, ⟨[.int .i64 x.f2], [v3], rfl, rfl, ⟨v3, rfl, g3⟩⟩⟩⟩
theorem k53_mkF (W : World) (ok : Nat → Prop) (x : S53) {A3 : Option Addr} {c3 : Nat} (l3 : x.f3.length ≤ c3) (g3 : Kd.F k83 W ok A3 x.f3.length x.f3) : Kd.FK k53 W ok x [.int .i64 x.f0, .bool x.f1, .int .i64 x.f2, .slice A3 x.f3.length c3] := fun W2 hW => k53_mk W2 x l3 (g3 W2 hW)
def rd_T53 (xs : List S53) (i : Int) : S53 := xs.getD i.toNat z53
theorem at_T53 {w : World} {A : Option Addr} {n : Nat} {xs : List S53} (h : Kd.C k53 w A n xs) (i : Int) (h0 : 0 ≤ i) (h1 : i < n) : ∃ ad A3 c3, A = some ad ∧ w.cell? (ad.add (i.toNat * 4)) = some (.int .i64 (rd_T53 xs i).f0) ∧ w.cell? ⟨(ad.add (i.toNat * 4)).block, (ad.add (i.toNat * 4)).off + 1, none⟩ = some (.bool (rd_T53 xs i).f1) ∧ w.cell? ⟨(ad.add (i.toNat * 4)).block, (ad.add (i.toNat * 4)).off + 2, none⟩ = some (.int .i64 (rd_T53 xs i).f2) ∧ w.cell? ⟨(ad.add (i.toNat * 4)).block, (ad.add (i.toNat * 4)).off + 3, none⟩ = some (.slice A3 (rd_T53 xs i).f3.length c3) ∧ (rd_T53 xs i).f3.length ≤ c3 ∧ k83.C w A3 (rd_T53 xs i).f3.length (rd_T53 xs i).f3 := by
 obtain ⟨ad, c, e, _, hK, hc0⟩ := Kd.C_get h z53 i h0 h1
 have hc : ∀ j u, c[j]? = some u → w.cell? (ad.add (i.toNat * 4 + j)) = some u := hc0
 obtain ⟨A3, c3, rfl, l3, g3⟩ := k53_open hK
 exact ⟨ad, A3, c3, e, hc 0 _ rfl, by rw [← add_field _ _ 1 (by omega)]; exact hc 1 _ rfl, by rw [← add_field _ _ 2 (by omega)]; exact hc 2 _ rfl, by rw [← add_field _ _ 3 (by omega)]; exact hc 3 _ rfl, l3, g3⟩

/-! #### struct type 24 -/
structure S24 where
 f0 : Int
 f1 : (List S53)
def k24 : Kd S24 := Kd.iso (Kd.pair (Kd.int .i64) (Kd.slice 53 k53)) (fun x : S24 => (x.f0, x.f1))
theorem k24_open {w : World} {x : S24} {cs : List Value} (h : k24.K w x cs) : ∃ A1 c1, cs = [.int .i64 x.f0, .slice A1 x.f1.length c1] ∧ x.f1.length ≤ c1 ∧ k53.C w A1 x.f1.length x.f1 := by
 obtain ⟨_, _, rfl, rfl, ⟨A1, c1, rfl, l1, g1⟩⟩ := h
 exact ⟨A1, c1, rfl, l1, g1⟩
/-! #### struct type 86 -/
structure S86 where
 f0 : Bool
 f1 : Int
def z86 : S86 := ⟨false, (0 : Int)⟩
def k86 : Kd S86 := Kd.iso (Kd.pair Kd.bool (Kd.int .i64)) (fun x : S86 => (x.f0, x.f1))
theorem k86_open {w : World} {x : S86} {cs : List Value} (h : k86.K w x cs) : cs = [.bool x.f0, .int .i64 x.f1] := by
 obtain ⟨_, _, rfl, rfl, rfl⟩ := h
 exact rfl
theorem k86_mkM (w : World) (base : Nat) (ok : Nat → Prop) (x : S86)  : k86.M w base ok x [.bool x.f0, .int .i64 x.f1] := ⟨[.bool x.f0], [.int .i64 x.f1], rfl, rfl, rfl⟩
def rd_T86 (xs : List S86) (i : Int) : S86 := xs.getD i.toNat z86
theorem at_T86 {w : World} {A : Option Addr} {n : Nat} {xs : List S86} (h : Kd.C k86 w A n xs) (i : Int) (h0 : 0 ≤ i) (h1 : i < n) : ∃ ad , A = some ad ∧ w.cell? (ad.add (i.toNat * 2)) = some (.bool (rd_T86 xs i).f0) ∧ w.cell? ⟨(ad.add (i.toNat * 2)).block, (ad.add (i.toNat * 2)).off + 1, none⟩ = some (.int .i64 (rd_T86 xs i).f1) := by
 obtain ⟨ad, c, e, _, hK, hc0⟩ := Kd.C_get h z86 i h0 h1
 have hc : ∀ j u, c[j]? = some u → w.cell? (ad.add (i.toNat * 2 + j)) = some u := hc0
 obtain rfl := k86_open hK
 exact ⟨ad, e, hc 0 _ rfl, by rw [← add_field _ _ 1 (by omega)]; exact hc 1 _ rfl⟩

/-! #### struct type 89 -/
structure S89 where
 f0 : Int
 f1 : Int
 f2 : Int
 f3 : Int
def z89 : S89 := ⟨(0 : Int), (0 : Int), (0 : Int), (0 : Int)⟩
def k89 : Kd S89 := Kd.iso (Kd.pair (Kd.int .i64) (Kd.pair (Kd.int .i64) (Kd.pair (Kd.int .i64) (Kd.int .i64)))) (fun x : S89 => (x.f0, x.f1, x.f2, x.f3))
theorem k89_open {w : World} {x : S89} {cs : List Value} (h : k89.K w x cs) : cs = [.int .i64 x.f0, .int .i64 x.f1, .int .i64 x.f2, .int .i64 x.f3] := by
 obtain ⟨_, _, rfl, rfl, ⟨_, _, rfl, rfl, ⟨_, _, rfl, rfl, rfl⟩⟩⟩ := h
 exact rfl
theorem k89_openM {w : World} {base : Nat} {ok : Nat → Prop} {x : S89} {cs : List Value} (h : k89.M w base ok x cs) : cs = [.int .i64 x.f0, .int .i64 x.f1, .int .i64 x.f2, .int .i64 x.f3] := by
 obtain ⟨_, _, rfl, rfl, ⟨_, _, rfl, rfl, ⟨_, _, rfl, rfl, rfl⟩⟩⟩ := h
 exact rfl
theorem k89_mkM (w : World) (base : Nat) (ok : Nat → Prop) (x : S89)  : k89.M w base ok x [.int .i64 x.f0, .int .i64 x.f1, .int .i64 x.f2, .int .i64 x.f3] := ⟨[.int .i64 x.f0], [.int .i64 x.f1, .int .i64 x.f2, .int .i64 x.f3], rfl, rfl, ⟨[.int .i64 x.f1], [.int .i64 x.f2, .int .i64 x.f3], rfl, rfl, ⟨[.int .i64 x.f2], [.int .i64 x.f3], rfl, rfl, rfl⟩⟩⟩
/-! #### struct type 91 -/
structure S91 where
 f0 : S89
 f1 : Int
def z91 : S91 := ⟨z89, (0 : Int)⟩
def k91 : Kd S91 := Kd.iso (Kd.pair k89 (Kd.int .i64)) (fun x : S91 => (x.f0, x.f1))
theorem k91_open {w : World} {x : S91} {cs : List Value} (h : k91.K w x cs) : cs = [.int .i64 x.f0.f0, .int .i64 x.f0.f1, .int .i64 x.f0.f2, .int .i64 x.f0.f3, .int .i64 x.f1] := by
 obtain ⟨_, _, rfl, s0, rfl⟩ := h
 obtain rfl := k89_open s0
 exact rfl
theorem k91_openM {w : World} {base : Nat} {ok : Nat → Prop} {x : S91} {cs : List Value} (h : k91.M w base ok x cs) : cs = [.int .i64 x.f0.f0, .int .i64 x.f0.f1, .int .i64 x.f0.f2, .int .i64 x.f0.f3, .int .i64 x.f1] := by
 obtain ⟨_, _, rfl, s0, rfl⟩ := h
 obtain rfl := k89_openM s0
 exact rfl
theorem k91_mkM (w : World) (base : Nat) (ok : Nat → Prop) (x : S91)  : k91.M w base ok x [.int .i64 x.f0.f0, .int .i64 x.f0.f1, .int .i64 x.f0.f2, .int .i64 x.f0.f3, .int .i64 x.f1] := ⟨[.int .i64 x.f0.f0, .int .i64 x.f0.f1, .int .i64 x.f0.f2, .int .i64 x.f0.f3], [.int .i64 x.f1], rfl, (k89_mkM w base ok x.f0 ), rfl⟩
def rd_T91 (xs : List S91) (i : Int) : S91 := xs.getD i.toNat z91
theorem at_T91 {w : World} {A : Option Addr} {n : Nat} {xs : List S91} (h : Kd.C k91 w A n xs) (i : Int) (h0 : 0 ≤ i) (h1 : i < n) : ∃ ad , A = some ad ∧ w.cell? (ad.add (i.toNat * 5)) = some (.int .i64 (rd_T91 xs i).f0.f0) ∧ w.cell? ⟨(ad.add (i.toNat * 5)).block, (ad.add (i.toNat * 5)).off + 1, none⟩ = some (.int .i64 (rd_T91 xs i).f0.f1) ∧ w.cell? ⟨(ad.add (i.toNat * 5)).block, (ad.add (i.toNat * 5)).off + 2, none⟩ = some (.int .i64 (rd_T91 xs i).f0.f2) ∧ w.cell? ⟨(ad.add (i.toNat * 5)).block, (ad.add (i.toNat * 5)).off + 3, none⟩ = some (.int .i64 (rd_T91 xs i).f0.f3) ∧ w.cell? ⟨(ad.add (i.toNat * 5)).block, (ad.add (i.toNat * 5)).off + 4, none⟩ = some (.int .i64 (rd_T91 xs i).f1) := by
 obtain ⟨ad, c, e, _, hK, hc0⟩ := Kd.C_get h z91 i h0 h1
 have hc : ∀ j u, c[j]? = some u → w.cell? (ad.add (i.toNat * 5 + j)) = some u := hc0
 obtain rfl := k91_open hK
 exact ⟨ad, e, hc 0 _ rfl, by rw [← add_field _ _ 1 (by omega)]; exact hc 1 _ rfl, by rw [← add_field _ _ 2 (by omega)]; exact hc 2 _ rfl, by rw [← add_field _ _ 3 (by omega)]; exact hc 3 _ rfl, by rw [← add_field _ _ 4 (by omega)]; exact hc 4 _ rfl⟩

/-! #### struct type 48 -/
structure S48 where
 f0 : Int
 f1 : Int
 f2 : Int
 f3 : Int
 f4 : Int
def z48 : S48 := ⟨(0 : Int), (0 : Int), (0 : Int), (0 : Int), (0 : Int)⟩
def k48 : Kd S48 := Kd.iso (Kd.pair (Kd.int .i64) (Kd.pair (Kd.int .i64) (Kd.pair (Kd.int .i64) (Kd.pair (Kd.int .i64) (Kd.int .i64))))) (fun x : S48 => (x.f0, x.f1, x.f2, x.f3, x.f4))
theorem k48_open {w : World} {x : S48} {cs : List Value} (h : k48.K w x cs) : cs = [.int .i64 x.f0, .int .i64 x.f1, .int .i64 x.f2, .int .i64 x.f3, .int .i64 x.f4] := by
 obtain ⟨_, _, rfl, rfl, ⟨_, _, rfl, rfl, ⟨_, _, rfl, rfl, ⟨_, _, rfl, rfl, rfl⟩⟩⟩⟩ := h
 exact rfl
theorem k48_mkM (w : World) (base : Nat) (ok : Nat → Prop) (x : S48)  : k48.M w base ok x [.int .i64 x.f0, .int .i64 x.f1, .int .i64 x.f2, .int .i64 x.f3, .int .i64 x.f4] := ⟨[.int .i64 x.f0], [.int .i64 x.f1, .int .i64 x.f2, .int .i64 x.f3, .int .i64 x.f4], rfl, rfl, ⟨[.int .i64 x.f1], [.int .i64 x.f2, .int .i64 x.f3, .int .i64 x.f4], rfl, rfl, ⟨[.int .i64 x.f2], [.int .i64 x.f3, .int .i64 x.f4], rfl, rfl, ⟨[.int .i64 x.f3], [.int .i64 x.f4], rfl, rfl, rfl⟩⟩⟩⟩
/-! #### struct type 50 -/
structure S50 where
 f0 : S48
 f1 : Int
 f2 : Bool
 f3 : Int
 f4 : Int
def z50 : S50 := ⟨z48, (0 : Int), false, (0 : Int), (0 : Int)⟩
def k50 : Kd S50 := Kd.iso (Kd.pair k48 (Kd.pair (Kd.int .i64) (Kd.pair Kd.bool (Kd.pair (Kd.int .i64) (Kd.int .i64))))) (fun x : S50 => (x.f0, x.f1, x.f2, x.f3, x.f4))
theorem k50_open {w : World} {x : S50} {cs : List Value} (h : k50.K w x cs) : cs = [.int .i64 x.f0.f0, .int .i64 x.f0.f1, .int .i64 x.f0.f2, .int .i64 x.f0.f3, .int .i64 x.f0.f4, .int .i64 x.f1, .bool x.f2, .int .i64 x.f3, .int .i64 x.f4] := by
 obtain ⟨_, _, rfl, s0, ⟨_, _, rfl, rfl, ⟨_, _, rfl, rfl, ⟨_, _, rfl, rfl, rfl⟩⟩⟩⟩ := h
 obtain rfl := k48_open s0
 exact rfl
theorem k50_mkM (w : World) (base : Nat) (ok : Nat → Prop) (x : S50)  : k50.M w base ok x [.int .i64 x.f0.f0, .int .i64 x.f0.f1, .int .i64 x.f0.f2, .int .i64 x.f0.f3, .int .i64 x.f0.f4, .int .i64 x.f1, .bool x.f2, .int .i64 x.f3, .int .i64 x.f4] := ⟨[.int .i64 x.f0.f0, .int .i64 x.f0.f1, .int .i64 x.f0.f2, .int .i64 x.f0.f3, .int .i64 x.f0.f4], [.int .i64 x.f1, .bool x.f2, .int .i64 x.f3, .int .i64 x.f4], rfl, (k48_mkM w base ok x.f0 ), ⟨[.int .i64 x.f1], [.bool x.f2, .int .i64 x.f3, .int .i64 x.f4], rfl, rfl, ⟨[.bool x.f2], [.int .i64 x.f3, .int .i64 x.f4], rfl, rfl, ⟨[.int .i64 x.f3], [.int .i64 x.f4], rfl, rfl, rfl⟩⟩⟩⟩
def rd_T50 (xs : List S50) (i : Int) : S50 := xs.getD i.toNat z50
theorem at_T50 {w : World} {A : Option Addr} {n : Nat} {xs : List S50} (h : Kd.C k50 w A n xs) (i : Int) (h0 : 0 ≤ i) (h1 : i < n) : ∃ ad , A = some ad ∧ w.cell? (ad.add (i.toNat * 9)) = some (.int .i64 (rd_T50 xs i).f0.f0) ∧ w.cell? ⟨(ad.add (i.toNat * 9)).block, (ad.add (i.toNat * 9)).off + 1, none⟩ = some (.int .i64 (rd_T50 xs i).f0.f1) ∧ w.cell? ⟨(ad.add (i.toNat * 9)).block, (ad.add (i.toNat * 9)).off + 2, none⟩ = some (.int .i64 (rd_T50 xs i).f0.f2) ∧ w.cell? ⟨(ad.add (i.toNat * 9)).block, (ad.add (i.toNat * 9)).off + 3, none⟩ = some (.int .i64 (rd_T50 xs i).f0.f3) ∧ w.cell? ⟨(ad.add (i.toNat * 9)).block, (ad.add (i.toNat * 9)).off + 4, none⟩ = some (.int .i64 (rd_T50 xs i).f0.f4) ∧ w.cell? ⟨(ad.add (i.toNat * 9)).block, (ad.add (i.toNat * 9)).off + 5, none⟩ = some (.int .i64 (rd_T50 xs i).f1) ∧ w.cell? ⟨(ad.add (i.toNat * 9)).block, (ad.add (i.toNat * 9)).off + 6, none⟩ = some (.bool (rd_T50 xs i).f2) ∧ w.cell? ⟨(ad.add (i.toNat * 9)).block, (ad.add (i.toNat * 9)).off + 7, none⟩ = some (.int .i64 (rd_T50 xs i).f3) ∧ w.cell? ⟨(ad.add (i.toNat * 9)).block, (ad.add (i.toNat * 9)).off + 8, none⟩ = some (.int .i64 (rd_T50 xs i).f4) := by
 obtain ⟨ad, c, e, _, hK, hc0⟩ := Kd.C_get h z50 i h0 h1
 have hc : ∀ j u, c[j]? = some u → w.cell? (ad.add (i.toNat * 9 + j)) = some u := hc0
 obtain rfl := k50_open hK
 exact ⟨ad, e, hc 0 _ rfl, by rw [← add_field _ _ 1 (by omega)]; exact hc 1 _ rfl, by rw [← add_field _ _ 2 (by omega)]; exact hc 2 _ rfl, by rw [← add_field _ _ 3 (by omega)]; exact hc 3 _ rfl, by rw [← add_field _ _ 4 (by omega)]; exact hc 4 _ rfl, by rw [← add_field _ _ 5 (by omega)]; exact hc 5 _ rfl, by rw [← add_field _ _ 6 (by omega)]; exact hc 6 _ rfl, by rw [← add_field _ _ 7 (by omega)]; exact hc 7 _ rfl, by rw [← add_field _ _ 8 (by omega)]; exact hc 8 _ rfl⟩

/-! #### struct type 29 -/
structure S29 where
 f0 : Int
 f1 : S24
 f2 : (List S86)
 f3 : (List S91)
 f4 : (List S50)
 f5 : Int
def k29 : Kd S29 := Kd.iso (Kd.pair (Kd.int .i64) (Kd.pair k24 (Kd.pair (Kd.slice 86 k86) (Kd.pair (Kd.slice 91 k91) (Kd.pair (Kd.slice 50 k50) (Kd.int .i64)))))) (fun x : S29 => (x.f0, x.f1, x.f2, x.f3, x.f4, x.f5))
theorem k29_open {w : World} {x : S29} {cs : List Value} (h : k29.K w x cs) : ∃ A2 c2 A3 c3 A4 c4 A5 c5, cs = [.int .i64 x.f0, .int .i64 x.f1.f0, .slice A2 x.f1.f1.length c2, .slice A3 x.f2.length c3, .slice A4 x.f3.length c4, .slice A5 x.f4.length c5, .int .i64 x.f5] ∧ x.f1.f1.length ≤ c2 ∧ k53.C w A2 x.f1.f1.length x.f1.f1 ∧ x.f2.length ≤ c3 ∧ k86.C w A3 x.f2.length x.f2 ∧ x.f3.length ≤ c4 ∧ k91.C w A4 x.f3.length x.f3 ∧ x.f4.length ≤ c5 ∧ k50.C w A5 x.f4.length x.f4 := by
 obtain ⟨_, _, rfl, rfl, ⟨_, _, rfl, s1, ⟨_, _, rfl, ⟨A3, c3, rfl, l3, g3⟩, ⟨_, _, rfl, ⟨A4, c4, rfl, l4, g4⟩, ⟨_, _, rfl, ⟨A5, c5, rfl, l5, g5⟩, rfl⟩⟩⟩⟩⟩ := h
 obtain ⟨A2, c2, rfl, l2, g2⟩ := k24_open s1
 exact ⟨A2, c2, A3, c3, A4, c4, A5, c5, rfl, l2, g2, l3, g3, l4, g4, l5, g5⟩
/-! #### struct type 70 -/
structure S70 where
 f0 : Int
 f1 : Int
def z70 : S70 := ⟨(0 : Int), (0 : Int)⟩
def k70 : Kd S70 := Kd.iso (Kd.pair (Kd.int .i64) (Kd.int .i64)) (fun x : S70 => (x.f0, x.f1))
theorem k70_open {w : World} {x : S70} {cs : List Value} (h : k70.K w x cs) : cs = [.int .i64 x.f0, .int .i64 x.f1] := by
 obtain ⟨_, _, rfl, rfl, rfl⟩ := h
 exact rfl
theorem k70_openM {w : World} {base : Nat} {ok : Nat → Prop} {x : S70} {cs : List Value} (h : k70.M w base ok x cs) : cs = [.int .i64 x.f0, .int .i64 x.f1] := by
 obtain ⟨_, _, rfl, rfl, rfl⟩ := h
 exact rfl
theorem k70_mkM (w : World) (base : Nat) (ok : Nat → Prop) (x : S70)  : k70.M w base ok x [.int .i64 x.f0, .int .i64 x.f1] := ⟨[.int .i64 x.f0], [.int .i64 x.f1], rfl, rfl, rfl⟩
def rd_T70 (xs : List S70) (i : Int) : S70 := xs.getD i.toNat z70
theorem at_T70 {w : World} {A : Option Addr} {n : Nat} {xs : List S70} (h : Kd.C k70 w A n xs) (i : Int) (h0 : 0 ≤ i) (h1 : i < n) : ∃ ad , A = some ad ∧ w.cell? (ad.add (i.toNat * 2)) = some (.int .i64 (rd_T70 xs i).f0) ∧ w.cell? ⟨(ad.add (i.toNat * 2)).block, (ad.add (i.toNat * 2)).off + 1, none⟩ = some (.int .i64 (rd_T70 xs i).f1) := by
 obtain ⟨ad, c, e, _, hK, hc0⟩ := Kd.C_get h z70 i h0 h1
 have hc : ∀ j u, c[j]? = some u → w.cell? (ad.add (i.toNat * 2 + j)) = some u := hc0
 obtain rfl := k70_open hK
 exact ⟨ad, e, hc 0 _ rfl, by rw [← add_field _ _ 1 (by omega)]; exact hc 1 _ rfl⟩

end Go.Proofs.Ytlapbhgkmmeeoaa.PSpares
end
section
/- Contracts: what calls of these functions of the program do, each as a plain function; written by a program of this session. -/
namespace Go.Proofs.Ytlapbhgkmmeeoaa.PSpares
open Go.RowKit Go.Proofs.YtlapbhgkmmeeoaaW.PrintWords Go.Proofs.YtlapbhgkmmeeoaaW.PrintLast Go.Proofs.YtlapbhgkmmeeoaaW.PrintMore
attribute [local go_sem] max2_int min2_int max_two min_two max_three min_three max_four min_four   -- for this text's walks alone
set_option linter.unusedVariables false
set_option linter.unusedSimpArgs false

/-! ### wharfagelaw0_CopyConfig: function 15 -/
def wharfagelaw0_CopyConfig.l0 : Nat → Int → Int → List (S53) → Int → List (S53) → Option (Int × (List (S53)))
 | 0, _, _, _, _, _ => none
 | k + 1, x4, x102000, x102001, x104000, x104001 => if x4 < (x102001.length : Int) then (if 0 ≤ x4 then ((some (([] : List (S83)) : List (S83))).bind fun y106 => (if y106.length + ((rd_T53 x102001 x4).f3).length < 8796093022208 then (if x104001.length < 2932031007402 then (wharfagelaw0_CopyConfig.l0 k (wrap64 (x4 + 1)) x102000 x102001 x104000 (x104001 ++ [(⟨(rd_T53 x102001 x4).f0, (rd_T53 x102001 x4).f1, (rd_T53 x102001 x4).f2, (y106 ++ ((rd_T53 x102001 x4).f3))⟩ : S53)])) else (none)) else (none))) else (none)) else (some (x104000, x104001))
def wharfagelaw0_CopyConfig.f (k : Nat) (a0_0 : Int) (l0_1 : List (S53)) : Option (Int × (List (S53))) := wharfagelaw0_CopyConfig.l0 k 0 a0_0 l0_1 a0_0 ([] : List (S53))
theorem wharfagelaw0_CopyConfig.mono_l : ∀ k, (∀ y0 y1 y2 y3 y4, LeO (wharfagelaw0_CopyConfig.l0 k y0 y1 y2 y3 y4) (wharfagelaw0_CopyConfig.l0 (k + 1) y0 y1 y2 y3 y4))
 | 0 => fun _ _ _ _ _ r h => by simp [wharfagelaw0_CopyConfig.l0] at h
 | k + 1 => by
  have ih0 := wharfagelaw0_CopyConfig.mono_l k
  ·intro y0 y1 y2 y3 y4
   unfold wharfagelaw0_CopyConfig.l0
   repeat' first
   | (with_reducible exact ih0 _ _ _ _ _)
   | (with_reducible exact LeO.refl _)
   | (with_reducible exact LeO.none _)
   | (with_reducible refine LeO.ite ?_ ?_)
   | (with_reducible refine LeO.bind ?_ (fun _ => ?_))
   | exact ih0 _ _ _ _ _
   | exact LeO.none _
   | refine LeO.ite ?_ ?_
   | refine LeO.bind ?_ (fun _ => ?_)
theorem wharfagelaw0_CopyConfig.mono : ∀ a0 a1 k, LeO (wharfagelaw0_CopyConfig.f k a0 a1) (wharfagelaw0_CopyConfig.f (k + 1) a0 a1) := by
 intro a0 a1 k
 have ih0 := wharfagelaw0_CopyConfig.mono_l k
 unfold wharfagelaw0_CopyConfig.f
 repeat' first
   | (with_reducible exact ih0 _ _ _ _ _)
   | (with_reducible exact LeO.refl _)
   | (with_reducible exact LeO.none _)
   | (with_reducible refine LeO.ite ?_ ?_)
   | (with_reducible refine LeO.bind ?_ (fun _ => ?_))
   | exact ih0 _ _ _ _ _
   | exact LeO.none _
   | refine LeO.ite ?_ ?_
   | refine LeO.bind ?_ (fun _ => ?_)
set_option maxHeartbeats 8000000 in
set_option maxRecDepth 100000 in
theorem wharfagelaw0_CopyConfig.calls (k : Nat) (a0_0 : Int) (A0_1 : Option Addr) (c0_1 : Nat) (l0_1 : List (S53)) (r1 : Int) (r2 : List (S53)) (w : World) (hr0_1 : Kd.C k53 w A0_1 l0_1.length l0_1) (hc0_1 : l0_1.length ≤ c0_1) (h : wharfagelaw0_CopyConfig.f k a0_0 l0_1 = some (r1, r2)) :
  Calls Try.prog 15 #[.agg #[.int .i64 a0_0, .slice A0_1 l0_1.length c0_1]] w fun e w' => ∃ v1_ : Value, e = .returned (.agg #[.int .i64 r1, v1_]) ∧ Kd.S k53 53 w' w.heap.size (fun _ => True) v1_ r2 ∧ Below w.heap.size w w' := by
 have hu24 := Try.underlying24
 have hu53 := Try.underlying53
 have HR0_1 := Aside0.mk hr0_1
 have HC0_1 := Aside0.mk hc0_1
 clear hr0_1 hc0_1
 have HB := Aside0.mk (Below.refl w.heap.size w)
 have H : (wharfagelaw0_CopyConfig.l0 k 0 a0_0 l0_1 a0_0 ([] : List (S53))) = some (r1, r2) := h
 clear h
 have H' := Aside0.mk H
 clear H
 go_enter Try.func15, Try.ntmps15
 go_wp2_with (first | ((with_reducible refine gate_dst (N := 1) rfl ?_); refine box_event ?hg (N := 1) ?hd (cs := #[.int .i64 a0_0, .slice A0_1 l0_1.length c0_1]) (t := 24) ?hr ?_; (case hd => rfl); (case hg => rfl); (case hr => first | (go_simp; done) | (go_simp; rfl)); intro g1 hg w2 hbox hb; have n0_ := Aside0.mk (below_step (by repeat (first | (with_reducible first | exact HB.out | apply below_alloc | apply pw_below_drewN | apply below_drew1) | exact HB.out)) hb); have n1_ := Aside0.mk (hbox); have n2_ := Aside0.mk ((by rw [hg]; exact (below_size (by repeat (first | (with_reducible first | exact HB.out | apply below_alloc | apply pw_below_drewN | apply below_drew1) | exact HB.out))) : w.heap.size ≤ g1)); have n3_ := Aside0.mk ((by rw [hg]; exact (below_size (by repeat (first | (with_reducible first | exact HB.out | apply below_alloc | apply pw_below_drewN | apply below_drew1) | exact HB.out))) : w.heap.size ≤ g1)); clear HB; have HB := n0_; have K1 := n1_; have G0 := n2_; have E0 := n3_; clear n0_ n1_ n2_ n3_; clear hb hbox hg) | ((with_reducible refine gate_dst (N := 2) rfl ?_); refine box_event ?hg (N := 2) ?hd (cs := #[.int .i64 0, .slice none 0 0]) (t := 24) ?hr ?_; (case hd => rfl); (case hg => rfl); (case hr => first | (go_simp; done) | (go_simp; rfl)); intro g3 hg w3 hbox hb; have n0_ := Aside0.mk (blk_below (g := g1) (o := .cells #[.int .i64 a0_0, .slice A0_1 l0_1.length c0_1] 24 (0, 0)) (by (with_reducible repeat (first | refine blk_drewN ?_ _ | refine blk_drew ?_ | refine blk_alloc ?_ _)); exact K1.out) hb); have n1_ := Aside0.mk (below_step (by repeat (first | (with_reducible first | exact HB.out | apply below_alloc | apply pw_below_drewN | apply below_drew1 | refine below_set ?_ E0.out) | exact HB.out)) hb); have n2_ := Aside0.mk (hbox); have n3_ := Aside0.mk ((by rw [hg]; exact (below_size (by repeat (first | (with_reducible first | exact HB.out | apply below_alloc | apply pw_below_drewN | apply below_drew1 | refine below_set ?_ E0.out) | exact HB.out))) : w.heap.size ≤ g3)); have n4_ := Aside0.mk ((by rw [hg]; exact (below_size (by repeat (first | (with_reducible first | exact HB.out | apply below_alloc | apply pw_below_drewN | apply below_drew1 | refine below_set ?_ E0.out) | exact HB.out))) : w.heap.size ≤ g3)); have n5_ := Aside0.mk ((by rw [hg]; exact Nat.ne_of_lt (blk_lt (g := g1) (o := .cells #[.int .i64 a0_0, .slice A0_1 l0_1.length c0_1] 24 (0, 0)) (by (with_reducible repeat (first | refine blk_drewN ?_ _ | refine blk_drew ?_ | refine blk_alloc ?_ _)); exact K1.out)) : g1 ≠ g3)); have n6_ := Aside0.mk ((by rw [hg]; exact Nat.ne_of_gt (blk_lt (g := g1) (o := .cells #[.int .i64 a0_0, .slice A0_1 l0_1.length c0_1] 24 (0, 0)) (by (with_reducible repeat (first | refine blk_drewN ?_ _ | refine blk_drew ?_ | refine blk_alloc ?_ _)); exact K1.out)) : g3 ≠ g1)); clear K1; clear HB; have K1 := n0_; have HB := n1_; have K3 := n2_; have G1 := n3_; have E1 := n4_; have N5 := n5_; have N6 := n6_; clear n0_ n1_ n2_ n3_ n4_ n5_ n6_; clear hb hbox hg; have hnb4 := N5.out; have hnc4 := N6.out; have hcz5_0 : w3.cell? ⟨g1, 0, none⟩ = some (.int .i64 a0_0) := (blk_cell K1.out 0).trans rfl; have hcz5_1 : w3.cell? ⟨g1, 1, none⟩ = some (.slice A0_1 l0_1.length c0_1) := (blk_cell K1.out 1).trans rfl; have hfz5_0 := blk_frozen K1.out 0; have hfz5_1 := blk_frozen K1.out 1) | ((with_reducible refine gate_dst (N := 3) rfl ?_); refine box_event ?hg (N := 3) ?hd (cs := #[.int .i64 0, .slice none 0 0]) (t := 24) ?hr ?_; (case hd => rfl); (case hg => rfl); (case hr => first | (go_simp; done) | (go_simp; rfl)); intro g2 hg w6 hbox hb; have n0_ := Aside0.mk (blk_below (g := g1) (o := .cells #[.int .i64 a0_0, .slice A0_1 l0_1.length c0_1] 24 (0, 0)) (by (with_reducible repeat (first | refine blk_drewN ?_ _ | refine blk_drew ?_ | refine blk_alloc ?_ _)); exact K1.out) hb); have n1_ := Aside0.mk (blk_below (g := g3) (o := .cells #[.int .i64 0, .slice none 0 0] 24 (0, 0)) (by (with_reducible repeat (first | refine blk_drewN ?_ _ | refine blk_drew ?_ | refine blk_alloc ?_ _)); exact K3.out) hb); have n2_ := Aside0.mk (below_step (by repeat (first | (with_reducible first | exact HB.out | apply below_alloc | apply pw_below_drewN | apply below_drew1 | refine below_set ?_ E0.out | refine below_set ?_ E1.out) | exact HB.out)) hb); have n3_ := Aside0.mk (hbox); have n4_ := Aside0.mk ((by rw [hg]; exact (below_size (by repeat (first | (with_reducible first | exact HB.out | apply below_alloc | apply pw_below_drewN | apply below_drew1 | refine below_set ?_ E0.out | refine below_set ?_ E1.out) | exact HB.out))) : w.heap.size ≤ g2)); have n5_ := Aside0.mk ((by rw [hg]; exact (below_size (by repeat (first | (with_reducible first | exact HB.out | apply below_alloc | apply pw_below_drewN | apply below_drew1 | refine below_set ?_ E0.out | refine below_set ?_ E1.out) | exact HB.out))) : w.heap.size ≤ g2)); have n6_ := Aside0.mk ((by rw [hg]; exact Nat.ne_of_lt (blk_lt (g := g1) (o := .cells #[.int .i64 a0_0, .slice A0_1 l0_1.length c0_1] 24 (0, 0)) (by (with_reducible repeat (first | refine blk_drewN ?_ _ | refine blk_drew ?_ | refine blk_alloc ?_ _)); exact K1.out)) : g1 ≠ g2)); have n7_ := Aside0.mk ((by rw [hg]; exact Nat.ne_of_gt (blk_lt (g := g1) (o := .cells #[.int .i64 a0_0, .slice A0_1 l0_1.length c0_1] 24 (0, 0)) (by (with_reducible repeat (first | refine blk_drewN ?_ _ | refine blk_drew ?_ | refine blk_alloc ?_ _)); exact K1.out)) : g2 ≠ g1)); have n8_ := Aside0.mk ((by rw [hg]; exact Nat.ne_of_lt (blk_lt (g := g3) (o := .cells #[.int .i64 0, .slice none 0 0] 24 (0, 0)) (by (with_reducible repeat (first | refine blk_drewN ?_ _ | refine blk_drew ?_ | refine blk_alloc ?_ _)); exact K3.out)) : g3 ≠ g2)); have n9_ := Aside0.mk ((by rw [hg]; exact Nat.ne_of_gt (blk_lt (g := g3) (o := .cells #[.int .i64 0, .slice none 0 0] 24 (0, 0)) (by (with_reducible repeat (first | refine blk_drewN ?_ _ | refine blk_drew ?_ | refine blk_alloc ?_ _)); exact K3.out)) : g2 ≠ g3)); clear K1; clear K3; clear HB; have K1 := n0_; have K3 := n1_; have HB := n2_; have K2 := n3_; have G2 := n4_; have E2 := n5_; have N0 := n6_; have N7 := n7_; have N1 := n8_; have N8 := n9_; clear n0_ n1_ n2_ n3_ n4_ n5_ n6_ n7_ n8_ n9_; clear hb hbox hg; have hnb7 := N7.out; have hnc7 := N0.out; have hnb8 := N8.out; have hnc8 := N1.out; have hcz9_0 : w6.cell? ⟨g2, 0, none⟩ = some (.int .i64 0) := (blk_cell K2.out 0).trans rfl; have hcz9_1 : w6.cell? ⟨g2, 1, none⟩ = some (.slice none 0 0) := (blk_cell K2.out 1).trans rfl; have hfz9_0 := blk_frozen K2.out 0; have hfz9_1 := blk_frozen K2.out 1))
 go_loopg [4] k (fun kq v4 w' => ∃ (x4_1 : Int) (x104001_1 : List (S53)) (u104001 : Value), v4 = .int .i64 x4_1 ∧ Aside0 (wharfagelaw0_CopyConfig.l0 kq x4_1 a0_0 l0_1 a0_0 x104001_1 = some (r1, r2)) ∧ Aside0 (kq ≤ k) ∧ Aside0 (Kd.S k53 53 w' w.heap.size (fun _ => True) u104001 x104001_1) ∧ Aside0 (w'.heap[g1]? = some (.cells #[.int .i64 a0_0, (.slice A0_1 l0_1.length c0_1)] 24 (0, 0))) ∧ Aside0 (w'.heap[g3]? = some (.cells #[.int .i64 0, (.slice none 0 0)] 24 (0, 0))) ∧ Aside0 (w'.heap[g2]? = some (.cells #[.int .i64 a0_0, u104001] 24 (0, 0))) ∧ Aside0 (Below w.heap.size w w'))
 case atStart => exact ⟨(0), (([] : List (S53))), (.slice none 0 0), (by first | rfl | (simp; done) | (simp [*]; done)), H', ⟨Nat.le_refl _⟩, ⟨by first | exact Kd.S_nil _ _ _ _ _ | exact Kd.N_nil _ _ _ _ _ | exact Kd.V_nil _ _ _ _ _ | exact Kd.Q_nil _ _ _ _ _ | exact Kd.R_nil _ _ _ _ _⟩, ⟨by (with_reducible repeat (first | refine blk_drewN ?_ _ | refine blk_drew ?_ | refine blk_alloc ?_ _)); refine blk_far ?_ N0.out _; (with_reducible repeat (first | refine blk_drewN ?_ _ | refine blk_drew ?_ | refine blk_alloc ?_ _)); refine blk_far ?_ N0.out _; (with_reducible repeat (first | refine blk_drewN ?_ _ | refine blk_drew ?_ | refine blk_alloc ?_ _)); exact K1.out⟩, ⟨by (with_reducible repeat (first | refine blk_drewN ?_ _ | refine blk_drew ?_ | refine blk_alloc ?_ _)); refine blk_far ?_ N1.out _; (with_reducible repeat (first | refine blk_drewN ?_ _ | refine blk_drew ?_ | refine blk_alloc ?_ _)); refine blk_far ?_ N1.out _; (with_reducible repeat (first | refine blk_drewN ?_ _ | refine blk_drew ?_ | refine blk_alloc ?_ _)); exact K3.out⟩, ⟨by (with_reducible repeat (first | refine blk_drewN ?_ _ | refine blk_drew ?_ | refine blk_alloc ?_ _)); refine blk_put (cs := #[.int .i64 a0_0, .slice none 0 0]) ?_ 1 _ rfl; (with_reducible repeat (first | refine blk_drewN ?_ _ | refine blk_drew ?_ | refine blk_alloc ?_ _)); refine blk_put (cs := #[.int .i64 0, .slice none 0 0]) ?_ 0 _ rfl; (with_reducible repeat (first | refine blk_drewN ?_ _ | refine blk_drew ?_ | refine blk_alloc ?_ _)); exact K2.out⟩, ⟨by repeat (first | (with_reducible first | exact HB.out | apply below_alloc | apply pw_below_drewN | apply below_drew1 | refine below_set ?_ E0.out | refine below_set ?_ E1.out | refine below_set ?_ E2.out) | exact HB.out)⟩⟩
 case round =>
  clear H'
  try clear c1
  try clear p2
  try clear c4
  try clear c7
  try clear c8
  try clear hcz5_0
  try clear hcz5_1
  try clear hcz9_0
  try clear hcz9_1
  try clear hfz5_0
  try clear hfz5_1
  try clear hfz9_0
  try clear hfz9_1
  obtain ⟨x4_1, x104001_1, u104001, rfl, HA, HK1, HO_104001, K1, K3, K2, HB⟩ := hrel
  cases gk with
  | zero => exact absurd HA.out (by simp [wharfagelaw0_CopyConfig.l0])
  | succ k1 =>
   have H := HA.out
   clear HA
   simp only [wharfagelaw0_CopyConfig.l0] at H
   by_cases c10 : x4_1 < (l0_1.length : Int)
   ·rw [if_pos c10] at H
    have c10b0 : decide (x4_1 < (l0_1.length : Int)) = true := decide_eq_true c10
    clear c10
    by_cases c11 : 0 ≤ x4_1
    ·rw [if_pos c11] at H
     have c11b0 : decide (0 ≤ x4_1) = true := decide_eq_true c11
     clear c11
     obtain ⟨y106, hy106⟩ : ∃ y_ : List (S83), y_ = (([] : List (S83))) := ⟨_, rfl⟩
     replace H : (if y106.length + ((rd_T53 l0_1 x4_1).f3).length < 8796093022208 then (if x104001_1.length < 2932031007402 then (wharfagelaw0_CopyConfig.l0 k1 (wrap64 (x4_1 + 1)) a0_0 l0_1 a0_0 (x104001_1 ++ [(⟨(rd_T53 l0_1 x4_1).f0, (rd_T53 l0_1 x4_1).f1, (rd_T53 l0_1 x4_1).f2, (y106 ++ ((rd_T53 l0_1 x4_1).f3))⟩ : S53)])) else (none)) else (none)) = some (r1, r2) := by first | (rw [hy106]; with_reducible exact H) | (have H2_ := (Option.bind_some _ _).symm.trans H; rw [hy106]; with_reducible exact H2_) | (have H2_ := (Option.bind_some _ _).symm.trans H; with_reducible exact H2_) | with_reducible exact H | (rw [hy106]; exact H) | exact H
     have Ny106 := Aside0.mk hy106
     clear hy106
     by_cases c12 : y106.length + ((rd_T53 l0_1 x4_1).f3).length < 8796093022208
     ·rw [if_pos c12] at H
      have LMc12 := Aside0.mk c12
      clear c12
      obtain ⟨y109, hy109⟩ : ∃ y_ : List (S83), y_ = (y106 ++ ((rd_T53 l0_1 x4_1).f3)) := ⟨_, rfl⟩
      replace H : (if x104001_1.length < 2932031007402 then (wharfagelaw0_CopyConfig.l0 k1 (wrap64 (x4_1 + 1)) a0_0 l0_1 a0_0 (x104001_1 ++ [(⟨(rd_T53 l0_1 x4_1).f0, (rd_T53 l0_1 x4_1).f1, (rd_T53 l0_1 x4_1).f2, y109⟩ : S53)])) else (none)) = some (r1, r2) := by first | (rw [hy109]; with_reducible exact H) | (have H2_ := (Option.bind_some _ _).symm.trans H; rw [hy109]; with_reducible exact H2_) | (have H2_ := (Option.bind_some _ _).symm.trans H; with_reducible exact H2_) | with_reducible exact H | (rw [hy109]; exact H) | exact H
      have Ny109 := Aside0.mk hy109
      clear hy109
      by_cases c13 : x104001_1.length < 2932031007402
      ·rw [if_pos c13] at H
       have LMc13 := Aside0.mk c13
       clear c13
       obtain ⟨y112, hy112⟩ : ∃ y_ : List (S53), y_ = (x104001_1 ++ [(⟨(rd_T53 l0_1 x4_1).f0, (rd_T53 l0_1 x4_1).f1, (rd_T53 l0_1 x4_1).f2, y109⟩ : S53)]) := ⟨_, rfl⟩
       replace H : (wharfagelaw0_CopyConfig.l0 k1 (wrap64 (x4_1 + 1)) a0_0 l0_1 a0_0 y112) = some (r1, r2) := by first | (rw [hy112]; with_reducible exact H) | (have H2_ := (Option.bind_some _ _).symm.trans H; rw [hy112]; with_reducible exact H2_) | (have H2_ := (Option.bind_some _ _).symm.trans H; with_reducible exact H2_) | with_reducible exact H | (rw [hy112]; exact H) | exact H
       have Ny112 := Aside0.mk hy112
       clear hy112
       have H' := Aside0.mk H
       clear H
       have hnb14 := N5.out
       have hnc14 := N6.out
       have hnb15 := N0.out
       have hnc15 := N7.out
       have hcz16_0 : wr.cell? ⟨g1, 0, none⟩ = some (.int .i64 a0_0) := (blk_cell K1.out 0).trans rfl
       have hcz16_1 : wr.cell? ⟨g1, 1, none⟩ = some (.slice A0_1 l0_1.length c0_1) := (blk_cell K1.out 1).trans rfl
       have hfz16_0 := blk_frozen K1.out 0
       have hfz16_1 := blk_frozen K1.out 1
       have p104 : 0 ≤ (x4_1 : Int) := of_decide_eq_true (by first | (with_reducible assumption) | assumption)
       have q104 : x4_1 < (l0_1.length : Int) := of_decide_eq_true (by first | (with_reducible assumption) | assumption)
       obtain ⟨ad104, A104_3, c104_3, e104, hx104_0, hx104_1, hx104_2, hx104_3, hl104_3, hi104_3⟩ := at_T53 HR0_1.out x4_1 p104 q104
       cases e104
       replace hx104_0 := (HB.out.cell (World.block_lt_of_cell? w _ hx104_0)).trans hx104_0
       replace hx104_1 := (HB.out.cell (World.block_lt_of_cell? w _ hx104_1)).trans hx104_1
       replace hx104_2 := (HB.out.cell (World.block_lt_of_cell? w _ hx104_2)).trans hx104_2
       replace hx104_3 := (HB.out.cell (World.block_lt_of_cell? w _ hx104_3)).trans hx104_3
       have HR104_3 := Aside0.mk hi104_3
       have HC104_3 := Aside0.mk hl104_3
       clear hi104_3 hl104_3
       replace p104 := eq_true p104
       replace q104 := eq_true q104
       go_wp2_with (first | ((with_reducible refine gate_dst (N := 5) rfl ?_); refine box_event ?hg (N := 5) ?hd (cs := #[.int .i64 0, .bool false, .int .i64 0, .slice none 0 0]) (t := 53) ?hr ?_; (case hd => rfl); (case hg => rfl); (case hr => first | (go_simp; done) | (go_simp; rfl)); intro g0 hg w17 hbox hb; have n0_ := Aside0.mk (Kd.S_below (Kd.S_elderB (by (with_reducible repeat (first | apply Kd.S_alloc | apply Kd.S_drewN | apply Kd.S_drew)); exact HO_104001.out) g0 (Nat.le_of_eq hg.symm)) hb); have n1_ := Aside0.mk (blk_below (g := g1) (o := .cells #[.int .i64 a0_0, .slice (some ad104) l0_1.length c0_1] 24 (0, 0)) (by (with_reducible repeat (first | refine blk_drewN ?_ _ | refine blk_drew ?_ | refine blk_alloc ?_ _)); exact K1.out) hb); have n2_ := Aside0.mk (blk_below (g := g3) (o := .cells #[.int .i64 0, .slice none 0 0] 24 (0, 0)) (by (with_reducible repeat (first | refine blk_drewN ?_ _ | refine blk_drew ?_ | refine blk_alloc ?_ _)); exact K3.out) hb); have n3_ := Aside0.mk (blk_below (g := g2) (o := .cells #[.int .i64 a0_0, u104001] 24 (0, 0)) (by (with_reducible repeat (first | refine blk_drewN ?_ _ | refine blk_drew ?_ | refine blk_alloc ?_ _)); exact K2.out) hb); have n4_ := Aside0.mk (below_step (by repeat (first | (with_reducible first | exact HB.out | apply below_alloc | apply pw_below_drewN | apply below_drew1 | refine below_set ?_ E0.out | refine below_set ?_ E1.out | refine below_set ?_ E2.out) | exact HB.out)) hb); have n5_ := Aside0.mk (hbox); have n6_ := Aside0.mk ((by rw [hg]; exact (below_size (by repeat (first | (with_reducible first | exact HB.out | apply below_alloc | apply pw_below_drewN | apply below_drew1 | refine below_set ?_ E0.out | refine below_set ?_ E1.out | refine below_set ?_ E2.out) | exact HB.out))) : w.heap.size ≤ g0)); have n7_ := Aside0.mk ((by rw [hg]; exact (below_size (by repeat (first | (with_reducible first | exact HB.out | apply below_alloc | apply pw_below_drewN | apply below_drew1 | refine below_set ?_ E0.out | refine below_set ?_ E1.out | refine below_set ?_ E2.out) | exact HB.out))) : w.heap.size ≤ g0)); have n8_ := Aside0.mk ((by rw [hg]; exact Nat.ne_of_lt (blk_lt (g := g1) (o := .cells #[.int .i64 a0_0, .slice (some ad104) l0_1.length c0_1] 24 (0, 0)) (by (with_reducible repeat (first | refine blk_drewN ?_ _ | refine blk_drew ?_ | refine blk_alloc ?_ _)); exact K1.out)) : g1 ≠ g0)); have n9_ := Aside0.mk ((by rw [hg]; exact Nat.ne_of_gt (blk_lt (g := g1) (o := .cells #[.int .i64 a0_0, .slice (some ad104) l0_1.length c0_1] 24 (0, 0)) (by (with_reducible repeat (first | refine blk_drewN ?_ _ | refine blk_drew ?_ | refine blk_alloc ?_ _)); exact K1.out)) : g0 ≠ g1)); have n10_ := Aside0.mk ((by rw [hg]; exact Nat.ne_of_lt (blk_lt (g := g3) (o := .cells #[.int .i64 0, .slice none 0 0] 24 (0, 0)) (by (with_reducible repeat (first | refine blk_drewN ?_ _ | refine blk_drew ?_ | refine blk_alloc ?_ _)); exact K3.out)) : g3 ≠ g0)); have n11_ := Aside0.mk ((by rw [hg]; exact Nat.ne_of_gt (blk_lt (g := g3) (o := .cells #[.int .i64 0, .slice none 0 0] 24 (0, 0)) (by (with_reducible repeat (first | refine blk_drewN ?_ _ | refine blk_drew ?_ | refine blk_alloc ?_ _)); exact K3.out)) : g0 ≠ g3)); have n12_ := Aside0.mk ((by rw [hg]; exact Nat.ne_of_lt (blk_lt (g := g2) (o := .cells #[.int .i64 a0_0, u104001] 24 (0, 0)) (by (with_reducible repeat (first | refine blk_drewN ?_ _ | refine blk_drew ?_ | refine blk_alloc ?_ _)); exact K2.out)) : g2 ≠ g0)); have n13_ := Aside0.mk ((by rw [hg]; exact Nat.ne_of_gt (blk_lt (g := g2) (o := .cells #[.int .i64 a0_0, u104001] 24 (0, 0)) (by (with_reducible repeat (first | refine blk_drewN ?_ _ | refine blk_drew ?_ | refine blk_alloc ?_ _)); exact K2.out)) : g0 ≠ g2)); clear HO_104001; clear K1; clear K3; clear K2; clear HB; have HO_104001 := n0_; have K1 := n1_; have K3 := n2_; have K2 := n3_; have HB := n4_; have K0 := n5_; have G3 := n6_; have E3 := n7_; have N2 := n8_; have N9 := n9_; have N3 := n10_; have N10 := n11_; have N4 := n12_; have N11 := n13_; clear n0_ n1_ n2_ n3_ n4_ n5_ n6_ n7_ n8_ n9_ n10_ n11_ n12_ n13_; clear hb hbox hg; have hnb18 := N9.out; have hnc18 := N2.out; have hnb19 := N10.out; have hnc19 := N3.out; have hnb20 := N11.out; have hnc20 := N4.out; have hcz21_0 : w17.cell? ⟨g0, 0, none⟩ = some (.int .i64 0) := (blk_cell K0.out 0).trans rfl; have hcz21_1 : w17.cell? ⟨g0, 1, none⟩ = some (.bool false) := (blk_cell K0.out 1).trans rfl; have hcz21_2 : w17.cell? ⟨g0, 2, none⟩ = some (.int .i64 0) := (blk_cell K0.out 2).trans rfl; have hcz21_3 : w17.cell? ⟨g0, 3, none⟩ = some (.slice none 0 0) := (blk_cell K0.out 3).trans rfl; have hfz21_0 := blk_frozen K0.out 0; have hfz21_1 := blk_frozen K0.out 1; have hfz21_2 := blk_frozen K0.out 2; have hfz21_3 := blk_frozen K0.out 3) | ((with_reducible refine gate_dst (N := 21) rfl ?_); refine Kd.R_lit k83 _ 83 ?hg (N := 21) ?hd (xs := ([] : List (S83))) (inner := []) (ok := fun _ => True) (okp := fun _ => True) ?hr ?hp (fun _ hk => hk) trivial (Below.refl _ _) (Nat.le_refl _) (by simp) ?_; (case hd => rfl); (case hg => rfl); (case hr => first | (go_simp; done) | (go_simp; rfl)); (case hp => exact (Reps.none _ _)); intro v107 w22 ho23 hb hg_ hnew_; clear hg_ hnew_; (first | rw [← Ny106.out] at ho23 | (simp only [Int.reduceToNat] at ho23; rw [← Ny106.out] at ho23)); have n0_ := Aside0.mk (Kd.S_elder' (by (with_reducible repeat (first | apply Kd.S_alloc | apply Kd.S_drewN | apply Kd.S_drew)); exact (Kd.S_mono (Kd.S_far (p := ⟨g0, 3, none⟩) (Kd.S_far (p := ⟨g0, 2, none⟩) (Kd.S_far (p := ⟨g0, 1, none⟩) (Kd.S_far (p := ⟨g0, 0, none⟩) (Kd.S_mono HO_104001.out (fun k_ hk => (⟨hk, hk.2⟩ : _ ∧ k_ ≠ g0))) (fun _ hk => hk.2) (.int .i64 ((rd_T53 l0_1 x4_1).f0))) (fun _ hk => hk.2) (.bool ((rd_T53 l0_1 x4_1).f1))) (fun _ hk => hk.2) (.int .i64 ((rd_T53 l0_1 x4_1).f2))) (fun _ hk => hk.2) (.slice A104_3 ((rd_T53 l0_1 x4_1).f3).length c104_3)) (fun _ h_ => h_.1))) (Kd.R_base ho23) hb); have n1_ := Aside0.mk (Kd.R_lower ho23 (below_size (by repeat (first | (with_reducible first | exact HB.out | apply below_alloc | apply pw_below_drewN | apply below_drew1 | refine below_set ?_ E0.out | refine below_set ?_ E1.out | refine below_set ?_ E2.out | refine below_set ?_ E3.out) | exact HB.out)))); have n2_ := Aside0.mk (blk_below (g := g1) (o := .cells #[.int .i64 a0_0, .slice (some ad104) l0_1.length c0_1] 24 (0, 0)) (by (with_reducible repeat (first | refine blk_drewN ?_ _ | refine blk_drew ?_ | refine blk_alloc ?_ _)); refine blk_far ?_ N2.out _; (with_reducible repeat (first | refine blk_drewN ?_ _ | refine blk_drew ?_ | refine blk_alloc ?_ _)); refine blk_far ?_ N2.out _; (with_reducible repeat (first | refine blk_drewN ?_ _ | refine blk_drew ?_ | refine blk_alloc ?_ _)); refine blk_far ?_ N2.out _; (with_reducible repeat (first | refine blk_drewN ?_ _ | refine blk_drew ?_ | refine blk_alloc ?_ _)); refine blk_far ?_ N2.out _; (with_reducible repeat (first | refine blk_drewN ?_ _ | refine blk_drew ?_ | refine blk_alloc ?_ _)); exact K1.out) hb); have n3_ := Aside0.mk (blk_below (g := g3) (o := .cells #[.int .i64 0, .slice none 0 0] 24 (0, 0)) (by (with_reducible repeat (first | refine blk_drewN ?_ _ | refine blk_drew ?_ | refine blk_alloc ?_ _)); refine blk_far ?_ N3.out _; (with_reducible repeat (first | refine blk_drewN ?_ _ | refine blk_drew ?_ | refine blk_alloc ?_ _)); refine blk_far ?_ N3.out _; (with_reducible repeat (first | refine blk_drewN ?_ _ | refine blk_drew ?_ | refine blk_alloc ?_ _)); refine blk_far ?_ N3.out _; (with_reducible repeat (first | refine blk_drewN ?_ _ | refine blk_drew ?_ | refine blk_alloc ?_ _)); refine blk_far ?_ N3.out _; (with_reducible repeat (first | refine blk_drewN ?_ _ | refine blk_drew ?_ | refine blk_alloc ?_ _)); exact K3.out) hb); have n4_ := Aside0.mk (blk_below (g := g2) (o := .cells #[.int .i64 a0_0, u104001] 24 (0, 0)) (by (with_reducible repeat (first | refine blk_drewN ?_ _ | refine blk_drew ?_ | refine blk_alloc ?_ _)); refine blk_far ?_ N4.out _; (with_reducible repeat (first | refine blk_drewN ?_ _ | refine blk_drew ?_ | refine blk_alloc ?_ _)); refine blk_far ?_ N4.out _; (with_reducible repeat (first | refine blk_drewN ?_ _ | refine blk_drew ?_ | refine blk_alloc ?_ _)); refine blk_far ?_ N4.out _; (with_reducible repeat (first | refine blk_drewN ?_ _ | refine blk_drew ?_ | refine blk_alloc ?_ _)); refine blk_far ?_ N4.out _; (with_reducible repeat (first | refine blk_drewN ?_ _ | refine blk_drew ?_ | refine blk_alloc ?_ _)); exact K2.out) hb); have n5_ := Aside0.mk (blk_below (g := g0) (o := .cells #[.int .i64 ((rd_T53 l0_1 x4_1).f0), .bool ((rd_T53 l0_1 x4_1).f1), .int .i64 ((rd_T53 l0_1 x4_1).f2), .slice A104_3 ((rd_T53 l0_1 x4_1).f3).length c104_3] 53 (0, 0)) (by (with_reducible repeat (first | refine blk_drewN ?_ _ | refine blk_drew ?_ | refine blk_alloc ?_ _)); refine blk_put (cs := #[.int .i64 ((rd_T53 l0_1 x4_1).f0), .bool ((rd_T53 l0_1 x4_1).f1), .int .i64 ((rd_T53 l0_1 x4_1).f2), .slice none 0 0]) ?_ 3 _ rfl; (with_reducible repeat (first | refine blk_drewN ?_ _ | refine blk_drew ?_ | refine blk_alloc ?_ _)); refine blk_put (cs := #[.int .i64 ((rd_T53 l0_1 x4_1).f0), .bool ((rd_T53 l0_1 x4_1).f1), .int .i64 0, .slice none 0 0]) ?_ 2 _ rfl; (with_reducible repeat (first | refine blk_drewN ?_ _ | refine blk_drew ?_ | refine blk_alloc ?_ _)); refine blk_put (cs := #[.int .i64 ((rd_T53 l0_1 x4_1).f0), .bool false, .int .i64 0, .slice none 0 0]) ?_ 1 _ rfl; (with_reducible repeat (first | refine blk_drewN ?_ _ | refine blk_drew ?_ | refine blk_alloc ?_ _)); refine blk_put (cs := #[.int .i64 0, .bool false, .int .i64 0, .slice none 0 0]) ?_ 0 _ rfl; (with_reducible repeat (first | refine blk_drewN ?_ _ | refine blk_drew ?_ | refine blk_alloc ?_ _)); exact K0.out) hb); have n6_ := Aside0.mk (below_step (by repeat (first | (with_reducible first | exact HB.out | apply below_alloc | apply pw_below_drewN | apply below_drew1 | refine below_set ?_ E0.out | refine below_set ?_ E1.out | refine below_set ?_ E2.out | refine below_set ?_ E3.out) | exact HB.out)) hb); clear HO_104001; clear K1; clear K3; clear K2; clear K0; clear HB; have HO_104001 := n0_; have O1 := n1_; have K1 := n2_; have K3 := n3_; have K2 := n4_; have K0 := n5_; have HB := n6_; clear n0_ n1_ n2_ n3_ n4_ n5_ n6_; clear hb ho23; have hcz24_0 : w22.cell? ⟨g0, 0, none⟩ = some (.int .i64 ((rd_T53 l0_1 x4_1).f0)) := (blk_cell K0.out 0).trans rfl; have hcz24_1 : w22.cell? ⟨g0, 1, none⟩ = some (.bool ((rd_T53 l0_1 x4_1).f1)) := (blk_cell K0.out 1).trans rfl; have hcz24_2 : w22.cell? ⟨g0, 2, none⟩ = some (.int .i64 ((rd_T53 l0_1 x4_1).f2)) := (blk_cell K0.out 2).trans rfl; have hcz24_3 : w22.cell? ⟨g0, 3, none⟩ = some (.slice A104_3 ((rd_T53 l0_1 x4_1).f3).length c104_3) := (blk_cell K0.out 3).trans rfl; have hfz24_0 := blk_frozen K0.out 0; have hfz24_1 := blk_frozen K0.out 1; have hfz24_2 := blk_frozen K0.out 2; have hfz24_3 := blk_frozen K0.out 3) | ((with_reducible refine gate_builtin (b := .append) (xs := #[.tmp 21, .tmp 23]) rfl ?_); at_builtin; refine Kd.R_append_rows k83 (w0 := w) w.heap.size rfl (.tmp 21) (.tmp 23) 51 83 (.agg #[(.int .i64 0), (.bool false)]) 16 rfl Try.underlying51 info83 rfl (by decide) (by omega) v107 y106 ((rd_T53 l0_1 x4_1).f3) _ _ _ (fun _ => True) (fun _ => False) rfl rfl ?aO ?aR (fun _ _ h => h) (fun _ h => h.elim) ?aF ?aB ?aS ?aL ?_; (case aR => repeat (first | exact (Kd.C_below HR104_3.out HB.out) | (with_reducible refine Kd.C_alloc ?_ _) | (with_reducible refine Kd.C_drewN ?_ _) | (with_reducible refine Kd.C_drew ?_))); (case aB => exact (by repeat (first | (with_reducible first | exact HB.out | apply below_alloc | apply pw_below_drewN | apply below_drew1 | refine below_set ?_ E0.out | refine below_set ?_ E1.out | refine below_set ?_ E2.out | refine below_set ?_ E3.out) | exact HB.out))); (case aF => exact (fun _ _ => trivial)); (case aO => exact (by (with_reducible repeat (first | apply Kd.R_alloc | apply Kd.R_drewN | apply Kd.R_drew)); exact O1.out)); (case aS => exact (below_size (by repeat (first | (with_reducible first | exact HB.out | apply below_alloc | apply pw_below_drewN | apply below_drew1 | refine below_set ?_ E0.out | refine below_set ?_ E1.out | refine below_set ?_ E2.out | refine below_set ?_ E3.out) | exact HB.out)))); (case aL => have := LMc12.out; omega); intro v110 w25 ho hb hg hat; rw [← Ny109.out] at ho; have n0_ := Aside0.mk (Kd.S_after (ok := (fun k_ => k_ ≠ g0)) (by (with_reducible repeat (first | apply Kd.S_alloc | apply Kd.S_drewN | apply Kd.S_drew)); exact Kd.S_mono HO_104001.out (fun _ hk => ⟨hk.1.2, hk.2⟩)) hg hat); have n1_ := Aside0.mk (blk_grown (g := g1) (o := .cells #[.int .i64 a0_0, .slice (some ad104) l0_1.length c0_1] 24 (0, 0)) (by (with_reducible repeat (first | refine blk_drewN ?_ _ | refine blk_drew ?_ | refine blk_alloc ?_ _)); exact K1.out) hg (Kd.R_ne O1.out K1.out (by decide))); have n2_ := Aside0.mk (blk_grown (g := g3) (o := .cells #[.int .i64 0, .slice none 0 0] 24 (0, 0)) (by (with_reducible repeat (first | refine blk_drewN ?_ _ | refine blk_drew ?_ | refine blk_alloc ?_ _)); exact K3.out) hg (Kd.R_ne O1.out K3.out (by decide))); have n3_ := Aside0.mk (blk_grown (g := g2) (o := .cells #[.int .i64 a0_0, u104001] 24 (0, 0)) (by (with_reducible repeat (first | refine blk_drewN ?_ _ | refine blk_drew ?_ | refine blk_alloc ?_ _)); exact K2.out) hg (Kd.R_ne O1.out K2.out (by decide))); have n4_ := Aside0.mk (blk_grown (g := g0) (o := .cells #[.int .i64 ((rd_T53 l0_1 x4_1).f0), .bool ((rd_T53 l0_1 x4_1).f1), .int .i64 ((rd_T53 l0_1 x4_1).f2), .slice A104_3 ((rd_T53 l0_1 x4_1).f3).length c104_3] 53 (0, 0)) (by (with_reducible repeat (first | refine blk_drewN ?_ _ | refine blk_drew ?_ | refine blk_alloc ?_ _)); exact K0.out) hg (Kd.R_ne O1.out K0.out (by decide))); have n5_ := Aside0.mk (hb); have n6_ := Aside0.mk (ho); clear HO_104001; clear K1; clear K3; clear K2; clear K0; clear HB; clear O1; have HO_104001 := n0_; have K1 := n1_; have K3 := n2_; have K2 := n3_; have K0 := n4_; have HB := n5_; have O0 := n6_; clear n0_ n1_ n2_ n3_ n4_ n5_ n6_; clear ho hb hg hat; obtain ⟨Ao26, co26, eo26⟩ := Kd.R_slice O0.out; subst eo26; have hcz27_0 : w25.cell? ⟨g0, 0, none⟩ = some (.int .i64 ((rd_T53 l0_1 x4_1).f0)) := (blk_cell K0.out 0).trans rfl; have hcz27_1 : w25.cell? ⟨g0, 1, none⟩ = some (.bool ((rd_T53 l0_1 x4_1).f1)) := (blk_cell K0.out 1).trans rfl; have hcz27_2 : w25.cell? ⟨g0, 2, none⟩ = some (.int .i64 ((rd_T53 l0_1 x4_1).f2)) := (blk_cell K0.out 2).trans rfl; have hcz27_3 : w25.cell? ⟨g0, 3, none⟩ = some (.slice A104_3 ((rd_T53 l0_1 x4_1).f3).length c104_3) := (blk_cell K0.out 3).trans rfl; have hfz27_0 := blk_frozen K0.out 0; have hfz27_1 := blk_frozen K0.out 1; have hfz27_2 := blk_frozen K0.out 2; have hfz27_3 := blk_frozen K0.out 3) | ((with_reducible refine gate_store (t := 51) (p := 25) rfl ?_); refine store_event (t := 51) (p := 25) (v := ?vo_w28) (w1 := (w25.setCell ⟨g0, 3, none⟩ (.slice Ao26 y109.length co26))) ?hg ?ho ?hn ?hr ?_; (case ho => rfl); (case hg => rfl); (case hn => rfl); (case hr => first | (go_simp; done) | (go_simp; rfl)); intro w28 hw; have n0_ : Aside0 (Kd.S k53 53 w28 w.heap.size (fun k_ => some k_ ≠ (.slice Ao26 y109.length co26 : Value).ownBlock ∧ k_ ≠ g0) u104001 x104001_1) := ⟨(by rw [hw]; exact (by (with_reducible repeat (first | apply Kd.S_alloc | apply Kd.S_drewN | apply Kd.S_drew)); exact Kd.S_mono (Kd.S_far (p := ⟨g0, 3, none⟩) (Kd.S_mono HO_104001.out (fun k_ hk => (⟨hk, hk.1⟩ : _ ∧ k_ ≠ g0))) (fun _ hk => hk.2) (.slice Ao26 y109.length co26)) (fun _ hk => ⟨hk.1.2, hk.1.1⟩)))⟩; have n1_ : Aside0 (Kd.R k83 83 w28 w.heap.size (fun _ => True) (.slice Ao26 y109.length co26) y109) := ⟨(by rw [hw]; exact (by (with_reducible repeat (first | apply Kd.R_alloc | apply Kd.R_drewN | apply Kd.R_drew)); exact Kd.R_mono (Kd.R_far (p := ⟨g0, 3, none⟩) (Kd.R_types O0.out K0.out (by decide)) (fun _ hk => hk.2) (.slice Ao26 y109.length co26)) (fun _ hk => trivial)))⟩; have n2_ : Aside0 (w28.heap[g1]? = some (.cells #[.int .i64 a0_0, .slice (some ad104) l0_1.length c0_1] 24 (0, 0))) := ⟨(by rw [hw]; exact (by (with_reducible repeat (first | refine blk_drewN ?_ _ | refine blk_drew ?_ | refine blk_alloc ?_ _)); refine blk_far ?_ N2.out _; (with_reducible repeat (first | refine blk_drewN ?_ _ | refine blk_drew ?_ | refine blk_alloc ?_ _)); exact K1.out))⟩; have n3_ : Aside0 (w28.heap[g3]? = some (.cells #[.int .i64 0, .slice none 0 0] 24 (0, 0))) := ⟨(by rw [hw]; exact (by (with_reducible repeat (first | refine blk_drewN ?_ _ | refine blk_drew ?_ | refine blk_alloc ?_ _)); refine blk_far ?_ N3.out _; (with_reducible repeat (first | refine blk_drewN ?_ _ | refine blk_drew ?_ | refine blk_alloc ?_ _)); exact K3.out))⟩; have n4_ : Aside0 (w28.heap[g2]? = some (.cells #[.int .i64 a0_0, u104001] 24 (0, 0))) := ⟨(by rw [hw]; exact (by (with_reducible repeat (first | refine blk_drewN ?_ _ | refine blk_drew ?_ | refine blk_alloc ?_ _)); refine blk_far ?_ N4.out _; (with_reducible repeat (first | refine blk_drewN ?_ _ | refine blk_drew ?_ | refine blk_alloc ?_ _)); exact K2.out))⟩; have n5_ : Aside0 (w28.heap[g0]? = some (.cells #[.int .i64 ((rd_T53 l0_1 x4_1).f0), .bool ((rd_T53 l0_1 x4_1).f1), .int .i64 ((rd_T53 l0_1 x4_1).f2), .slice Ao26 y109.length co26] 53 (0, 0))) := ⟨(by rw [hw]; exact (by (with_reducible repeat (first | refine blk_drewN ?_ _ | refine blk_drew ?_ | refine blk_alloc ?_ _)); refine blk_put (cs := #[.int .i64 ((rd_T53 l0_1 x4_1).f0), .bool ((rd_T53 l0_1 x4_1).f1), .int .i64 ((rd_T53 l0_1 x4_1).f2), .slice A104_3 ((rd_T53 l0_1 x4_1).f3).length c104_3]) ?_ 3 _ rfl; (with_reducible repeat (first | refine blk_drewN ?_ _ | refine blk_drew ?_ | refine blk_alloc ?_ _)); exact K0.out))⟩; have n6_ : Aside0 (Below w.heap.size w w28) := ⟨(by rw [hw]; exact (by repeat (first | (with_reducible first | exact HB.out | apply below_alloc | apply pw_below_drewN | apply below_drew1 | refine below_set ?_ E0.out | refine below_set ?_ E1.out | refine below_set ?_ E2.out | refine below_set ?_ E3.out) | exact HB.out)))⟩; clear hw; clear HO_104001; clear O0; clear K1; clear K3; clear K2; clear K0; clear HB; have HO_104001 := n0_; have O0 := n1_; have K1 := n2_; have K3 := n3_; have K2 := n4_; have K0 := n5_; have HB := n6_; clear n0_ n1_ n2_ n3_ n4_ n5_ n6_; have hnb29 := N8.out; have hnc29 := N1.out; have hcz30_0 : w28.cell? ⟨g2, 0, none⟩ = some (.int .i64 a0_0) := (blk_cell K2.out 0).trans rfl; have hcz30_1 : w28.cell? ⟨g2, 1, none⟩ = some (u104001) := (blk_cell K2.out 1).trans rfl; have hfz30_0 := blk_frozen K2.out 0; have hfz30_1 := blk_frozen K2.out 1; have hcz31_0 : w28.cell? ⟨g0, 0, none⟩ = some (.int .i64 ((rd_T53 l0_1 x4_1).f0)) := (blk_cell K0.out 0).trans rfl; have hcz31_1 : w28.cell? ⟨g0, 1, none⟩ = some (.bool ((rd_T53 l0_1 x4_1).f1)) := (blk_cell K0.out 1).trans rfl; have hcz31_2 : w28.cell? ⟨g0, 2, none⟩ = some (.int .i64 ((rd_T53 l0_1 x4_1).f2)) := (blk_cell K0.out 2).trans rfl; have hcz31_3 : w28.cell? ⟨g0, 3, none⟩ = some (.slice Ao26 y109.length co26) := (blk_cell K0.out 3).trans rfl; have hfz31_0 := blk_frozen K0.out 0; have hfz31_1 := blk_frozen K0.out 1; have hfz31_2 := blk_frozen K0.out 2; have hfz31_3 := blk_frozen K0.out 3) | ((with_reducible refine gate_builtin (b := .append) (xs := #[.tmp 27, .tmp 29]) rfl ?_); at_builtin; refine Kd.S_append k53 (w0 := w) w.heap.size rfl (.tmp 27) (.tmp 29) 22 53 (.agg #[(.int .i64 0), (.bool false), (.int .i64 0), (.slice none 0 0)]) 48 rfl Try.underlying22 info53 rfl (by decide) (by omega) u104001 x104001_1 (⟨(rd_T53 l0_1 x4_1).f0, (rd_T53 l0_1 x4_1).f1, (rd_T53 l0_1 x4_1).f2, y109⟩ : S53) [.int .i64 ((rd_T53 l0_1 x4_1).f0), .bool ((rd_T53 l0_1 x4_1).f1), .int .i64 ((rd_T53 l0_1 x4_1).f2), .slice Ao26 y109.length co26] (fun k_ => k_ ≠ g0) (fun k_ => some k_ = (.slice Ao26 y109.length co26 : Value).ownBlock) rfl rfl ?aP (fun k_ hk_ => ((Kd.R_mono (ok' := fun k_ => ((fun k_ => k_ ≠ g0)) k_ ∧ some k_ ≠ (u104001 : Value).ownBlock) (Kd.R_types (Kd.R_apart' (O0.out) (Kd.S_typed HO_104001.out) (by decide)) K0.out (by decide)) (fun k_ hk => ⟨hk.2, hk.1.2⟩))).1 k_ hk_.symm) ?aF ?aO ?aB ?aS ?aL ?_; (case aP => exact k53_mkM _ _ _ (⟨(rd_T53 l0_1 x4_1).f0, (rd_T53 l0_1 x4_1).f1, (rd_T53 l0_1 x4_1).f2, y109⟩ : S53) (Kd.R_mono (Kd.R_tight rfl (Kd.R_mono (ok' := fun k_ => ((fun k_ => k_ ≠ g0)) k_ ∧ some k_ ≠ (u104001 : Value).ownBlock) (Kd.R_types (Kd.R_apart' (O0.out) (Kd.S_typed HO_104001.out) (by decide)) K0.out (by decide)) (fun k_ hk => ⟨hk.2, hk.1.2⟩))) (fun _ h_ => h_))); (case aB => exact (by repeat (first | (with_reducible first | exact HB.out | apply below_alloc | apply pw_below_drewN | apply below_drew1 | refine below_set ?_ E0.out | refine below_set ?_ E1.out | refine below_set ?_ E2.out | refine below_set ?_ E3.out) | exact HB.out))); (case aF => exact (fun k_ hk => Kd.freshB (g := g0) (o := .cells #[.int .i64 ((rd_T53 l0_1 x4_1).f0), .bool ((rd_T53 l0_1 x4_1).f1), .int .i64 ((rd_T53 l0_1 x4_1).f2), .slice Ao26 y109.length co26] 53 (0, 0)) (by (with_reducible repeat (first | refine blk_drewN ?_ _ | refine blk_drew ?_ | refine blk_alloc ?_ _)); exact K0.out) k_ hk)); (case aO => exact (by (with_reducible repeat (first | apply Kd.S_alloc | apply Kd.S_drewN | apply Kd.S_drew)); exact Kd.S_mono HO_104001.out (fun k_ hk => ⟨hk.2, fun e_ => hk.1 e_⟩))); (case aS => exact (below_size (by repeat (first | (with_reducible first | exact HB.out | apply below_alloc | apply pw_below_drewN | apply below_drew1 | refine below_set ?_ E0.out | refine below_set ?_ E1.out | refine below_set ?_ E2.out | refine below_set ?_ E3.out) | exact HB.out)))); (case aL => have := LMc13.out; omega); intro v113 w32 ho hb hg hat; rw [← Ny112.out] at ho; have n0_ := Aside0.mk (blk_grown (g := g1) (o := .cells #[.int .i64 a0_0, .slice (some ad104) l0_1.length c0_1] 24 (0, 0)) (by (with_reducible repeat (first | refine blk_drewN ?_ _ | refine blk_drew ?_ | refine blk_alloc ?_ _)); exact K1.out) hg (Kd.S_ne HO_104001.out K1.out (by decide))); have n1_ := Aside0.mk (blk_grown (g := g3) (o := .cells #[.int .i64 0, .slice none 0 0] 24 (0, 0)) (by (with_reducible repeat (first | refine blk_drewN ?_ _ | refine blk_drew ?_ | refine blk_alloc ?_ _)); exact K3.out) hg (Kd.S_ne HO_104001.out K3.out (by decide))); have n2_ := Aside0.mk (blk_grown (g := g2) (o := .cells #[.int .i64 a0_0, u104001] 24 (0, 0)) (by (with_reducible repeat (first | refine blk_drewN ?_ _ | refine blk_drew ?_ | refine blk_alloc ?_ _)); exact K2.out) hg (Kd.S_ne HO_104001.out K2.out (by decide))); have n3_ := Aside0.mk (blk_grown (g := g0) (o := .cells #[.int .i64 ((rd_T53 l0_1 x4_1).f0), .bool ((rd_T53 l0_1 x4_1).f1), .int .i64 ((rd_T53 l0_1 x4_1).f2), .slice Ao26 y109.length co26] 53 (0, 0)) (by (with_reducible repeat (first | refine blk_drewN ?_ _ | refine blk_drew ?_ | refine blk_alloc ?_ _)); exact K0.out) hg (Kd.S_away HO_104001.out (fun _ hk => hk.2))); have n4_ := Aside0.mk (hb); have n5_ := Aside0.mk (ho); clear K1; clear K3; clear K2; clear K0; clear HB; clear HO_104001; clear O0; have K1 := n0_; have K3 := n1_; have K2 := n2_; have K0 := n3_; have HB := n4_; have O2 := n5_; clear n0_ n1_ n2_ n3_ n4_ n5_; clear ho hb hg hat; obtain ⟨Ao33, co33, eo33⟩ := Kd.S_slice O2.out; subst eo33; have hcz34_0 : w32.cell? ⟨g2, 0, none⟩ = some (.int .i64 a0_0) := (blk_cell K2.out 0).trans rfl; have hcz34_1 : w32.cell? ⟨g2, 1, none⟩ = some (u104001) := (blk_cell K2.out 1).trans rfl; have hfz34_0 := blk_frozen K2.out 0; have hfz34_1 := blk_frozen K2.out 1))
       go_roundg k1
       case measure => have := HK1.out; omega
       case rel => exact ⟨(wrap64 (x4_1 + 1)), (y112), (.slice Ao33 y112.length co33), (by first | rfl | (simp; done) | (simp [*]; done)), H', ⟨by have := HK1.out; omega⟩, ⟨by (with_reducible repeat (first | apply Kd.S_alloc | apply Kd.S_drewN | apply Kd.S_drew)); exact Kd.S_mono (Kd.S_far (p := ⟨g2, 1, none⟩) (Kd.S_types O2.out K2.out (by decide)) (fun _ hk => hk.2) (.slice Ao33 y112.length co33)) (fun _ hk => trivial)⟩, ⟨by (with_reducible repeat (first | refine blk_drewN ?_ _ | refine blk_drew ?_ | refine blk_alloc ?_ _)); refine blk_far ?_ N0.out _; (with_reducible repeat (first | refine blk_drewN ?_ _ | refine blk_drew ?_ | refine blk_alloc ?_ _)); exact K1.out⟩, ⟨by (with_reducible repeat (first | refine blk_drewN ?_ _ | refine blk_drew ?_ | refine blk_alloc ?_ _)); refine blk_far ?_ N1.out _; (with_reducible repeat (first | refine blk_drewN ?_ _ | refine blk_drew ?_ | refine blk_alloc ?_ _)); exact K3.out⟩, ⟨by (with_reducible repeat (first | refine blk_drewN ?_ _ | refine blk_drew ?_ | refine blk_alloc ?_ _)); refine blk_put (cs := #[.int .i64 a0_0, u104001]) ?_ 1 _ rfl; (with_reducible repeat (first | refine blk_drewN ?_ _ | refine blk_drew ?_ | refine blk_alloc ?_ _)); exact K2.out⟩, ⟨by repeat (first | (with_reducible first | exact HB.out | apply below_alloc | apply pw_below_drewN | apply below_drew1 | refine below_set ?_ E0.out | refine below_set ?_ E1.out | refine below_set ?_ E2.out | refine below_set ?_ E3.out) | exact HB.out)⟩⟩
      ·rw [if_neg c13] at H
       exact absurd H (by simp)
     ·rw [if_neg c12] at H
      exact absurd H (by simp)
    ·rw [if_neg c11] at H
     exact absurd H (by simp)
   ·rw [if_neg c10] at H
    have c10b0 : decide (x4_1 < (l0_1.length : Int)) = false := decide_eq_false c10
    clear c10
    simp only [Option.some.injEq, Prod.mk.injEq] at H
    obtain ⟨rfl, rfl⟩ := H
    have hnb35 := N5.out
    have hnc35 := N6.out
    have hnb36 := N0.out
    have hnc36 := N7.out
    have hcz37_0 : wr.cell? ⟨g1, 0, none⟩ = some (.int .i64 a0_0) := (blk_cell K1.out 0).trans rfl
    have hcz37_1 : wr.cell? ⟨g1, 1, none⟩ = some (.slice A0_1 l0_1.length c0_1) := (blk_cell K1.out 1).trans rfl
    have hfz37_0 := blk_frozen K1.out 0
    have hfz37_1 := blk_frozen K1.out 1
    have hnb38 := N8.out
    have hnc38 := N1.out
    have hcz39_0 : wr.cell? ⟨g2, 0, none⟩ = some (.int .i64 a0_0) := (blk_cell K2.out 0).trans rfl
    have hcz39_1 : wr.cell? ⟨g2, 1, none⟩ = some (u104001) := (blk_cell K2.out 1).trans rfl
    have hfz39_0 := blk_frozen K2.out 0
    have hfz39_1 := blk_frozen K2.out 1
    have hcz40_0 : wr.cell? ⟨g3, 0, none⟩ = some (.int .i64 0) := (blk_cell K3.out 0).trans rfl
    have hcz40_1 : wr.cell? ⟨g3, 1, none⟩ = some (.slice none 0 0) := (blk_cell K3.out 1).trans rfl
    have hfz40_0 := blk_frozen K3.out 0
    have hfz40_1 := blk_frozen K3.out 1
    obtain ⟨Ao41, co41, eo41⟩ := Kd.S_slice HO_104001.out
    subst eo41
    go_wp2
    refine bodyPost_ret (results_cell_row rfl _ _ g3 24 #[.int .i64 a0_0, .slice Ao41 x104001_1.length co41] (0, 0) _ rfl (by (with_reducible repeat (first | refine blk_drewN ?_ _ | refine blk_drew ?_ | refine blk_alloc ?_ _)); refine blk_put (cs := #[.int .i64 a0_0, .slice none 0 0]) ?_ 1 _ rfl; (with_reducible repeat (first | refine blk_drewN ?_ _ | refine blk_drew ?_ | refine blk_alloc ?_ _)); refine blk_put (cs := #[.int .i64 0, .slice none 0 0]) ?_ 0 _ rfl; (with_reducible repeat (first | refine blk_drewN ?_ _ | refine blk_drew ?_ | refine blk_alloc ?_ _)); exact K3.out) Try.underlying24 rfl (by kernel_rfl)) rfl ?_
    exact ⟨_, by first | rfl | (simp [errW_none, errW_some] <;> rfl) | (simp [*, errW_none, errW_some] <;> rfl), by (with_reducible repeat (first | apply Kd.S_alloc | apply Kd.S_drewN | apply Kd.S_drew)); exact Kd.S_mono (Kd.S_far (p := ⟨g3, 1, none⟩) (Kd.S_far (p := ⟨g3, 0, none⟩) (Kd.S_types HO_104001.out K3.out (by decide)) (fun _ hk => hk.2) (.int .i64 a0_0)) (fun _ hk => hk.2) (.slice Ao41 x104001_1.length co41)) (fun _ hk => trivial), by repeat (first | (with_reducible first | exact HB.out | apply below_alloc | apply pw_below_drewN | apply below_drew1 | refine below_set ?_ E0.out | refine below_set ?_ E1.out | refine below_set ?_ E2.out) | exact HB.out)⟩

end Go.Proofs.Ytlapbhgkmmeeoaa.PSpares
end
section
/- Contracts: what calls of these functions of the program do, each as a plain function; written by a program of this session. -/
namespace Go.Proofs.Ytlapbhgkmmeeoaa.PSpares
open Go.RowKit Go.Proofs.YtlapbhgkmmeeoaaW.PrintWords Go.Proofs.YtlapbhgkmmeeoaaW.PrintLast Go.Proofs.YtlapbhgkmmeeoaaW.PrintMore
attribute [local go_sem] max2_int min2_int max_two min_two max_three min_three max_four min_four   -- for this text's walks alone
set_option linter.unusedVariables false
set_option linter.unusedSimpArgs false

/-! ### wharfagelaw0_CopyNode: function 5, by hand -/
def wharfagelaw0_CopyNode.f (k : Nat) (a0 a1 : Int) (l2 : List S53) (l3 : List S86) (l4 : List S91) (l5 : List S50) (a6 : Int) : Option (Int × Int × List S53 × List S86 × List S91 × List S50 × Int) := if l3.length < 8796093022208 ∧ l4.length < 3518437208883 ∧ l5.length < 1954687338268 then (wharfagelaw0_CopyConfig.f k a1 l2).bind fun t => some (a0, t.1, t.2, l3, l4, l5, a6) else none
theorem wharfagelaw0_CopyNode.mono : ∀ a0 a1 l2 l3 l4 l5 a6 k, LeO (wharfagelaw0_CopyNode.f k a0 a1 l2 l3 l4 l5 a6) (wharfagelaw0_CopyNode.f (k + 1) a0 a1 l2 l3 l4 l5 a6) := by
 intro a0 a1 l2 l3 l4 l5 a6 k
 unfold wharfagelaw0_CopyNode.f
 split
 ·exact LeO.bind (wharfagelaw0_CopyConfig.mono _ _ _) (fun _ => LeO.refl _)
 ·exact LeO.refl _
theorem wharfagelaw0_CopyNode.info3 : (Try.prog.info? 86).map (fun i => (i.zero, i.size, i.bytes)) = some (some (.agg #[(.bool false), (.int .i64 0)]), 2, 16) := by kernel_rfl
theorem wharfagelaw0_CopyNode.info4 : (Try.prog.info? 91).map (fun i => (i.zero, i.size, i.bytes)) = some (some (.agg #[(.int .i64 0), (.int .i64 0), (.int .i64 0), (.int .i64 0), (.int .i64 0)]), 5, 40) := by kernel_rfl
theorem wharfagelaw0_CopyNode.info5 : (Try.prog.info? 50).map (fun i => (i.zero, i.size, i.bytes)) = some (some (.agg #[(.int .i64 0), (.int .i64 0), (.int .i64 0), (.int .i64 0), (.int .i64 0), (.int .i64 0), (.bool false), (.int .i64 0), (.int .i64 0)]), 9, 72) := by kernel_rfl
theorem cn_lt {w : World} {b : Nat} {o : Obj} (h : w.heap[b]? = some o) : b < w.heap.size := (Array.getElem?_eq_some_iff.1 h).1
theorem cn_below {w w1 : World} {b : Nat} {o : Obj} (h : w.heap[b]? = some o) (hb : Below w.heap.size w w1) : w1.heap[b]? = some o := (hb.block b (cn_lt h)).trans h
theorem cn_alloc {w : World} {b : Nat} {o : Obj} (h : w.heap[b]? = some o) (o2 : Obj) : (w.alloc o2).heap[b]? = some o := (Below.heap_alloc w o2 _ (cn_lt h)).trans h
theorem cn_cell {w : World} {b j : Nat} {cs : Array Value} {t : TypeId} {m : Nat × Nat} (h : w.heap[b]? = some (.cells cs t m)) : w.cell? ⟨b, j, none⟩ = cs[j]? := by simp [World.cell?, h]
theorem cn_free {w : World} {b j : Nat} {cs : Array Value} {t : TypeId} (h : w.heap[b]? = some (.cells cs t (0, 0))) : w.frozen? ⟨b, j, none⟩ = false := by simp [World.frozen?, h]
theorem wharfagelaw0_CopyNode.tab1 : rtab .any (opsOf Try.f5 1) = rtab .any (opsOf Try.f5 1) := rfl
def wharfagelaw0_CopyNode.B1 : List Nat := [0, 1, 0, 4, 0, 16, 48, 0, 0, 256, 1008, 0, 0, 4096, 16368, 0, 0, 65536, 262128, 524287, 1048575]
theorem wharfagelaw0_CopyNode.bits1 : waitsOk (rtab .any (opsOf Try.f5 1)).2 wharfagelaw0_CopyNode.B1 = true := by kernel_rfl
theorem wharfagelaw0_CopyNode.hide {P : Program} {c : Code} {Q : Exit → Act → World → Prop} {a : Act} {w : World} (R : World → Prop) (h : R w) (k : ∀ w', R w' → c.wp P Q a w') : c.wp P Q a w := k w h
theorem wharfagelaw0_CopyNode.lit {α : Type} (d : Kd α) (e base : Nat) (W : World) (hb : base ≤ W.heap.size) : Kd.R d e (W.alloc (.cells #[] e)) base (fun k => k = W.heap.size) (.slice (some ⟨W.heap.size, 0, none⟩) 0 0) [] := by
 refine ⟨fun k hk => ?_, [], ?_, ?_⟩
 ·have : W.heap.size = k := by simpa [Value.ownBlock] using hk
  exact this.symm
 ·have h2 := World.ownsRow_lit (base := base) (e := e) (size := d.sz) W #[] 0 hb (by simp [maxLen]) (by simp)
  simpa using h2
 ·exact Reps.none _ _
set_option maxHeartbeats 8000000 in
set_option maxRecDepth 100000 in
theorem wharfagelaw0_CopyNode.calls (k : Nat) (a0 a1 : Int) (A2 : Option Addr) (c2 : Nat) (l2 : List S53) (A3 : Option Addr) (c3 : Nat) (l3 : List S86) (A4 : Option Addr) (c4 : Nat) (l4 : List S91) (A5 : Option Addr) (c5 : Nat) (l5 : List S50) (a6 : Int) (r1 r2 : Int) (r3 : List S53) (r4 : List S86) (r5 : List S91) (r6 : List S50) (r7 : Int) (w : World) (hr2 : Kd.C k53 w A2 l2.length l2) (hc2 : l2.length ≤ c2) (hr3 : Kd.C k86 w A3 l3.length l3) (hc3 : l3.length ≤ c3) (hr4 : Kd.C k91 w A4 l4.length l4) (hc4 : l4.length ≤ c4) (hr5 : Kd.C k50 w A5 l5.length l5) (hc5 : l5.length ≤ c5) (h : wharfagelaw0_CopyNode.f k a0 a1 l2 l3 l4 l5 a6 = some (r1, r2, r3, r4, r5, r6, r7)) :
  Calls Try.prog 5 #[.agg #[.int .i64 a0, .int .i64 a1, .slice A2 l2.length c2, .slice A3 l3.length c3, .slice A4 l4.length c4, .slice A5 l5.length c5, .int .i64 a6]] w fun e w' => ∃ v2_ v3_ v4_ v5_ : Value, e = .returned (.agg #[.int .i64 r1, .int .i64 r2, v2_, v3_, v4_, v5_, .int .i64 r7]) ∧ Kd.S k53 53 w' w.heap.size (fun _ => True) v2_ r3 ∧ Kd.R k86 86 w' w.heap.size (fun _ => True) v3_ r4 ∧ Kd.R k91 91 w' w.heap.size (fun _ => True) v4_ r5 ∧ Kd.R k50 50 w' w.heap.size (fun _ => True) v5_ r6 ∧ Below w.heap.size w w' := by
 unfold wharfagelaw0_CopyNode.f at h
 by_cases hlt : l3.length < 8796093022208 ∧ l4.length < 3518437208883 ∧ l5.length < 1954687338268
 case neg => rw [if_neg hlt] at h; exact absurd h (by simp)
 rw [if_pos hlt] at h
 obtain ⟨⟨tv, tl⟩, ht, h⟩ := Option.bind_eq_some_iff.mp h
 obtain ⟨rfl, rfl, rfl, rfl, rfl, rfl, rfl⟩ : a0 = r1 ∧ tv = r2 ∧ tl = r3 ∧ l3 = r4 ∧ l4 = r5 ∧ l5 = r6 ∧ a6 = r7 := by simpa using h
 have HT := Aside0.mk ht
 have HLT := Aside0.mk hlt
 have HN := Aside0.mk (And.intro hr2 (And.intro hr3 (And.intro hr4 hr5)))
 have HC2 := Aside0.mk hc2
 have hu := Try.underlying29
 clear h ht hlt hr2 hc2 hr3 hc3 hr4 hc4 hr5 hc5
 go_enter Try.func5, Try.ntmps5
 go_wp2_with fail
 obtain ⟨n2, hn2⟩ : ∃ n, n = w.heap.size + 1 := ⟨_, rfl⟩
 obtain ⟨n1, hn1⟩ : ∃ n, n = w.heap.size := ⟨_, rfl⟩
 obtain ⟨wb, hwb⟩ : ∃ x_, x_ = (w.alloc (.cells #[.int .i64 a0, .int .i64 a1, .slice A2 l2.length c2, .slice A3 l3.length c3, .slice A4 l4.length c4, .slice A5 l5.length c5, .int .i64 a6] 29)).alloc (.cells #[.int .i64 0, .int .i64 0, .slice none 0 0, .slice none 0 0, .slice none 0 0, .slice none 0 0, .int .i64 0] 29) := ⟨_, rfl⟩
 have H1 := Aside0.mk (show wb.heap[n1]? = some (.cells #[.int .i64 a0, .int .i64 a1, .slice A2 l2.length c2, .slice A3 l3.length c3, .slice A4 l4.length c4, .slice A5 l5.length c5, .int .i64 a6] 29 (0, 0)) by rw [hwb, hn1]; exact cn_alloc (heap_alloc_new w _) _)
 have H2 := Aside0.mk (show wb.heap[n2]? = some (.cells #[.int .i64 0, .int .i64 0, .slice none 0 0, .slice none 0 0, .slice none 0 0, .slice none 0 0, .int .i64 0] 29 (0, 0)) by rw [hwb, hn2]; simpa only [World.size_alloc] using heap_alloc_new (w.alloc (.cells #[.int .i64 a0, .int .i64 a1, .slice A2 l2.length c2, .slice A3 l3.length c3, .slice A4 l4.length c4, .slice A5 l5.length c5, .int .i64 a6] 29)) (.cells #[.int .i64 0, .int .i64 0, .slice none 0 0, .slice none 0 0, .slice none 0 0, .slice none 0 0, .int .i64 0] 29 (0, 0)))
 have HB := Aside0.mk (show Below w.heap.size w wb by rw [hwb]; exact below_alloc (below_alloc (Below.refl _ _) _) _)
 have HNN := Aside0.mk (show w.heap.size ≤ n1 ∧ w.heap.size ≤ n2 ∧ n1 ≠ n2 by omega)
 rw [← hwb, ← hn2, ← hn1]
 clear hwb hn2 hn1
 refine start_ (n := 21) (S := fun w' => True) (ds := []) #[false, false, false, false, false, false, false, false, false, false, false, false, false, false, false, false, false, false, false, false, false] (by kernel_rfl) rfl rfl trivial (fun hHeld => ?_); refine with_tabW wharfagelaw0_CopyNode.tab1 wharfagelaw0_CopyNode.bits1 (fun HT_ HW_ => ?_)
 refine inv_at [0, 1, 2, 3, 4, 5, 6, 7, 8, 9, 10, 11, 12, 13, 14, 15, 16, 17, 18, 19, 20] (fun a0_ b a w' => ∃ (AS : Option Addr) (cS : Nat) (B3 : Option Addr) (d3 : Nat) (B4 : Option Addr) (d4 : Nat) (B5 : Option Addr) (d5 : Nat) (s3 s4 s5 vz : Value) (wq : World), a = putSel a0_ b [(0, 3, .pointer (some ⟨n1, 0, none⟩)), (1, 4, .int .i64 a0), (2, 5, .pointer (some ⟨n1, 6, none⟩)), (3, 6, .int .i64 a6), (4, 7, .pointer (some ⟨n1, 1, none⟩)), (5, 8, .agg #[.int .i64 a1, .slice A2 l2.length c2]), (6, 9, .agg #[.int .i64 tv, .slice AS tl.length cS]), (7, 10, s3), (8, 11, .pointer (some ⟨n1, 3, none⟩)), (9, 12, .slice A3 l3.length c3), (10, 13, .slice B3 l3.length d3), (11, 14, s4), (12, 15, .pointer (some ⟨n1, 4, none⟩)), (13, 16, .slice A4 l4.length c4), (14, 17, .slice B4 l4.length d4), (15, 18, s5), (16, 19, .pointer (some ⟨n1, 5, none⟩)), (17, 20, .slice A5 l5.length c5), (18, 21, .slice B5 l5.length d5), (19, 22, vz)] ∧ Below wb.heap.size wb wq ∧ (b 20 = false → w' = wq) ∧ (b 20 = true → w' = (((((((wq.setCell ⟨n2, 0, none⟩ (.int .i64 a0)).setCell ⟨n2, 1, none⟩ (.int .i64 tv)).setCell ⟨n2, 2, none⟩ (.slice AS tl.length cS)).setCell ⟨n2, 3, none⟩ (.slice B3 l3.length d3)).setCell ⟨n2, 4, none⟩ (.slice B4 l4.length d4)).setCell ⟨n2, 5, none⟩ (.slice B5 l5.length d5)).setCell ⟨n2, 6, none⟩ (.int .i64 a6))) ∧ (b 19 = true → vz = .agg #[.int .i64 a0, .int .i64 tv, .slice AS tl.length cS, .slice B3 l3.length d3, .slice B4 l4.length d4, .slice B5 l5.length d5, .int .i64 a6]) ∧ (b 6 = true → Kd.S k53 53 wq wb.heap.size (fun _ => True) (.slice AS tl.length cS) tl) ∧ (b 7 = true → b 10 = false → Kd.R k86 86 wq wb.heap.size (fun _ => True) (s3) []) ∧ (b 10 = true → Kd.R k86 86 wq wb.heap.size (fun _ => True) (.slice B3 l3.length d3) l3) ∧ (b 11 = true → b 14 = false → Kd.R k91 91 wq wb.heap.size (fun _ => True) (s4) []) ∧ (b 14 = true → Kd.R k91 91 wq wb.heap.size (fun _ => True) (.slice B4 l4.length d4) l4) ∧ (b 15 = true → b 18 = false → Kd.R k50 50 wq wb.heap.size (fun _ => True) (s5) []) ∧ (b 18 = true → Kd.R k50 50 wq wb.heap.size (fun _ => True) (.slice B5 l5.length d5) l5)) HT_.out HW_.out (by kernel_rfl) (by kernel_rfl) ?_ ?_ ?_
 ·exact ⟨none, 0, none, 0, none, 0, none, 0, .slice none 0 0, .slice none 0 0, .slice none 0 0, .slice none 0 0, _, by simp only [putSel, Bool.false_eq_true, if_false], below_drew1 (Below.refl _ _), fun _ => rfl, fun h_ => absurd h_ (by decide), fun h_ => absurd h_ (by decide), fun h_ => absurd h_ (by decide), fun h_ => absurd h_ (by decide), fun h_ => absurd h_ (by decide), fun h_ => absurd h_ (by decide), fun h_ => absurd h_ (by decide), fun h_ => absurd h_ (by decide), fun h_ => absurd h_ (by decide)⟩
 ·skip
  refine steps_cons ?_ ?_
  ·rintro b a w' ⟨AS, cS, B3, d3, B4, d4, B5, d5, s3, s4, s5, vz, wq, ha, QB, Wf, Wt, QZ, QS, L3, R3, L4, R4, L5, R5⟩ hb_ hon hoff
   have hw_ := Wf (hoff 20 (by kernel_rfl))
   subst hw_
   refine ⟨_, rfl, fun K hK => ?_⟩
   have e1 : a.tmps[1]? = some (.pointer (some ⟨n1, 0, none⟩)) := by rw [ha]; exact (putSel_off rfl).trans rfl
   replace ha := Aside0.mk ha
   refine value_ (w1 := w') (v := .pointer (some ⟨n1, 0, none⟩)) (by rfl) rfl ?_ ?_
   ·go_simp
    try rfl
   exact hK.out _ _ ⟨AS, cS, B3, d3, B4, d4, B5, d5, s3, s4, s5, vz, w', (by rw [ha.out]; exact putSel_upk 0 hb_ rfl rfl rfl), QB, fun _ => rfl, fun h_ => absurd ((hoff 20 (by kernel_rfl)).symm.trans h_) (by decide), QZ, QS, L3, R3, L4, R4, L5, R5⟩
  refine steps_cons ?_ ?_
  ·rintro b a w' ⟨AS, cS, B3, d3, B4, d4, B5, d5, s3, s4, s5, vz, wq, ha, QB, Wf, Wt, QZ, QS, L3, R3, L4, R4, L5, R5⟩ hb_ hon hoff
   have hw_ := Wf (hoff 20 (by kernel_rfl))
   subst hw_
   refine ⟨_, rfl, fun K hK => ?_⟩
   have e3 : a.tmps[3]? = some (.pointer (some ⟨n1, 0, none⟩)) := by rw [ha]; exact putSel_on (e := (0, 3, .pointer (some ⟨n1, 0, none⟩))) 0 rfl rfl (hon 0 (by kernel_rfl)) rfl
   have q0 : w'.cell? ⟨n1, 0, none⟩ = some (.int .i64 a0) := (cn_cell (cn_below H1.out QB)).trans rfl
   have q1 : w'.cell? ⟨n1, 1, none⟩ = some (.int .i64 a1) := (cn_cell (cn_below H1.out QB)).trans rfl
   have q2 : w'.cell? ⟨n1, 2, none⟩ = some (.slice A2 l2.length c2) := (cn_cell (cn_below H1.out QB)).trans rfl
   have q3 : w'.cell? ⟨n1, 3, none⟩ = some (.slice A3 l3.length c3) := (cn_cell (cn_below H1.out QB)).trans rfl
   have q4 : w'.cell? ⟨n1, 4, none⟩ = some (.slice A4 l4.length c4) := (cn_cell (cn_below H1.out QB)).trans rfl
   have q5 : w'.cell? ⟨n1, 5, none⟩ = some (.slice A5 l5.length c5) := (cn_cell (cn_below H1.out QB)).trans rfl
   have q6 : w'.cell? ⟨n1, 6, none⟩ = some (.int .i64 a6) := (cn_cell (cn_below H1.out QB)).trans rfl
   replace ha := Aside0.mk ha
   refine value_ (w1 := w') (v := .int .i64 a0) (by rfl) rfl ?_ ?_
   ·go_simp
    try rfl
   exact hK.out _ _ ⟨AS, cS, B3, d3, B4, d4, B5, d5, s3, s4, s5, vz, w', (by rw [ha.out]; exact putSel_upk 1 hb_ rfl rfl rfl), QB, fun _ => rfl, fun h_ => absurd ((hoff 20 (by kernel_rfl)).symm.trans h_) (by decide), QZ, QS, L3, R3, L4, R4, L5, R5⟩
  refine steps_cons ?_ ?_
  ·rintro b a w' ⟨AS, cS, B3, d3, B4, d4, B5, d5, s3, s4, s5, vz, wq, ha, QB, Wf, Wt, QZ, QS, L3, R3, L4, R4, L5, R5⟩ hb_ hon hoff
   have hw_ := Wf (hoff 20 (by kernel_rfl))
   subst hw_
   refine ⟨_, rfl, fun K hK => ?_⟩
   have e1 : a.tmps[1]? = some (.pointer (some ⟨n1, 0, none⟩)) := by rw [ha]; exact (putSel_off rfl).trans rfl
   replace ha := Aside0.mk ha
   refine value_ (w1 := w') (v := .pointer (some ⟨n1, 6, none⟩)) (by rfl) rfl ?_ ?_
   ·go_simp
    try rfl
   exact hK.out _ _ ⟨AS, cS, B3, d3, B4, d4, B5, d5, s3, s4, s5, vz, w', (by rw [ha.out]; exact putSel_upk 2 hb_ rfl rfl rfl), QB, fun _ => rfl, fun h_ => absurd ((hoff 20 (by kernel_rfl)).symm.trans h_) (by decide), QZ, QS, L3, R3, L4, R4, L5, R5⟩
  refine steps_cons ?_ ?_
  ·rintro b a w' ⟨AS, cS, B3, d3, B4, d4, B5, d5, s3, s4, s5, vz, wq, ha, QB, Wf, Wt, QZ, QS, L3, R3, L4, R4, L5, R5⟩ hb_ hon hoff
   have hw_ := Wf (hoff 20 (by kernel_rfl))
   subst hw_
   refine ⟨_, rfl, fun K hK => ?_⟩
   have e5 : a.tmps[5]? = some (.pointer (some ⟨n1, 6, none⟩)) := by rw [ha]; exact putSel_on (e := (2, 5, .pointer (some ⟨n1, 6, none⟩))) 2 rfl rfl (hon 2 (by kernel_rfl)) rfl
   have q0 : w'.cell? ⟨n1, 0, none⟩ = some (.int .i64 a0) := (cn_cell (cn_below H1.out QB)).trans rfl
   have q1 : w'.cell? ⟨n1, 1, none⟩ = some (.int .i64 a1) := (cn_cell (cn_below H1.out QB)).trans rfl
   have q2 : w'.cell? ⟨n1, 2, none⟩ = some (.slice A2 l2.length c2) := (cn_cell (cn_below H1.out QB)).trans rfl
   have q3 : w'.cell? ⟨n1, 3, none⟩ = some (.slice A3 l3.length c3) := (cn_cell (cn_below H1.out QB)).trans rfl
   have q4 : w'.cell? ⟨n1, 4, none⟩ = some (.slice A4 l4.length c4) := (cn_cell (cn_below H1.out QB)).trans rfl
   have q5 : w'.cell? ⟨n1, 5, none⟩ = some (.slice A5 l5.length c5) := (cn_cell (cn_below H1.out QB)).trans rfl
   have q6 : w'.cell? ⟨n1, 6, none⟩ = some (.int .i64 a6) := (cn_cell (cn_below H1.out QB)).trans rfl
   replace ha := Aside0.mk ha
   refine value_ (w1 := w') (v := .int .i64 a6) (by rfl) rfl ?_ ?_
   ·go_simp
    try rfl
   exact hK.out _ _ ⟨AS, cS, B3, d3, B4, d4, B5, d5, s3, s4, s5, vz, w', (by rw [ha.out]; exact putSel_upk 3 hb_ rfl rfl rfl), QB, fun _ => rfl, fun h_ => absurd ((hoff 20 (by kernel_rfl)).symm.trans h_) (by decide), QZ, QS, L3, R3, L4, R4, L5, R5⟩
  refine steps_cons ?_ ?_
  ·rintro b a w' ⟨AS, cS, B3, d3, B4, d4, B5, d5, s3, s4, s5, vz, wq, ha, QB, Wf, Wt, QZ, QS, L3, R3, L4, R4, L5, R5⟩ hb_ hon hoff
   have hw_ := Wf (hoff 20 (by kernel_rfl))
   subst hw_
   refine ⟨_, rfl, fun K hK => ?_⟩
   have e1 : a.tmps[1]? = some (.pointer (some ⟨n1, 0, none⟩)) := by rw [ha]; exact (putSel_off rfl).trans rfl
   replace ha := Aside0.mk ha
   refine value_ (w1 := w') (v := .pointer (some ⟨n1, 1, none⟩)) (by rfl) rfl ?_ ?_
   ·go_simp
    try rfl
   exact hK.out _ _ ⟨AS, cS, B3, d3, B4, d4, B5, d5, s3, s4, s5, vz, w', (by rw [ha.out]; exact putSel_upk 4 hb_ rfl rfl rfl), QB, fun _ => rfl, fun h_ => absurd ((hoff 20 (by kernel_rfl)).symm.trans h_) (by decide), QZ, QS, L3, R3, L4, R4, L5, R5⟩
  refine steps_cons ?_ ?_
  ·rintro b a w' ⟨AS, cS, B3, d3, B4, d4, B5, d5, s3, s4, s5, vz, wq, ha, QB, Wf, Wt, QZ, QS, L3, R3, L4, R4, L5, R5⟩ hb_ hon hoff
   have hw_ := Wf (hoff 20 (by kernel_rfl))
   subst hw_
   refine ⟨_, rfl, fun K hK => ?_⟩
   have e7 : a.tmps[7]? = some (.pointer (some ⟨n1, 1, none⟩)) := by rw [ha]; exact putSel_on (e := (4, 7, .pointer (some ⟨n1, 1, none⟩))) 4 rfl rfl (hon 4 (by kernel_rfl)) rfl
   have q0 : w'.cell? ⟨n1, 0, none⟩ = some (.int .i64 a0) := (cn_cell (cn_below H1.out QB)).trans rfl
   have q1 : w'.cell? ⟨n1, 1, none⟩ = some (.int .i64 a1) := (cn_cell (cn_below H1.out QB)).trans rfl
   have q2 : w'.cell? ⟨n1, 2, none⟩ = some (.slice A2 l2.length c2) := (cn_cell (cn_below H1.out QB)).trans rfl
   have q3 : w'.cell? ⟨n1, 3, none⟩ = some (.slice A3 l3.length c3) := (cn_cell (cn_below H1.out QB)).trans rfl
   have q4 : w'.cell? ⟨n1, 4, none⟩ = some (.slice A4 l4.length c4) := (cn_cell (cn_below H1.out QB)).trans rfl
   have q5 : w'.cell? ⟨n1, 5, none⟩ = some (.slice A5 l5.length c5) := (cn_cell (cn_below H1.out QB)).trans rfl
   have q6 : w'.cell? ⟨n1, 6, none⟩ = some (.int .i64 a6) := (cn_cell (cn_below H1.out QB)).trans rfl
   replace ha := Aside0.mk ha
   refine value_ (w1 := w') (v := .agg #[.int .i64 a1, .slice A2 l2.length c2]) (by rfl) rfl ?_ ?_
   ·go_simp
    try rfl
   exact hK.out _ _ ⟨AS, cS, B3, d3, B4, d4, B5, d5, s3, s4, s5, vz, w', (by rw [ha.out]; exact putSel_upk 5 hb_ rfl rfl rfl), QB, fun _ => rfl, fun h_ => absurd ((hoff 20 (by kernel_rfl)).symm.trans h_) (by decide), QZ, QS, L3, R3, L4, R4, L5, R5⟩
  refine steps_cons ?_ ?_
  ·rintro b a w' ⟨AS, cS, B3, d3, B4, d4, B5, d5, s3, s4, s5, vz, wq, ha, QB, Wf, Wt, QZ, QS, L3, R3, L4, R4, L5, R5⟩ hb_ hon hoff
   have hw_ := Wf (hoff 20 (by kernel_rfl))
   subst hw_
   refine ⟨_, rfl, fun K hK => ?_⟩
   have e8 : a.tmps[8]? = some (.agg #[.int .i64 a1, .slice A2 l2.length c2]) := by rw [ha]; exact putSel_on (e := (5, 8, .agg #[.int .i64 a1, .slice A2 l2.length c2])) 5 rfl rfl (hon 5 (by kernel_rfl)) rfl
   replace ha := Aside0.mk ha
   refine goes_ Try.func15 (by kernel_rfl) rfl #[.agg #[.int .i64 a1, .slice A2 l2.length c2]] (by rfl) rfl rfl (by simp only [List.map_toArray, List.map_cons, List.map_nil, Act.eval, Array.getD_eq_getD_getElem?, e8, Option.getD_some]) ?_
   refine (wharfagelaw0_CopyConfig.calls k a1 A2 c2 l2 tv tl _ (Kd.C_below HN.out.1 (below_step HB.out QB)) HC2.out HT.out).mono ?_
   rintro e wc ⟨v1, rfl, ho, hb⟩
   have hR := Kd.S_lower ho (below_size QB)
   obtain ⟨AV, cV, rfl⟩ := Kd.S_slice hR
   refine ⟨_, rfl, ?_⟩
   exact hK.out _ _ ⟨AV, cV, B3, d3, B4, d4, B5, d5, s3, s4, s5, vz, wc, (by rw [ha.out]; exact putSel_upk 6 hb_ rfl rfl rfl), below_step QB hb, fun _ => rfl, fun h_ => absurd ((hoff 20 (by kernel_rfl)).symm.trans h_) (by decide), fun h_ => absurd ((hoff 19 (by kernel_rfl)).symm.trans h_) (by decide), fun _ => hR, fun h1_ h2_ => Kd.R_below (L3 h1_ h2_) hb, fun h_ => Kd.R_below (R3 h_) hb, fun h1_ h2_ => Kd.R_below (L4 h1_ h2_) hb, fun h_ => Kd.R_below (R4 h_) hb, fun h1_ h2_ => Kd.R_below (L5 h1_ h2_) hb, fun h_ => Kd.R_below (R5 h_) hb⟩
  refine steps_cons ?_ ?_
  ·rintro b a w' ⟨AS, cS, B3, d3, B4, d4, B5, d5, s3, s4, s5, vz, wq, ha, QB, Wf, Wt, QZ, QS, L3, R3, L4, R4, L5, R5⟩ hb_ hon hoff
   have hw_ := Wf (hoff 20 (by kernel_rfl))
   subst hw_
   refine ⟨_, rfl, fun K hK => ?_⟩
   replace ha := Aside0.mk ha
   refine Kd.R_lit_step k86 (w0 := wb) wb.heap.size 86 (by rfl) rfl (xs := ([] : List S86)) (inner := []) (ok := fun _ => True) (okp := fun _ => True) ?_ (Reps.none _ _) (fun _ hk => hk) trivial QB (below_size QB) (by simp) ?_
   ·first | (go_simp; done) | (go_simp; rfl)
   intro v1 w1 hR hb hg_ hat_
   exact hK.out _ _ ⟨AS, cS, B3, d3, B4, d4, B5, d5, v1, s4, s5, vz, w1, (by rw [ha.out]; exact putSel_upk 7 hb_ rfl rfl rfl), hb, fun _ => rfl, fun h_ => absurd ((hoff 20 (by kernel_rfl)).symm.trans h_) (by decide), fun h_ => absurd ((hoff 19 (by kernel_rfl)).symm.trans h_) (by decide), fun h_ => Kd.S_grown (QS h_) hg_ (fun _ _ => by simp), fun _ _ => hR, fun h_ => absurd ((hoff 10 (by kernel_rfl)).symm.trans h_) (by decide), fun h1_ h2_ => Kd.R_grown (L4 h1_ h2_) hg_ (fun _ _ => by simp), fun h_ => Kd.R_grown (R4 h_) hg_ (fun _ _ => by simp), fun h1_ h2_ => Kd.R_grown (L5 h1_ h2_) hg_ (fun _ _ => by simp), fun h_ => Kd.R_grown (R5 h_) hg_ (fun _ _ => by simp)⟩
  refine steps_cons ?_ ?_
  ·rintro b a w' ⟨AS, cS, B3, d3, B4, d4, B5, d5, s3, s4, s5, vz, wq, ha, QB, Wf, Wt, QZ, QS, L3, R3, L4, R4, L5, R5⟩ hb_ hon hoff
   have hw_ := Wf (hoff 20 (by kernel_rfl))
   subst hw_
   refine ⟨_, rfl, fun K hK => ?_⟩
   have e1 : a.tmps[1]? = some (.pointer (some ⟨n1, 0, none⟩)) := by rw [ha]; exact (putSel_off rfl).trans rfl
   replace ha := Aside0.mk ha
   refine value_ (w1 := w') (v := .pointer (some ⟨n1, 3, none⟩)) (by rfl) rfl ?_ ?_
   ·go_simp
    try rfl
   exact hK.out _ _ ⟨AS, cS, B3, d3, B4, d4, B5, d5, s3, s4, s5, vz, w', (by rw [ha.out]; exact putSel_upk 8 hb_ rfl rfl rfl), QB, fun _ => rfl, fun h_ => absurd ((hoff 20 (by kernel_rfl)).symm.trans h_) (by decide), QZ, QS, L3, R3, L4, R4, L5, R5⟩
  refine steps_cons ?_ ?_
  ·rintro b a w' ⟨AS, cS, B3, d3, B4, d4, B5, d5, s3, s4, s5, vz, wq, ha, QB, Wf, Wt, QZ, QS, L3, R3, L4, R4, L5, R5⟩ hb_ hon hoff
   have hw_ := Wf (hoff 20 (by kernel_rfl))
   subst hw_
   refine ⟨_, rfl, fun K hK => ?_⟩
   have e11 : a.tmps[11]? = some (.pointer (some ⟨n1, 3, none⟩)) := by rw [ha]; exact putSel_on (e := (8, 11, .pointer (some ⟨n1, 3, none⟩))) 8 rfl rfl (hon 8 (by kernel_rfl)) rfl
   have q0 : w'.cell? ⟨n1, 0, none⟩ = some (.int .i64 a0) := (cn_cell (cn_below H1.out QB)).trans rfl
   have q1 : w'.cell? ⟨n1, 1, none⟩ = some (.int .i64 a1) := (cn_cell (cn_below H1.out QB)).trans rfl
   have q2 : w'.cell? ⟨n1, 2, none⟩ = some (.slice A2 l2.length c2) := (cn_cell (cn_below H1.out QB)).trans rfl
   have q3 : w'.cell? ⟨n1, 3, none⟩ = some (.slice A3 l3.length c3) := (cn_cell (cn_below H1.out QB)).trans rfl
   have q4 : w'.cell? ⟨n1, 4, none⟩ = some (.slice A4 l4.length c4) := (cn_cell (cn_below H1.out QB)).trans rfl
   have q5 : w'.cell? ⟨n1, 5, none⟩ = some (.slice A5 l5.length c5) := (cn_cell (cn_below H1.out QB)).trans rfl
   have q6 : w'.cell? ⟨n1, 6, none⟩ = some (.int .i64 a6) := (cn_cell (cn_below H1.out QB)).trans rfl
   replace ha := Aside0.mk ha
   refine value_ (w1 := w') (v := .slice A3 l3.length c3) (by rfl) rfl ?_ ?_
   ·go_simp
    try rfl
   exact hK.out _ _ ⟨AS, cS, B3, d3, B4, d4, B5, d5, s3, s4, s5, vz, w', (by rw [ha.out]; exact putSel_upk 9 hb_ rfl rfl rfl), QB, fun _ => rfl, fun h_ => absurd ((hoff 20 (by kernel_rfl)).symm.trans h_) (by decide), QZ, QS, L3, R3, L4, R4, L5, R5⟩
  refine steps_cons ?_ ?_
  ·rintro b a w' ⟨AS, cS, B3, d3, B4, d4, B5, d5, s3, s4, s5, vz, wq, ha, QB, Wf, Wt, QZ, QS, L3, R3, L4, R4, L5, R5⟩ hb_ hon hoff
   have hw_ := Wf (hoff 20 (by kernel_rfl))
   subst hw_
   refine ⟨_, rfl, fun K hK => ?_⟩
   have e10 : a.tmps[10]? = some (s3) := by rw [ha]; exact putSel_on (e := (7, 10, s3)) 7 rfl rfl (hon 7 (by kernel_rfl)) rfl
   have e12 : a.tmps[12]? = some (.slice A3 l3.length c3) := by rw [ha]; exact putSel_on (e := (9, 12, .slice A3 l3.length c3)) 9 rfl rfl (hon 9 (by kernel_rfl)) rfl
   replace ha := Aside0.mk ha
   have hk_ := hb_
   have hL := L3 (hon 7 (by kernel_rfl)) hk_
   refine Kd.R_append_rows_step k86 (w0 := wb) wb.heap.size (by rfl) (.tmp 10) (.tmp 12) 25 86 (.agg #[(.bool false), (.int .i64 0)]) 16 rfl Try.underlying25 wharfagelaw0_CopyNode.info3 rfl (by decide) (by omega) s3 [] l3 A3 l3.length c3 (fun _ => True) (fun _ => False) (by simp only [Act.eval, Array.getD_eq_getD_getElem?, e10, Option.getD_some]) (by simp only [Act.eval, Array.getD_eq_getD_getElem?, e12, Option.getD_some]) hL (Kd.C_below HN.out.2.1 (below_step HB.out QB)) (fun _ _ h => h) (fun _ h => h.elim) (fun _ _ => trivial) QB (below_size QB) (by have h9 := HLT.out.1; simp; omega) ?_
   intro v1 w1 hR hb hg_ hat_
   rw [List.nil_append] at hR
   obtain ⟨AV, cV, rfl⟩ := Kd.R_slice hR
   exact hK.out _ _ ⟨AS, cS, AV, cV, B4, d4, B5, d5, s3, s4, s5, vz, w1, (by rw [ha.out]; exact putSel_upk 10 hb_ rfl rfl rfl), hb, fun _ => rfl, fun h_ => absurd ((hoff 20 (by kernel_rfl)).symm.trans h_) (by decide), fun h_ => absurd ((hoff 19 (by kernel_rfl)).symm.trans h_) (by decide), fun h_ => Kd.S_over' (QS h_) (Kd.R_typed hL) (by decide) hg_, fun _ h_ => absurd ((up_self b 10).symm.trans h_) (by decide), fun _ => hR, fun h1_ h2_ => Kd.R_over' (L4 h1_ h2_) (Kd.R_typed hL) (by decide) hg_, fun h_ => Kd.R_over' (R4 h_) (Kd.R_typed hL) (by decide) hg_, fun h1_ h2_ => Kd.R_over' (L5 h1_ h2_) (Kd.R_typed hL) (by decide) hg_, fun h_ => Kd.R_over' (R5 h_) (Kd.R_typed hL) (by decide) hg_⟩
  refine steps_cons ?_ ?_
  ·rintro b a w' ⟨AS, cS, B3, d3, B4, d4, B5, d5, s3, s4, s5, vz, wq, ha, QB, Wf, Wt, QZ, QS, L3, R3, L4, R4, L5, R5⟩ hb_ hon hoff
   have hw_ := Wf (hoff 20 (by kernel_rfl))
   subst hw_
   refine ⟨_, rfl, fun K hK => ?_⟩
   replace ha := Aside0.mk ha
   refine Kd.R_lit_step k91 (w0 := wb) wb.heap.size 91 (by rfl) rfl (xs := ([] : List S91)) (inner := []) (ok := fun _ => True) (okp := fun _ => True) ?_ (Reps.none _ _) (fun _ hk => hk) trivial QB (below_size QB) (by simp) ?_
   ·first | (go_simp; done) | (go_simp; rfl)
   intro v1 w1 hR hb hg_ hat_
   exact hK.out _ _ ⟨AS, cS, B3, d3, B4, d4, B5, d5, s3, v1, s5, vz, w1, (by rw [ha.out]; exact putSel_upk 11 hb_ rfl rfl rfl), hb, fun _ => rfl, fun h_ => absurd ((hoff 20 (by kernel_rfl)).symm.trans h_) (by decide), fun h_ => absurd ((hoff 19 (by kernel_rfl)).symm.trans h_) (by decide), fun h_ => Kd.S_grown (QS h_) hg_ (fun _ _ => by simp), fun h1_ h2_ => Kd.R_grown (L3 h1_ h2_) hg_ (fun _ _ => by simp), fun h_ => Kd.R_grown (R3 h_) hg_ (fun _ _ => by simp), fun _ _ => hR, fun h_ => absurd ((hoff 14 (by kernel_rfl)).symm.trans h_) (by decide), fun h1_ h2_ => Kd.R_grown (L5 h1_ h2_) hg_ (fun _ _ => by simp), fun h_ => Kd.R_grown (R5 h_) hg_ (fun _ _ => by simp)⟩
  refine steps_cons ?_ ?_
  ·rintro b a w' ⟨AS, cS, B3, d3, B4, d4, B5, d5, s3, s4, s5, vz, wq, ha, QB, Wf, Wt, QZ, QS, L3, R3, L4, R4, L5, R5⟩ hb_ hon hoff
   have hw_ := Wf (hoff 20 (by kernel_rfl))
   subst hw_
   refine ⟨_, rfl, fun K hK => ?_⟩
   have e1 : a.tmps[1]? = some (.pointer (some ⟨n1, 0, none⟩)) := by rw [ha]; exact (putSel_off rfl).trans rfl
   replace ha := Aside0.mk ha
   refine value_ (w1 := w') (v := .pointer (some ⟨n1, 4, none⟩)) (by rfl) rfl ?_ ?_
   ·go_simp
    try rfl
   exact hK.out _ _ ⟨AS, cS, B3, d3, B4, d4, B5, d5, s3, s4, s5, vz, w', (by rw [ha.out]; exact putSel_upk 12 hb_ rfl rfl rfl), QB, fun _ => rfl, fun h_ => absurd ((hoff 20 (by kernel_rfl)).symm.trans h_) (by decide), QZ, QS, L3, R3, L4, R4, L5, R5⟩
  refine steps_cons ?_ ?_
  ·rintro b a w' ⟨AS, cS, B3, d3, B4, d4, B5, d5, s3, s4, s5, vz, wq, ha, QB, Wf, Wt, QZ, QS, L3, R3, L4, R4, L5, R5⟩ hb_ hon hoff
   have hw_ := Wf (hoff 20 (by kernel_rfl))
   subst hw_
   refine ⟨_, rfl, fun K hK => ?_⟩
   have e15 : a.tmps[15]? = some (.pointer (some ⟨n1, 4, none⟩)) := by rw [ha]; exact putSel_on (e := (12, 15, .pointer (some ⟨n1, 4, none⟩))) 12 rfl rfl (hon 12 (by kernel_rfl)) rfl
   have q0 : w'.cell? ⟨n1, 0, none⟩ = some (.int .i64 a0) := (cn_cell (cn_below H1.out QB)).trans rfl
   have q1 : w'.cell? ⟨n1, 1, none⟩ = some (.int .i64 a1) := (cn_cell (cn_below H1.out QB)).trans rfl
   have q2 : w'.cell? ⟨n1, 2, none⟩ = some (.slice A2 l2.length c2) := (cn_cell (cn_below H1.out QB)).trans rfl
   have q3 : w'.cell? ⟨n1, 3, none⟩ = some (.slice A3 l3.length c3) := (cn_cell (cn_below H1.out QB)).trans rfl
   have q4 : w'.cell? ⟨n1, 4, none⟩ = some (.slice A4 l4.length c4) := (cn_cell (cn_below H1.out QB)).trans rfl
   have q5 : w'.cell? ⟨n1, 5, none⟩ = some (.slice A5 l5.length c5) := (cn_cell (cn_below H1.out QB)).trans rfl
   have q6 : w'.cell? ⟨n1, 6, none⟩ = some (.int .i64 a6) := (cn_cell (cn_below H1.out QB)).trans rfl
   replace ha := Aside0.mk ha
   refine value_ (w1 := w') (v := .slice A4 l4.length c4) (by rfl) rfl ?_ ?_
   ·go_simp
    try rfl
   exact hK.out _ _ ⟨AS, cS, B3, d3, B4, d4, B5, d5, s3, s4, s5, vz, w', (by rw [ha.out]; exact putSel_upk 13 hb_ rfl rfl rfl), QB, fun _ => rfl, fun h_ => absurd ((hoff 20 (by kernel_rfl)).symm.trans h_) (by decide), QZ, QS, L3, R3, L4, R4, L5, R5⟩
  refine steps_cons ?_ ?_
  ·rintro b a w' ⟨AS, cS, B3, d3, B4, d4, B5, d5, s3, s4, s5, vz, wq, ha, QB, Wf, Wt, QZ, QS, L3, R3, L4, R4, L5, R5⟩ hb_ hon hoff
   have hw_ := Wf (hoff 20 (by kernel_rfl))
   subst hw_
   refine ⟨_, rfl, fun K hK => ?_⟩
   have e14 : a.tmps[14]? = some (s4) := by rw [ha]; exact putSel_on (e := (11, 14, s4)) 11 rfl rfl (hon 11 (by kernel_rfl)) rfl
   have e16 : a.tmps[16]? = some (.slice A4 l4.length c4) := by rw [ha]; exact putSel_on (e := (13, 16, .slice A4 l4.length c4)) 13 rfl rfl (hon 13 (by kernel_rfl)) rfl
   replace ha := Aside0.mk ha
   have hk_ := hb_
   have hL := L4 (hon 11 (by kernel_rfl)) hk_
   refine Kd.R_append_rows_step k91 (w0 := wb) wb.heap.size (by rfl) (.tmp 14) (.tmp 16) 26 91 (.agg #[(.int .i64 0), (.int .i64 0), (.int .i64 0), (.int .i64 0), (.int .i64 0)]) 40 rfl Try.underlying26 wharfagelaw0_CopyNode.info4 rfl (by decide) (by omega) s4 [] l4 A4 l4.length c4 (fun _ => True) (fun _ => False) (by simp only [Act.eval, Array.getD_eq_getD_getElem?, e14, Option.getD_some]) (by simp only [Act.eval, Array.getD_eq_getD_getElem?, e16, Option.getD_some]) hL (Kd.C_below HN.out.2.2.1 (below_step HB.out QB)) (fun _ _ h => h) (fun _ h => h.elim) (fun _ _ => trivial) QB (below_size QB) (by have h9 := HLT.out.2.1; simp; omega) ?_
   intro v1 w1 hR hb hg_ hat_
   rw [List.nil_append] at hR
   obtain ⟨AV, cV, rfl⟩ := Kd.R_slice hR
   exact hK.out _ _ ⟨AS, cS, B3, d3, AV, cV, B5, d5, s3, s4, s5, vz, w1, (by rw [ha.out]; exact putSel_upk 14 hb_ rfl rfl rfl), hb, fun _ => rfl, fun h_ => absurd ((hoff 20 (by kernel_rfl)).symm.trans h_) (by decide), fun h_ => absurd ((hoff 19 (by kernel_rfl)).symm.trans h_) (by decide), fun h_ => Kd.S_over' (QS h_) (Kd.R_typed hL) (by decide) hg_, fun h1_ h2_ => Kd.R_over' (L3 h1_ h2_) (Kd.R_typed hL) (by decide) hg_, fun h_ => Kd.R_over' (R3 h_) (Kd.R_typed hL) (by decide) hg_, fun _ h_ => absurd ((up_self b 14).symm.trans h_) (by decide), fun _ => hR, fun h1_ h2_ => Kd.R_over' (L5 h1_ h2_) (Kd.R_typed hL) (by decide) hg_, fun h_ => Kd.R_over' (R5 h_) (Kd.R_typed hL) (by decide) hg_⟩
  refine steps_cons ?_ ?_
  ·rintro b a w' ⟨AS, cS, B3, d3, B4, d4, B5, d5, s3, s4, s5, vz, wq, ha, QB, Wf, Wt, QZ, QS, L3, R3, L4, R4, L5, R5⟩ hb_ hon hoff
   have hw_ := Wf (hoff 20 (by kernel_rfl))
   subst hw_
   refine ⟨_, rfl, fun K hK => ?_⟩
   replace ha := Aside0.mk ha
   refine Kd.R_lit_step k50 (w0 := wb) wb.heap.size 50 (by rfl) rfl (xs := ([] : List S50)) (inner := []) (ok := fun _ => True) (okp := fun _ => True) ?_ (Reps.none _ _) (fun _ hk => hk) trivial QB (below_size QB) (by simp) ?_
   ·first | (go_simp; done) | (go_simp; rfl)
   intro v1 w1 hR hb hg_ hat_
   exact hK.out _ _ ⟨AS, cS, B3, d3, B4, d4, B5, d5, s3, s4, v1, vz, w1, (by rw [ha.out]; exact putSel_upk 15 hb_ rfl rfl rfl), hb, fun _ => rfl, fun h_ => absurd ((hoff 20 (by kernel_rfl)).symm.trans h_) (by decide), fun h_ => absurd ((hoff 19 (by kernel_rfl)).symm.trans h_) (by decide), fun h_ => Kd.S_grown (QS h_) hg_ (fun _ _ => by simp), fun h1_ h2_ => Kd.R_grown (L3 h1_ h2_) hg_ (fun _ _ => by simp), fun h_ => Kd.R_grown (R3 h_) hg_ (fun _ _ => by simp), fun h1_ h2_ => Kd.R_grown (L4 h1_ h2_) hg_ (fun _ _ => by simp), fun h_ => Kd.R_grown (R4 h_) hg_ (fun _ _ => by simp), fun _ _ => hR, fun h_ => absurd ((hoff 18 (by kernel_rfl)).symm.trans h_) (by decide)⟩
  refine steps_cons ?_ ?_
  ·rintro b a w' ⟨AS, cS, B3, d3, B4, d4, B5, d5, s3, s4, s5, vz, wq, ha, QB, Wf, Wt, QZ, QS, L3, R3, L4, R4, L5, R5⟩ hb_ hon hoff
   have hw_ := Wf (hoff 20 (by kernel_rfl))
   subst hw_
   refine ⟨_, rfl, fun K hK => ?_⟩
   have e1 : a.tmps[1]? = some (.pointer (some ⟨n1, 0, none⟩)) := by rw [ha]; exact (putSel_off rfl).trans rfl
   replace ha := Aside0.mk ha
   refine value_ (w1 := w') (v := .pointer (some ⟨n1, 5, none⟩)) (by rfl) rfl ?_ ?_
   ·go_simp
    try rfl
   exact hK.out _ _ ⟨AS, cS, B3, d3, B4, d4, B5, d5, s3, s4, s5, vz, w', (by rw [ha.out]; exact putSel_upk 16 hb_ rfl rfl rfl), QB, fun _ => rfl, fun h_ => absurd ((hoff 20 (by kernel_rfl)).symm.trans h_) (by decide), QZ, QS, L3, R3, L4, R4, L5, R5⟩
  refine steps_cons ?_ ?_
  ·rintro b a w' ⟨AS, cS, B3, d3, B4, d4, B5, d5, s3, s4, s5, vz, wq, ha, QB, Wf, Wt, QZ, QS, L3, R3, L4, R4, L5, R5⟩ hb_ hon hoff
   have hw_ := Wf (hoff 20 (by kernel_rfl))
   subst hw_
   refine ⟨_, rfl, fun K hK => ?_⟩
   have e19 : a.tmps[19]? = some (.pointer (some ⟨n1, 5, none⟩)) := by rw [ha]; exact putSel_on (e := (16, 19, .pointer (some ⟨n1, 5, none⟩))) 16 rfl rfl (hon 16 (by kernel_rfl)) rfl
   have q0 : w'.cell? ⟨n1, 0, none⟩ = some (.int .i64 a0) := (cn_cell (cn_below H1.out QB)).trans rfl
   have q1 : w'.cell? ⟨n1, 1, none⟩ = some (.int .i64 a1) := (cn_cell (cn_below H1.out QB)).trans rfl
   have q2 : w'.cell? ⟨n1, 2, none⟩ = some (.slice A2 l2.length c2) := (cn_cell (cn_below H1.out QB)).trans rfl
   have q3 : w'.cell? ⟨n1, 3, none⟩ = some (.slice A3 l3.length c3) := (cn_cell (cn_below H1.out QB)).trans rfl
   have q4 : w'.cell? ⟨n1, 4, none⟩ = some (.slice A4 l4.length c4) := (cn_cell (cn_below H1.out QB)).trans rfl
   have q5 : w'.cell? ⟨n1, 5, none⟩ = some (.slice A5 l5.length c5) := (cn_cell (cn_below H1.out QB)).trans rfl
   have q6 : w'.cell? ⟨n1, 6, none⟩ = some (.int .i64 a6) := (cn_cell (cn_below H1.out QB)).trans rfl
   replace ha := Aside0.mk ha
   refine value_ (w1 := w') (v := .slice A5 l5.length c5) (by rfl) rfl ?_ ?_
   ·go_simp
    try rfl
   exact hK.out _ _ ⟨AS, cS, B3, d3, B4, d4, B5, d5, s3, s4, s5, vz, w', (by rw [ha.out]; exact putSel_upk 17 hb_ rfl rfl rfl), QB, fun _ => rfl, fun h_ => absurd ((hoff 20 (by kernel_rfl)).symm.trans h_) (by decide), QZ, QS, L3, R3, L4, R4, L5, R5⟩
  refine steps_cons ?_ ?_
  ·rintro b a w' ⟨AS, cS, B3, d3, B4, d4, B5, d5, s3, s4, s5, vz, wq, ha, QB, Wf, Wt, QZ, QS, L3, R3, L4, R4, L5, R5⟩ hb_ hon hoff
   have hw_ := Wf (hoff 20 (by kernel_rfl))
   subst hw_
   refine ⟨_, rfl, fun K hK => ?_⟩
   have e18 : a.tmps[18]? = some (s5) := by rw [ha]; exact putSel_on (e := (15, 18, s5)) 15 rfl rfl (hon 15 (by kernel_rfl)) rfl
   have e20 : a.tmps[20]? = some (.slice A5 l5.length c5) := by rw [ha]; exact putSel_on (e := (17, 20, .slice A5 l5.length c5)) 17 rfl rfl (hon 17 (by kernel_rfl)) rfl
   replace ha := Aside0.mk ha
   have hk_ := hb_
   have hL := L5 (hon 15 (by kernel_rfl)) hk_
   refine Kd.R_append_rows_step k50 (w0 := wb) wb.heap.size (by rfl) (.tmp 18) (.tmp 20) 27 50 (.agg #[(.int .i64 0), (.int .i64 0), (.int .i64 0), (.int .i64 0), (.int .i64 0), (.int .i64 0), (.bool false), (.int .i64 0), (.int .i64 0)]) 72 rfl Try.underlying27 wharfagelaw0_CopyNode.info5 rfl (by decide) (by omega) s5 [] l5 A5 l5.length c5 (fun _ => True) (fun _ => False) (by simp only [Act.eval, Array.getD_eq_getD_getElem?, e18, Option.getD_some]) (by simp only [Act.eval, Array.getD_eq_getD_getElem?, e20, Option.getD_some]) hL (Kd.C_below HN.out.2.2.2 (below_step HB.out QB)) (fun _ _ h => h) (fun _ h => h.elim) (fun _ _ => trivial) QB (below_size QB) (by have h9 := HLT.out.2.2; simp; omega) ?_
   intro v1 w1 hR hb hg_ hat_
   rw [List.nil_append] at hR
   obtain ⟨AV, cV, rfl⟩ := Kd.R_slice hR
   exact hK.out _ _ ⟨AS, cS, B3, d3, B4, d4, AV, cV, s3, s4, s5, vz, w1, (by rw [ha.out]; exact putSel_upk 18 hb_ rfl rfl rfl), hb, fun _ => rfl, fun h_ => absurd ((hoff 20 (by kernel_rfl)).symm.trans h_) (by decide), fun h_ => absurd ((hoff 19 (by kernel_rfl)).symm.trans h_) (by decide), fun h_ => Kd.S_over' (QS h_) (Kd.R_typed hL) (by decide) hg_, fun h1_ h2_ => Kd.R_over' (L3 h1_ h2_) (Kd.R_typed hL) (by decide) hg_, fun h_ => Kd.R_over' (R3 h_) (Kd.R_typed hL) (by decide) hg_, fun h1_ h2_ => Kd.R_over' (L4 h1_ h2_) (Kd.R_typed hL) (by decide) hg_, fun h_ => Kd.R_over' (R4 h_) (Kd.R_typed hL) (by decide) hg_, fun _ h_ => absurd ((up_self b 18).symm.trans h_) (by decide), fun _ => hR⟩
  refine steps_cons ?_ ?_
  ·rintro b a w' ⟨AS, cS, B3, d3, B4, d4, B5, d5, s3, s4, s5, vz, wq, ha, QB, Wf, Wt, QZ, QS, L3, R3, L4, R4, L5, R5⟩ hb_ hon hoff
   have hw_ := Wf (hoff 20 (by kernel_rfl))
   subst hw_
   refine ⟨_, rfl, fun K hK => ?_⟩
   have e4 : a.tmps[4]? = some (.int .i64 a0) := by rw [ha]; exact putSel_on (e := (1, 4, .int .i64 a0)) 1 rfl rfl (hon 1 (by kernel_rfl)) rfl
   have e6 : a.tmps[6]? = some (.int .i64 a6) := by rw [ha]; exact putSel_on (e := (3, 6, .int .i64 a6)) 3 rfl rfl (hon 3 (by kernel_rfl)) rfl
   have e9 : a.tmps[9]? = some (.agg #[.int .i64 tv, .slice AS tl.length cS]) := by rw [ha]; exact putSel_on (e := (6, 9, .agg #[.int .i64 tv, .slice AS tl.length cS])) 6 rfl rfl (hon 6 (by kernel_rfl)) rfl
   have e13 : a.tmps[13]? = some (.slice B3 l3.length d3) := by rw [ha]; exact putSel_on (e := (10, 13, .slice B3 l3.length d3)) 10 rfl rfl (hon 10 (by kernel_rfl)) rfl
   have e17 : a.tmps[17]? = some (.slice B4 l4.length d4) := by rw [ha]; exact putSel_on (e := (14, 17, .slice B4 l4.length d4)) 14 rfl rfl (hon 14 (by kernel_rfl)) rfl
   have e21 : a.tmps[21]? = some (.slice B5 l5.length d5) := by rw [ha]; exact putSel_on (e := (18, 21, .slice B5 l5.length d5)) 18 rfl rfl (hon 18 (by kernel_rfl)) rfl
   replace ha := Aside0.mk ha
   refine value_ (w1 := w') (v := .agg #[.int .i64 a0, .int .i64 tv, .slice AS tl.length cS, .slice B3 l3.length d3, .slice B4 l4.length d4, .slice B5 l5.length d5, .int .i64 a6]) (by rfl) rfl ?_ ?_
   ·go_simp
    try rfl
   exact hK.out _ _ ⟨AS, cS, B3, d3, B4, d4, B5, d5, s3, s4, s5, .agg #[.int .i64 a0, .int .i64 tv, .slice AS tl.length cS, .slice B3 l3.length d3, .slice B4 l4.length d4, .slice B5 l5.length d5, .int .i64 a6], w', (by rw [ha.out]; exact putSel_upk 19 hb_ rfl rfl rfl), QB, fun _ => rfl, fun h_ => absurd ((hoff 20 (by kernel_rfl)).symm.trans h_) (by decide), fun _ => rfl, QS, L3, R3, L4, R4, L5, R5⟩
  refine steps_cons ?_ ?_
  ·rintro b a w' ⟨AS, cS, B3, d3, B4, d4, B5, d5, s3, s4, s5, vz, wq, ha, QB, Wf, Wt, QZ, QS, L3, R3, L4, R4, L5, R5⟩ hb_ hon hoff
   have hw_ := Wf hb_
   subst hw_
   refine ⟨_, rfl, fun K hK => ?_⟩
   obtain rfl := QZ (hon 19 (by kernel_rfl))
   have e22 : a.tmps[22]? = some (.agg #[.int .i64 a0, .int .i64 tv, .slice AS tl.length cS, .slice B3 l3.length d3, .slice B4 l4.length d4, .slice B5 l5.length d5, .int .i64 a6]) := by rw [ha]; exact putSel_on (e := (19, 22, .agg #[.int .i64 a0, .int .i64 tv, .slice AS tl.length cS, .slice B3 l3.length d3, .slice B4 l4.length d4, .slice B5 l5.length d5, .int .i64 a6])) 19 rfl rfl (hon 19 (by kernel_rfl)) rfl
   have e2 : a.tmps[2]? = some (.pointer (some ⟨n2, 0, none⟩)) := by rw [ha]; exact (putSel_off rfl).trans rfl
   replace ha := Aside0.mk ha
   have z0 : w'.cell? ⟨n2, 0, none⟩ = some (.int .i64 0) := (cn_cell (cn_below H2.out QB)).trans rfl
   have y0 : w'.frozen? ⟨n2, 0, none⟩ = false := cn_free (cn_below H2.out QB)
   have z1 : w'.cell? ⟨n2, 1, none⟩ = some (.int .i64 0) := (cn_cell (cn_below H2.out QB)).trans rfl
   have y1 : w'.frozen? ⟨n2, 1, none⟩ = false := cn_free (cn_below H2.out QB)
   have z2 : w'.cell? ⟨n2, 2, none⟩ = some (.slice none 0 0) := (cn_cell (cn_below H2.out QB)).trans rfl
   have y2 : w'.frozen? ⟨n2, 2, none⟩ = false := cn_free (cn_below H2.out QB)
   have z3 : w'.cell? ⟨n2, 3, none⟩ = some (.slice none 0 0) := (cn_cell (cn_below H2.out QB)).trans rfl
   have y3 : w'.frozen? ⟨n2, 3, none⟩ = false := cn_free (cn_below H2.out QB)
   have z4 : w'.cell? ⟨n2, 4, none⟩ = some (.slice none 0 0) := (cn_cell (cn_below H2.out QB)).trans rfl
   have y4 : w'.frozen? ⟨n2, 4, none⟩ = false := cn_free (cn_below H2.out QB)
   have z5 : w'.cell? ⟨n2, 5, none⟩ = some (.slice none 0 0) := (cn_cell (cn_below H2.out QB)).trans rfl
   have y5 : w'.frozen? ⟨n2, 5, none⟩ = false := cn_free (cn_below H2.out QB)
   have z6 : w'.cell? ⟨n2, 6, none⟩ = some (.int .i64 0) := (cn_cell (cn_below H2.out QB)).trans rfl
   have y6 : w'.frozen? ⟨n2, 6, none⟩ = false := cn_free (cn_below H2.out QB)
   refine skip_ (w1 := (((((((w'.setCell ⟨n2, 0, none⟩ (.int .i64 a0)).setCell ⟨n2, 1, none⟩ (.int .i64 tv)).setCell ⟨n2, 2, none⟩ (.slice AS tl.length cS)).setCell ⟨n2, 3, none⟩ (.slice B3 l3.length d3)).setCell ⟨n2, 4, none⟩ (.slice B4 l4.length d4)).setCell ⟨n2, 5, none⟩ (.slice B5 l5.length d5)).setCell ⟨n2, 6, none⟩ (.int .i64 a6))) (by rfl) rfl ?_ ?_
   ·go_simp
    try rfl
   exact hK.out _ _ ⟨AS, cS, B3, d3, B4, d4, B5, d5, s3, s4, s5, .agg #[.int .i64 a0, .int .i64 tv, .slice AS tl.length cS, .slice B3 l3.length d3, .slice B4 l4.length d4, .slice B5 l5.length d5, .int .i64 a6], w', (by rw [ha.out]; exact (putSel_same rfl).symm), QB, fun h_ => absurd ((up_self b 20).symm.trans h_) (by decide), fun _ => rfl, fun _ => rfl, QS, L3, R3, L4, R4, L5, R5⟩
  exact steps_nil
 rintro b a wx hall ⟨AS, cS, B3, d3, B4, d4, B5, d5, s3, s4, s5, vz, wq, ha, QB, Wf, Wt, QZ, QS, L3, R3, L4, R4, L5, R5⟩
 have hb0_ := hall 0 (by kernel_rfl)
 have hb1_ := hall 1 (by kernel_rfl)
 have hb2_ := hall 2 (by kernel_rfl)
 have hb3_ := hall 3 (by kernel_rfl)
 have hb4_ := hall 4 (by kernel_rfl)
 have hb5_ := hall 5 (by kernel_rfl)
 have hb6_ := hall 6 (by kernel_rfl)
 have hb7_ := hall 7 (by kernel_rfl)
 have hb8_ := hall 8 (by kernel_rfl)
 have hb9_ := hall 9 (by kernel_rfl)
 have hb10_ := hall 10 (by kernel_rfl)
 have hb11_ := hall 11 (by kernel_rfl)
 have hb12_ := hall 12 (by kernel_rfl)
 have hb13_ := hall 13 (by kernel_rfl)
 have hb14_ := hall 14 (by kernel_rfl)
 have hb15_ := hall 15 (by kernel_rfl)
 have hb16_ := hall 16 (by kernel_rfl)
 have hb17_ := hall 17 (by kernel_rfl)
 have hb18_ := hall 18 (by kernel_rfl)
 have hb19_ := hall 19 (by kernel_rfl)
 have hb20_ := hall 20 (by kernel_rfl)
 subst ha
 simp only [putSel, hb0_, hb1_, hb2_, hb3_, hb4_, hb5_, hb6_, hb7_, hb8_, hb9_, hb10_, hb11_, hb12_, hb13_, hb14_, hb15_, hb16_, hb17_, hb18_, hb19_, if_true, Act.put, List.setIfInBounds_toArray, List.set_cons_zero, List.set_cons_succ]
 obtain rfl := Wt hb20_
 have QSb := QS hb6_
 have R3b := R3 hb10_
 have R4b := R4 hb14_
 have R5b := R5 hb18_
 clear QS L3 R3 L4 R4 L5 R5 Wf Wt
 have hz : ((((((((wq.setCell ⟨n2, 0, none⟩ (.int .i64 a0)).setCell ⟨n2, 1, none⟩ (.int .i64 tv)).setCell ⟨n2, 2, none⟩ (.slice AS tl.length cS)).setCell ⟨n2, 3, none⟩ (.slice B3 l3.length d3)).setCell ⟨n2, 4, none⟩ (.slice B4 l4.length d4)).setCell ⟨n2, 5, none⟩ (.slice B5 l5.length d5)).setCell ⟨n2, 6, none⟩ (.int .i64 a6))).heap[n2]? = some (.cells #[.int .i64 a0, .int .i64 tv, .slice AS tl.length cS, .slice B3 l3.length d3, .slice B4 l4.length d4, .slice B5 l5.length d5, .int .i64 a6] 29 (0, 0)) := by refine blk_put (cs := #[.int .i64 a0, .int .i64 tv, .slice AS tl.length cS, .slice B3 l3.length d3, .slice B4 l4.length d4, .slice B5 l5.length d5, .int .i64 0]) ?_ 6 _ rfl; refine blk_put (cs := #[.int .i64 a0, .int .i64 tv, .slice AS tl.length cS, .slice B3 l3.length d3, .slice B4 l4.length d4, .slice none 0 0, .int .i64 0]) ?_ 5 _ rfl; refine blk_put (cs := #[.int .i64 a0, .int .i64 tv, .slice AS tl.length cS, .slice B3 l3.length d3, .slice none 0 0, .slice none 0 0, .int .i64 0]) ?_ 4 _ rfl; refine blk_put (cs := #[.int .i64 a0, .int .i64 tv, .slice AS tl.length cS, .slice none 0 0, .slice none 0 0, .slice none 0 0, .int .i64 0]) ?_ 3 _ rfl; refine blk_put (cs := #[.int .i64 a0, .int .i64 tv, .slice none 0 0, .slice none 0 0, .slice none 0 0, .slice none 0 0, .int .i64 0]) ?_ 2 _ rfl; refine blk_put (cs := #[.int .i64 a0, .int .i64 0, .slice none 0 0, .slice none 0 0, .slice none 0 0, .slice none 0 0, .int .i64 0]) ?_ 1 _ rfl; refine blk_put (cs := #[.int .i64 0, .int .i64 0, .slice none 0 0, .slice none 0 0, .slice none 0 0, .slice none 0 0, .int .i64 0]) ?_ 0 _ rfl; exact cn_below H2.out QB
 have hk : KeepBut wq ((((((((wq.setCell ⟨n2, 0, none⟩ (.int .i64 a0)).setCell ⟨n2, 1, none⟩ (.int .i64 tv)).setCell ⟨n2, 2, none⟩ (.slice AS tl.length cS)).setCell ⟨n2, 3, none⟩ (.slice B3 l3.length d3)).setCell ⟨n2, 4, none⟩ (.slice B4 l4.length d4)).setCell ⟨n2, 5, none⟩ (.slice B5 l5.length d5)).setCell ⟨n2, 6, none⟩ (.int .i64 a6))) n2 none := by with_reducible repeat (first | exact KeepBut.refl _ _ _ | refine KeepBut.set_ ?_ _ _)
 have hb : Below w.heap.size w ((((((((wq.setCell ⟨n2, 0, none⟩ (.int .i64 a0)).setCell ⟨n2, 1, none⟩ (.int .i64 tv)).setCell ⟨n2, 2, none⟩ (.slice AS tl.length cS)).setCell ⟨n2, 3, none⟩ (.slice B3 l3.length d3)).setCell ⟨n2, 4, none⟩ (.slice B4 l4.length d4)).setCell ⟨n2, 5, none⟩ (.slice B5 l5.length d5)).setCell ⟨n2, 6, none⟩ (.int .i64 a6))) := by (with_reducible repeat (first | exact below_step HB.out QB | refine below_set ?_ HNN.out.2.1))
 generalize hZ : ((((((((wq.setCell ⟨n2, 0, none⟩ (.int .i64 a0)).setCell ⟨n2, 1, none⟩ (.int .i64 tv)).setCell ⟨n2, 2, none⟩ (.slice AS tl.length cS)).setCell ⟨n2, 3, none⟩ (.slice B3 l3.length d3)).setCell ⟨n2, 4, none⟩ (.slice B4 l4.length d4)).setCell ⟨n2, 5, none⟩ (.slice B5 l5.length d5)).setCell ⟨n2, 6, none⟩ (.int .i64 a6))) = Z at hz hk hb ⊢
 clear hZ
 have hu := Try.underlying29
 go_wp2_with fail
 refine bodyPost_ret (results_cell_row rfl _ _ n2 29 #[.int .i64 a0, .int .i64 tv, .slice AS tl.length cS, .slice B3 l3.length d3, .slice B4 l4.length d4, .slice B5 l5.length d5, .int .i64 a6] (0, 0) _ rfl hz Try.underlying29 rfl (by kernel_rfl)) rfl ?_
 have hle : w.heap.size ≤ wb.heap.size := below_size HB.out
 have hn2 : n2 < wb.heap.size := cn_lt H2.out
 exact ⟨_, _, _, _, rfl, Kd.S_lower (Kd.S_mono (Kd.S_keep (Kd.S_bound QSb) hk (fun k hq => by have := hq.2.1; omega)) (fun _ _ => trivial)) hle, Kd.R_lower (Kd.R_mono (Kd.R_keep (Kd.R_bound R3b) hk (fun k hq => by have := hq.2.1; omega)) (fun _ _ => trivial)) hle, Kd.R_lower (Kd.R_mono (Kd.R_keep (Kd.R_bound R4b) hk (fun k hq => by have := hq.2.1; omega)) (fun _ _ => trivial)) hle, Kd.R_lower (Kd.R_mono (Kd.R_keep (Kd.R_bound R5b) hk (fun k hq => by have := hq.2.1; omega)) (fun _ _ => trivial)) hle, hb⟩


end Go.Proofs.Ytlapbhgkmmeeoaa.PSpares
end
section
/- Contracts: what calls of these functions of the program do, each as a plain function; written by a program of this session. -/
namespace Go.Proofs.Ytlapbhgkmmeeoaa.PSpares
open Go.RowKit Go.Proofs.YtlapbhgkmmeeoaaW.PrintWords Go.Proofs.YtlapbhgkmmeeoaaW.PrintLast Go.Proofs.YtlapbhgkmmeeoaaW.PrintMore
attribute [local go_sem] max2_int min2_int max_two min_two max_three min_three max_four min_four   -- for this text's walks alone
set_option linter.unusedVariables false
set_option linter.unusedSimpArgs false

/-! ### conf_to: function 43 -/
def conf_to.f (a0 : Int) (a1 : Int) : Option (Bool) := if a0 ≥ 0 then (some (decide (a0 ≤ a1))) else (some false)
set_option maxHeartbeats 8000000 in
set_option maxRecDepth 100000 in
theorem conf_to.calls (a0 : Int) (a1 : Int) (r : Bool) (w : World) (h : conf_to.f a0 a1 = some r) :
  Calls Try.prog 43 #[.int .i64 a0, .int .i64 a1] w fun e w' => e = .returned (.bool r) ∧ Drawn0 w w' := by
 have H : (if a0 ≥ 0 then (some (decide (a0 ≤ a1))) else (some false)) = some r := h
 clear h
 by_cases c3 : a0 ≥ 0
 ·rw [if_pos c3] at H
  have c3b0 : decide (0 ≤ a0) = true := decide_eq_true c3
  clear c3
  obtain rfl := Option.some.inj H
  go_enter Try.func43, Try.ntmps43
  go_wp2
  go_ret
  exact ⟨by first | rfl | (simp; done) | (simp [*]; done), by repeat (first | exact Drawn0.refl _ | apply Drawn0.step)⟩
 ·rw [if_neg c3] at H
  have c3b0 : decide (0 ≤ a0) = false := decide_eq_false c3
  clear c3
  obtain rfl := Option.some.inj H
  go_enter Try.func43, Try.ntmps43
  go_wp2
  go_ret
  exact ⟨by first | rfl | (simp; done) | (simp [*]; done), by repeat (first | exact Drawn0.refl _ | apply Drawn0.step)⟩

/-! ### conf_Time: function 24 -/
def conf_Time.f (a0 : Int) : Option (Bool) := (conf_to.f a0 1048576).bind fun t115 => (some t115)
set_option maxHeartbeats 8000000 in
set_option maxRecDepth 100000 in
theorem conf_Time.calls (a0 : Int) (r : Bool) (w : World) (h : conf_Time.f a0 = some r) :
  Calls Try.prog 24 #[.int .i64 a0] w fun e w' => e = .returned (.bool r) ∧ Drawn0 w w' := by
 have H : ((conf_to.f a0 1048576).bind fun t115 => (some t115)) = some r := h
 clear h
 replace H := Option.bind_eq_some_iff.mp H
 obtain ⟨t115, A20, H⟩ := H
 replace H : (some t115) = some r := H
 have A2 := Aside0.mk A20
 clear A20
 obtain rfl := Option.some.inj H
 go_enter Try.func24, Try.ntmps24
 go_wp2_with (first | ((with_reducible refine gate_callee (f := 43) rfl ?_); refine goesL_ (some 4) rfl rfl Try.func43 (by kernel_rfl) rfl #[.int .i64 a0, .int .i64 1048576] rfl (by (try simp only [List.map_toArray, List.map_cons, List.map_nil]); first | done | rfl | (simp only [List.length_drop, List.length_take]; rfl)) ?_; (with_reducible refine (conf_to.calls a0 1048576 t115 _ A2.out).mono ?_); rintro e w' ⟨rfl, ⟨nd, rfl⟩⟩; refine ⟨_, rfl, ?_⟩))
 go_ret
 exact ⟨by first | rfl | (simp; done) | (simp [*]; done), by repeat (first | exact Drawn0.refl _ | apply Drawn0.step)⟩

/-! ### conf_site: function 47, by hand -/
def backOk (b : S83) : Bool := decide (0 ≤ b.f0 ∧ b.f0 ≤ 16)
def siteOk (x : S53) : Bool := x.f3.all backOk && decide (0 ≤ x.f0 ∧ x.f0 ≤ 16) && decide (0 ≤ x.f2 ∧ x.f2 ≤ 8) && decide (x.f3.length ≤ 4)
theorem conf_to.plain (x m : Int) : conf_to.f x m = some (decide (0 ≤ x ∧ x ≤ m)) := by
 unfold conf_to.f
 by_cases h : x ≥ 0
 ·rw [if_pos h]; congr 1; simp; omega
 ·rw [if_neg h]; congr 1; simp; omega
theorem conf_to.at (x m : Int) (b : Bool) (hb : decide (0 ≤ x ∧ x ≤ m) = b) (w : World) : Calls Try.prog 43 #[.int .i64 x, .int .i64 m] w fun e w' => e = .returned (.bool b) ∧ Drawn0 w w' :=
 conf_to.calls x m b w (by rw [conf_to.plain, hb])
theorem all_snoc {α : Type} (p : α → Bool) (l : List α) (i : Nat) (h : i < l.length) : (l.take (i + 1)).all p = ((l.take i).all p && p l[i]) := by
 rw [List.take_succ_eq_append_getElem h, List.all_append]; simp
theorem ret_bool {a b : Bool} (h : a = b) : Ending.returned (.bool a) = .returned (.bool b) := by rw [h]
set_option maxHeartbeats 4000000 in
set_option maxRecDepth 100000 in
theorem conf_site.at (x : S53) (p : Addr) (A3 : Option Addr) (c3 : Nat) (w : World) (h0 : w.cell? p = some (.int .i64 x.f0)) (h2 : w.cell? ⟨p.block, p.off + 2, none⟩ = some (.int .i64 x.f2)) (h3 : w.cell? ⟨p.block, p.off + 3, none⟩ = some (.slice A3 x.f3.length c3))
    (g3 : Kd.C k83 w A3 x.f3.length x.f3) :
    Calls Try.prog 47 #[.pointer (some p)] w fun e w' => e = .returned (.bool (siteOk x)) ∧ Below w.heap.size w w' := by
  have hl := g3.2.1
  have G3 := Aside0.mk g3
  clear g3
  have hu := Try.underlying83
  go_enter Try.func47, Try.ntmps47
  go_wp2_with fail
  go_loopw [10] (fun v wr => ∃ i : Nat, v = .int .i64 i ∧ i ≤ x.f3.length ∧ Aside0 ((x.f3.take i).all backOk = true) ∧ Below w.heap.size w wr) (fun v _ => x.f3.length - (intOf v).toNat)
  case atStart => exact ⟨0, rfl, Nat.zero_le _, ⟨rfl⟩, Below.refl _ _⟩
  case round =>
    obtain ⟨i, rfl, hi, HA, HB⟩ := hrel
    by_cases hlt : i < x.f3.length
    · obtain ⟨ad, e, hx0, hx1⟩ := at_T83 G3.out (i : Int) (by omega) (by omega)
      subst e
      rw [Int.toNat_natCast] at hx0 hx1
      replace hx0 := pw_cell_below HB hx0
      replace hx1 := pw_cell_below HB hx1
      have er : rd_T83 x.f3 (i : Int) = x.f3[i] := by simp [rd_T83, hlt]
      have HE := Aside0.mk er
      clear er
      cases hbk : backOk (rd_T83 x.f3 i)
      · have HK := Aside0.mk hbk
        go_wp2_with (go_at_call 43; refine (conf_to.at _ _ false HK.out _).mono ?_; rintro e w' ⟨rfl, ⟨nd, rfl⟩⟩)
        go_ret
        refine ⟨ret_bool ?_, by repeat (first | exact HB | refine Below.alloc ?_ (by have := HB.size; simp; omega) _ | refine pw_below_drewN ?_ _ | refine Below.setCell ?_ (by have := HB.size; simp; omega) _ | refine below_drew ?_)⟩
        have h1 := HK.out
        rw [HE.out] at h1
        have hx : x.f3.all backOk = false := by
          rw [List.all_eq_false]
          exact ⟨x.f3[i], List.getElem_mem hlt, by rw [h1]; decide⟩
        simp [siteOk, hx]
      · have HK := Aside0.mk hbk
        go_wp2_with (go_at_call 43; refine (conf_to.at _ _ true HK.out _).mono ?_; rintro e w' ⟨rfl, ⟨nd, rfl⟩⟩)
        go_roundw
        case rel =>
          refine ⟨i + 1, by go_num, by omega, ⟨?_⟩, by repeat (first | exact HB | refine Below.alloc ?_ (by have := HB.size; simp; omega) _ | refine pw_below_drewN ?_ _ | refine Below.setCell ?_ (by have := HB.size; simp; omega) _ | refine below_drew ?_)⟩
          have h1 := HK.out
          rw [HE.out] at h1
          rw [all_snoc backOk x.f3 i hlt, HA.out, h1]; rfl
        case measure => simp [intOf]; omega
    · have hi2 : i = x.f3.length := by omega
      have HA2 : x.f3.all backOk = true := by have := HA.out; rw [hi2, List.take_length] at this; exact this
      clear HA hi2
      replace h0 := pw_cell_below HB h0
      replace h2 := pw_cell_below HB h2
      replace h3 := pw_cell_below HB h3
      have HA3 := Aside0.mk HA2
      clear HA2
      have fin : ∀ (W : World), Below w.heap.size w W → ∀ bv : Bool, (decide (0 ≤ x.f0 ∧ x.f0 ≤ 16) && decide (0 ≤ x.f2 ∧ x.f2 ≤ 8) && decide (x.f3.length ≤ 4)) = bv → Ending.returned (.bool bv) = .returned (.bool (siteOk x)) ∧ Below w.heap.size w W := by
        intro W hW bv hbv
        refine ⟨ret_bool ?_, hW⟩
        rw [← hbv]
        unfold siteOk
        rw [HA3.out, Bool.true_and]
      have FIN := Aside0.mk fin
      clear fin
      cases hw : decide (0 ≤ x.f0 ∧ x.f0 ≤ 16)
      · have HW := Aside0.mk hw
        clear hw
        go_wp2_with (go_at_call 43; refine (conf_to.at _ _ false HW.out _).mono ?_; rintro e w' ⟨rfl, ⟨nd, rfl⟩⟩)
        go_ret
        exact FIN.out _ (by repeat (first | exact HB | refine pw_below_drewN ?_ _)) _ (by rw [HW.out]; rfl)
      · have HW := Aside0.mk hw
        clear hw
        cases hc : decide (0 ≤ x.f2 ∧ x.f2 ≤ 8)
        · have HC := Aside0.mk hc
          clear hc
          go_wp2_with (first
            | (go_at_call 43; (with_reducible refine (conf_to.at x.f0 16 true HW.out _).mono ?_); rintro e w' ⟨rfl, ⟨nd, rfl⟩⟩)
            | (go_at_call 43; (with_reducible refine (conf_to.at x.f2 8 false HC.out _).mono ?_); rintro e w' ⟨rfl, ⟨nd, rfl⟩⟩))
          go_ret
          exact FIN.out _ (by repeat (first | exact HB | refine pw_below_drewN ?_ _)) _ (by rw [HW.out, HC.out]; rfl)
        · have HC := Aside0.mk hc
          clear hc
          go_wp2_with (first
            | (go_at_call 43; (with_reducible refine (conf_to.at x.f0 16 true HW.out _).mono ?_); rintro e w' ⟨rfl, ⟨nd, rfl⟩⟩)
            | (go_at_call 43; (with_reducible refine (conf_to.at x.f2 8 true HC.out _).mono ?_); rintro e w' ⟨rfl, ⟨nd, rfl⟩⟩))
          go_ret
          exact FIN.out _ (by repeat (first | exact HB | refine pw_below_drewN ?_ _)) _ (by rw [HW.out, HC.out, Bool.true_and, Bool.true_and]; first | rfl | exact decide_eq_decide.2 (by omega))


end Go.Proofs.Ytlapbhgkmmeeoaa.PSpares
end
section
/- Contracts: what calls of these functions of the program do, each as a plain function; written by a program of this session. -/
namespace Go.Proofs.Ytlapbhgkmmeeoaa.PSpares
open Go.RowKit Go.Proofs.YtlapbhgkmmeeoaaW.PrintWords Go.Proofs.YtlapbhgkmmeeoaaW.PrintLast Go.Proofs.YtlapbhgkmmeeoaaW.PrintMore
attribute [local go_sem] max2_int min2_int max_two min_two max_three min_three max_four min_four   -- for this text's walks alone
set_option linter.unusedVariables false
set_option linter.unusedSimpArgs false

/-! ### conf_May: function 33, by hand -/
def conf_May.f (a0_0 : Int) (l0_1 : List S53) : Option Bool := some (l0_1.all siteOk && decide (0 ≤ a0_0 ∧ a0_0 ≤ 1048576) && decide (l0_1.length ≤ 3))
theorem conf_Time.at (x : Int) (b : Bool) (hb : decide (0 ≤ x ∧ x ≤ 1048576) = b) (w : World) : Calls Try.prog 24 #[.int .i64 x] w fun e w' => e = .returned (.bool b) ∧ Drawn0 w w' :=
 conf_Time.calls x b w (by unfold conf_Time.f; rw [conf_to.plain, hb]; rfl)
set_option maxHeartbeats 4000000 in
set_option maxRecDepth 100000 in
theorem conf_May.calls (a0_0 : Int) (A0_1 : Option Addr) (c0_1 : Nat) (l0_1 : List S53) (r : Bool) (w : World) (hr0_1 : Kd.C k53 w A0_1 l0_1.length l0_1) (hc0_1 : l0_1.length ≤ c0_1) (h : conf_May.f a0_0 l0_1 = some r) :
  Calls Try.prog 33 #[.agg #[.int .i64 a0_0, .slice A0_1 l0_1.length c0_1]] w fun e w' => e = .returned (.bool r) ∧ Below w.heap.size w w' := by
 have H := Aside0.mk (Option.some.inj h)
 have hl := hr0_1.2.1
 have G := Aside0.mk hr0_1
 clear h hr0_1 hc0_1
 go_enter Try.func33, Try.ntmps33
 go_wp2_with fail
 go_loopw [3, 7] (fun _ v wr => ∃ i : Nat, v = .int .i64 i ∧ i ≤ l0_1.length ∧ Aside0 ((l0_1.take i).all siteOk = true) ∧ Below (w.heap.size + 1) (w.alloc (.cells #[.int .i64 a0_0, .slice A0_1 l0_1.length c0_1] 24)) wr) (fun _ v _ => l0_1.length - (intOf v).toNat)
 case atStart => exact ⟨0, rfl, Nat.zero_le _, ⟨rfl⟩, Below.refl _ _⟩
 case round =>
  obtain ⟨i, rfl, hi, HA, HB⟩ := hrel
  have hbw : Below w.heap.size w wr := ((Below.refl w.heap.size w).alloc (Nat.le_refl _) _).trans (HB.mono (by omega))
  have c0 : wr.cell? ⟨w.heap.size, 0, none⟩ = some (.int .i64 a0_0) := (HB.cell (p := ⟨w.heap.size, 0, none⟩) (by simp)).trans (by simp)
  have c1 : wr.cell? ⟨w.heap.size, 1, none⟩ = some (.slice A0_1 l0_1.length c0_1) := (HB.cell (p := ⟨w.heap.size, 1, none⟩) (by simp)).trans (by simp)
  by_cases hlt : i < l0_1.length
  ·obtain ⟨ad, A3, c3, e, hx0, hx1, hx2, hx3, l3, g3⟩ := at_T53 G.out (i : Int) (by omega) (by omega)
   subst e
   rw [Int.toNat_natCast] at hx0 hx1 hx2 hx3
   replace hx0 := pw_cell_below hbw hx0
   replace hx2 := pw_cell_below hbw hx2
   replace hx3 := pw_cell_below hbw hx3
   have g3' := Kd.C_below g3 hbw
   have er : rd_T53 l0_1 (i : Int) = l0_1[i] := by simp [rd_T53, hlt]
   have HS := Aside0.mk (conf_site.at (rd_T53 l0_1 (i : Int)) (ad.add (i * 4)) A3 c3)
   have HX := Aside0.mk (And.intro hx0 (And.intro hx2 (And.intro hx3 g3')))
   have HE := Aside0.mk er
   have HBW := Aside0.mk hbw
   clear er g3 g3' hx1 l3 hx0 hx2 hx3 hbw
   have hs2 : w.heap.size + 1 ≤ wr.heap.size := by have := HB.size; simpa using this
   cases hbk : siteOk (rd_T53 l0_1 i)
   ·have HK := Aside0.mk hbk
    clear hbk
    go_wp2_with (go_at_call 47; refine (HS.out _ HX.out.1 HX.out.2.1 HX.out.2.2.1 HX.out.2.2.2).mono ?_; rintro e w1 ⟨rfl, hb1⟩; rw [HK.out])
    go_ret
    have h1 := HK.out
    rw [HE.out] at h1
    have hx : l0_1.all siteOk = false := by
     rw [List.all_eq_false]
     exact ⟨l0_1[i], List.getElem_mem hlt, by rw [h1]; decide⟩
    refine ⟨ret_bool ?_, HBW.out.trans (hb1.mono (by omega))⟩
    rw [← H.out, hx]; rfl
   ·have HK := Aside0.mk hbk
    clear hbk
    go_wp2_with (go_at_call 47; refine (HS.out _ HX.out.1 HX.out.2.1 HX.out.2.2.1 HX.out.2.2.2).mono ?_; rintro e w1 ⟨rfl, hb1⟩; rw [HK.out])
    go_roundw
    case rel =>
     refine ⟨i + 1, by go_num, by omega, ⟨?_⟩, HB.trans (hb1.mono hs2)⟩
     have h1 := HK.out
     rw [HE.out] at h1
     rw [all_snoc siteOk l0_1 i hlt, HA.out, h1]; rfl
    case measure => simp [intOf]; omega
  ·have hi2 : i = l0_1.length := by omega
   have HA2 : l0_1.all siteOk = true := by have := HA.out; rw [hi2, List.take_length] at this; exact this
   clear HA hi2
   have HA3 := Aside0.mk HA2
   have HBW := Aside0.mk hbw
   clear HA2 hbw
   cases hw : decide (0 ≤ a0_0 ∧ a0_0 ≤ 1048576)
   ·have HW := Aside0.mk hw
    clear hw
    go_wp2_with (go_at_call 24; refine (conf_Time.at a0_0 false HW.out _).mono ?_; rintro e w' ⟨rfl, ⟨nd, rfl⟩⟩)
    go_ret
    exact ⟨ret_bool (by rw [← H.out, HA3.out, HW.out]; rfl), pw_below_drewN HBW.out _⟩
   ·have HW := Aside0.mk hw
    clear hw
    go_wp2_with (go_at_call 24; refine (conf_Time.at a0_0 true HW.out _).mono ?_; rintro e w' ⟨rfl, ⟨nd, rfl⟩⟩)
    go_ret
    refine ⟨ret_bool ?_, pw_below_drewN HBW.out _⟩
    rw [← H.out, HA3.out, HW.out, Bool.true_and, Bool.true_and]
    first | rfl | exact decide_eq_decide.2 (by omega)


/-! ### report_Site: function 34 -/
def report_Site.f (a0 : Int) : Option (Bool) := if a0 ≥ 0 then (some (decide (a0 < 3))) else (some false)
set_option maxHeartbeats 8000000 in
set_option maxRecDepth 100000 in
theorem report_Site.calls (a0 : Int) (r : Bool) (w : World) (h : report_Site.f a0 = some r) :
  Calls Try.prog 34 #[.int .i64 a0] w fun e w' => e = .returned (.bool r) ∧ Drawn0 w w' := by
 have H : (if a0 ≥ 0 then (some (decide (a0 < 3))) else (some false)) = some r := h
 clear h
 by_cases c2 : a0 ≥ 0
 ·rw [if_pos c2] at H
  have c2b0 : decide (0 ≤ a0) = true := decide_eq_true c2
  clear c2
  obtain rfl := Option.some.inj H
  go_enter Try.func34, Try.ntmps34
  go_wp2
  go_ret
  exact ⟨by first | rfl | (simp; done) | (simp [*]; done), by repeat (first | exact Drawn0.refl _ | apply Drawn0.step)⟩
 ·rw [if_neg c2] at H
  have c2b0 : decide (0 ≤ a0) = false := decide_eq_false c2
  clear c2
  obtain rfl := Option.some.inj H
  go_enter Try.func34, Try.ntmps34
  go_wp2
  go_ret
  exact ⟨by first | rfl | (simp; done) | (simp [*]; done), by repeat (first | exact Drawn0.refl _ | apply Drawn0.step)⟩

end Go.Proofs.Ytlapbhgkmmeeoaa.PSpares
end
section
/- Contracts: what calls of these functions of the program do, each as a plain function; written by a program of this session. -/
namespace Go.Proofs.Ytlapbhgkmmeeoaa.PSpares
open Go.RowKit Go.Proofs.YtlapbhgkmmeeoaaW.PrintWords Go.Proofs.YtlapbhgkmmeeoaaW.PrintLast Go.Proofs.YtlapbhgkmmeeoaaW.PrintMore
attribute [local go_sem] max2_int min2_int max_two min_two max_three min_three max_four min_four   -- for this text's walks alone
set_option linter.unusedVariables false
set_option linter.unusedSimpArgs false

/-! ### health_May: function 48, by hand -/
def healthOk (up : Bool) (n : Int) : Bool := decide (0 ≤ n ∧ n < 3)
def health_May.f (a0_0 : Bool) (a0_1 : Int) : Option Bool := some (healthOk a0_0 a0_1)
set_option maxHeartbeats 4000000 in
set_option maxRecDepth 100000 in
theorem health_May.turns (g : Nat) (b : Bool) (w : World) (h0 : w.cell? ⟨g, 0, none⟩ = some (.bool b)) : Calls Try.prog 55 #[.pointer (some ⟨g, 0, none⟩)] w fun e w' => e = .returned (.int .i64 3) ∧ w = w' := by
 cases b
 all_goals
  go_enter Try.func55, Try.ntmps55
  go_wp2
  go_ret
  exact ⟨rfl, rfl⟩
set_option maxHeartbeats 4000000 in
set_option maxRecDepth 100000 in
theorem health_May.calls (a0_0 : Bool) (a0_1 : Int) (r : Bool) (w : World) (h : health_May.f a0_0 a0_1 = some r) :
  Calls Try.prog 48 #[.agg #[.bool a0_0, .int .i64 a0_1]] w fun e w' => e = .returned (.bool r) ∧ Below w.heap.size w w' := by
 obtain rfl := Option.some.inj h
 clear h
 by_cases h0 : 0 ≤ a0_1
 ·have e : healthOk a0_0 a0_1 = decide (a0_1 < 3) := by simp [healthOk, h0]
  rw [e]
  clear e
  go_enter Try.func48, Try.ntmps48
  go_wp2
  go_quiet (first | (go_at_call 55; refine Calls.quiet_of_same ((health_May.turns _ a0_0 _ (by simp)).mono (fun _ _ hx => ⟨hx.1, hx.2.symm⟩))))
  go_wp2
  go_ret
  exact ⟨rfl, pw_below_drewN ((Below.refl _ _).alloc (Nat.le_refl _) _) _⟩
 ·have e : healthOk a0_0 a0_1 = false := by simp [healthOk, h0]
  rw [e]
  clear e
  go_enter Try.func48, Try.ntmps48
  go_wp2
  have h1 : (decide (0 ≤ a0_1)) = false := decide_eq_false (by omega)
  go_quiet (first | fail)
  go_wp2
  go_ret
  exact ⟨rfl, pw_below_drewN ((Below.refl _ _).alloc (Nat.le_refl _) _) _⟩


end Go.Proofs.Ytlapbhgkmmeeoaa.PSpares
end
section
/- Contracts: what calls of these functions of the program do, each as a plain function; written by a program of this session. -/
namespace Go.Proofs.Ytlapbhgkmmeeoaa.PSpares
open Go.RowKit Go.Proofs.YtlapbhgkmmeeoaaW.PrintWords Go.Proofs.YtlapbhgkmmeeoaaW.PrintLast Go.Proofs.YtlapbhgkmmeeoaaW.PrintMore
attribute [local go_sem] max2_int min2_int max_two min_two max_three min_three max_four min_four   -- for this text's walks alone
set_option linter.unusedVariables false
set_option linter.unusedSimpArgs false

/-! ### health_All: function 35 -/
def health_All.l0 : Nat → List (S86) → Int → List (S86) → Int → Int → Option (Bool)
 | 0, _, _, _, _, _ => none
 | k + 1, x0, x1, x7, x8, x9 => if x9 < x8 then (if 0 ≤ x9 then (if x9 < (x7.length : Int) then ((health_May.f ((rd_T86 x7 x9).f0) ((rd_T86 x7 x9).f1)).bind fun t118 => (if t118 = true then (health_All.l0 k x0 x1 x7 x8 (wrap64 (x9 + 1))) else (some false))) else (none)) else (none)) else (some ((x0.length : Int) == x1))
def health_All.f (k : Nat) (l0 : List (S86)) (a1 : Int) : Option (Bool) := health_All.l0 k l0 a1 l0 (l0.length : Int) 0
theorem health_All.mono_l : ∀ k, (∀ y0 y1 y2 y3 y4, LeO (health_All.l0 k y0 y1 y2 y3 y4) (health_All.l0 (k + 1) y0 y1 y2 y3 y4))
 | 0 => fun _ _ _ _ _ r h => by simp [health_All.l0] at h
 | k + 1 => by
  have ih0 := health_All.mono_l k
  ·intro y0 y1 y2 y3 y4
   unfold health_All.l0
   repeat' first
   | (with_reducible exact ih0 _ _ _ _ _)
   | (with_reducible exact LeO.refl _)
   | (with_reducible exact LeO.none _)
   | (with_reducible refine LeO.ite ?_ ?_)
   | (with_reducible refine LeO.bind ?_ (fun _ => ?_))
   | exact ih0 _ _ _ _ _
   | exact LeO.none _
   | refine LeO.ite ?_ ?_
   | refine LeO.bind ?_ (fun _ => ?_)
theorem health_All.mono : ∀ a0 a1 k, LeO (health_All.f k a0 a1) (health_All.f (k + 1) a0 a1) := by
 intro a0 a1 k
 have ih0 := health_All.mono_l k
 unfold health_All.f
 repeat' first
   | (with_reducible exact ih0 _ _ _ _ _)
   | (with_reducible exact LeO.refl _)
   | (with_reducible exact LeO.none _)
   | (with_reducible refine LeO.ite ?_ ?_)
   | (with_reducible refine LeO.bind ?_ (fun _ => ?_))
   | exact ih0 _ _ _ _ _
   | exact LeO.none _
   | refine LeO.ite ?_ ?_
   | refine LeO.bind ?_ (fun _ => ?_)
set_option maxHeartbeats 8000000 in
set_option maxRecDepth 100000 in
theorem health_All.calls (k : Nat) (A0 : Option Addr) (c0 : Nat) (l0 : List (S86)) (a1 : Int) (r : Bool) (w : World) (hr0 : Kd.C k86 w A0 l0.length l0) (hc0 : l0.length ≤ c0) (h : health_All.f k l0 a1 = some r) :
  Calls Try.prog 35 #[.slice A0 l0.length c0, .int .i64 a1] w fun e w' => e = .returned (.bool r) ∧ Below w.heap.size w w' := by
 have hu86 := Try.underlying86
 have HR0 := Aside0.mk hr0
 have HC0 := Aside0.mk hc0
 clear hr0 hc0
 have HB := Aside0.mk (Below.refl w.heap.size w)
 have H : (health_All.l0 k l0 a1 l0 (l0.length : Int) 0) = some r := h
 clear h
 have H' := Aside0.mk H
 clear H
 go_enter Try.func35, Try.ntmps35
 go_wp2
 go_loopg [9] k (fun kq v9 w' => ∃ (x9_1 : Int), v9 = .int .i64 x9_1 ∧ Aside0 (health_All.l0 kq l0 a1 l0 (l0.length : Int) x9_1 = some r) ∧ Aside0 (kq ≤ k) ∧ Aside0 (Below w.heap.size w w'))
 case atStart => exact ⟨(0), (by first | rfl | (simp; done) | (simp [*]; done)), H', ⟨Nat.le_refl _⟩, ⟨by repeat (first | (with_reducible first | exact HB.out | apply below_alloc | apply pw_below_drewN | apply below_drew1) | exact HB.out)⟩⟩
 case round =>
  clear H'
  try clear p2
  obtain ⟨x9_1, rfl, HA, HK1, HB⟩ := hrel
  cases gk with
  | zero => exact absurd HA.out (by simp [health_All.l0])
  | succ k1 =>
   have H := HA.out
   clear HA
   simp only [health_All.l0] at H
   by_cases c3 : x9_1 < (l0.length : Int)
   ·rw [if_pos c3] at H
    have c3b0 : decide (x9_1 < (l0.length : Int)) = true := decide_eq_true c3
    clear c3
    by_cases c4 : 0 ≤ x9_1
    ·rw [if_pos c4] at H
     have c4b0 : decide (0 ≤ x9_1) = true := decide_eq_true c4
     clear c4
     by_cases c5 : x9_1 < (l0.length : Int)
     ·rw [if_pos c5] at H
      have c5b0 : decide (x9_1 < (l0.length : Int)) = true := decide_eq_true c5
      clear c5
      replace H := Option.bind_eq_some_iff.mp H
      obtain ⟨t118, A60, H⟩ := H
      replace H : (if t118 = true then (health_All.l0 k1 l0 a1 l0 (l0.length : Int) (wrap64 (x9_1 + 1))) else (some false)) = some r := H
      have A6 := Aside0.mk A60
      clear A60
      by_cases c7 : t118 = true
      ·subst c7
       have H1 : (health_All.l0 k1 l0 a1 l0 (l0.length : Int) (wrap64 (x9_1 + 1))) = some r := by rw [if_pos rfl] at H; exact H
       clear H
       have H := H1
       clear H1
       have H' := Aside0.mk H
       clear H
       have p116 : 0 ≤ (x9_1 : Int) := of_decide_eq_true (by first | (with_reducible assumption) | assumption)
       have q116 : x9_1 < (l0.length : Int) := of_decide_eq_true (by first | (with_reducible assumption) | assumption)
       obtain ⟨ad116, e116, hx116_0, hx116_1⟩ := at_T86 HR0.out x9_1 p116 q116
       cases e116
       replace hx116_0 := (HB.out.cell (World.block_lt_of_cell? w _ hx116_0)).trans hx116_0
       replace hx116_1 := (HB.out.cell (World.block_lt_of_cell? w _ hx116_1)).trans hx116_1
       replace p116 := eq_true p116
       replace q116 := eq_true q116
       go_wp2_with (first | ((with_reducible refine gate_dst (N := 6) rfl ?_); refine box_event ?hg (N := 6) ?hd (cs := #[.bool false, .int .i64 0]) (t := 86) ?hr ?_; (case hd => rfl); (case hg => rfl); (case hr => first | (go_simp; done) | (go_simp; rfl)); intro g0 hg w8 hbox hb; have n0_ := Aside0.mk (below_step (by repeat (first | (with_reducible first | exact HB.out | apply below_alloc | apply pw_below_drewN | apply below_drew1) | exact HB.out)) hb); have n1_ := Aside0.mk (hbox); have n2_ := Aside0.mk ((by rw [hg]; exact (below_size (by repeat (first | (with_reducible first | exact HB.out | apply below_alloc | apply pw_below_drewN | apply below_drew1) | exact HB.out))) : w.heap.size ≤ g0)); have n3_ := Aside0.mk ((by rw [hg]; exact (below_size (by repeat (first | (with_reducible first | exact HB.out | apply below_alloc | apply pw_below_drewN | apply below_drew1) | exact HB.out))) : w.heap.size ≤ g0)); clear HB; have HB := n0_; have K0 := n1_; have G0 := n2_; have E0 := n3_; clear n0_ n1_ n2_ n3_; clear hb hbox hg; have hcz9_0 : w8.cell? ⟨g0, 0, none⟩ = some (.bool false) := (blk_cell K0.out 0).trans rfl; have hcz9_1 : w8.cell? ⟨g0, 1, none⟩ = some (.int .i64 0) := (blk_cell K0.out 1).trans rfl; have hfz9_0 := blk_frozen K0.out 0; have hfz9_1 := blk_frozen K0.out 1) | ((with_reducible refine gate_callee (f := 48) rfl ?_); refine goesL_ (some 14) rfl rfl Try.func48 (by kernel_rfl) rfl #[.agg #[.bool ((rd_T86 l0 x9_1).f0), .int .i64 ((rd_T86 l0 x9_1).f1)]] rfl (by (try simp only [List.map_toArray, List.map_cons, List.map_nil]); first | done | rfl | (simp only [List.length_drop, List.length_take]; rfl)) ?_; (with_reducible refine (health_May.calls ((rd_T86 l0 x9_1).f0) ((rd_T86 l0 x9_1).f1) true _ A6.out).mono ?_); rintro e w10 ⟨rfl, hb⟩; refine ⟨_, rfl, ?_⟩; have n0_ := Aside0.mk (blk_below (g := g0) (o := .cells #[.bool ((rd_T86 l0 x9_1).f0), .int .i64 ((rd_T86 l0 x9_1).f1)] 86 (0, 0)) (by (with_reducible repeat (first | refine blk_drewN ?_ _ | refine blk_drew ?_ | refine blk_alloc ?_ _)); refine blk_put (cs := #[.bool ((rd_T86 l0 x9_1).f0), .int .i64 0]) ?_ 1 _ rfl; (with_reducible repeat (first | refine blk_drewN ?_ _ | refine blk_drew ?_ | refine blk_alloc ?_ _)); refine blk_put (cs := #[.bool false, .int .i64 0]) ?_ 0 _ rfl; (with_reducible repeat (first | refine blk_drewN ?_ _ | refine blk_drew ?_ | refine blk_alloc ?_ _)); exact K0.out) hb); have n1_ := Aside0.mk (below_step (by repeat (first | (with_reducible first | exact HB.out | apply below_alloc | apply pw_below_drewN | apply below_drew1 | refine below_set ?_ E0.out) | exact HB.out)) hb); clear K0; clear HB; have K0 := n0_; have HB := n1_; clear n0_ n1_; (try clear hb); (try clear hb2); (try clear hk); (try clear hi)))
       go_roundg k1
       case measure => have := HK1.out; omega
       case rel => exact ⟨(wrap64 (x9_1 + 1)), (by first | rfl | (simp; done) | (simp [*]; done)), H', ⟨by have := HK1.out; omega⟩, ⟨by repeat (first | (with_reducible first | exact HB.out | apply below_alloc | apply pw_below_drewN | apply below_drew1 | refine below_set ?_ E0.out) | exact HB.out)⟩⟩
      ·replace c7 := Bool.eq_false_iff.mpr c7
       subst c7
       have H1 : (some false) = some r := by rw [if_neg (show ¬ (false = true) by decide)] at H; exact H
       clear H
       have H := H1
       clear H1
       obtain rfl := Option.some.inj H
       have p116 : 0 ≤ (x9_1 : Int) := of_decide_eq_true (by first | (with_reducible assumption) | assumption)
       have q116 : x9_1 < (l0.length : Int) := of_decide_eq_true (by first | (with_reducible assumption) | assumption)
       obtain ⟨ad116, e116, hx116_0, hx116_1⟩ := at_T86 HR0.out x9_1 p116 q116
       cases e116
       replace hx116_0 := (HB.out.cell (World.block_lt_of_cell? w _ hx116_0)).trans hx116_0
       replace hx116_1 := (HB.out.cell (World.block_lt_of_cell? w _ hx116_1)).trans hx116_1
       replace p116 := eq_true p116
       replace q116 := eq_true q116
       go_wp2_with (first | ((with_reducible refine gate_dst (N := 6) rfl ?_); refine box_event ?hg (N := 6) ?hd (cs := #[.bool false, .int .i64 0]) (t := 86) ?hr ?_; (case hd => rfl); (case hg => rfl); (case hr => first | (go_simp; done) | (go_simp; rfl)); intro g0 hg w11 hbox hb; have n0_ := Aside0.mk (below_step (by repeat (first | (with_reducible first | exact HB.out | apply below_alloc | apply pw_below_drewN | apply below_drew1) | exact HB.out)) hb); have n1_ := Aside0.mk (hbox); have n2_ := Aside0.mk ((by rw [hg]; exact (below_size (by repeat (first | (with_reducible first | exact HB.out | apply below_alloc | apply pw_below_drewN | apply below_drew1) | exact HB.out))) : w.heap.size ≤ g0)); have n3_ := Aside0.mk ((by rw [hg]; exact (below_size (by repeat (first | (with_reducible first | exact HB.out | apply below_alloc | apply pw_below_drewN | apply below_drew1) | exact HB.out))) : w.heap.size ≤ g0)); clear HB; have HB := n0_; have K0 := n1_; have G0 := n2_; have E0 := n3_; clear n0_ n1_ n2_ n3_; clear hb hbox hg; have hcz12_0 : w11.cell? ⟨g0, 0, none⟩ = some (.bool false) := (blk_cell K0.out 0).trans rfl; have hcz12_1 : w11.cell? ⟨g0, 1, none⟩ = some (.int .i64 0) := (blk_cell K0.out 1).trans rfl; have hfz12_0 := blk_frozen K0.out 0; have hfz12_1 := blk_frozen K0.out 1) | ((with_reducible refine gate_callee (f := 48) rfl ?_); refine goesL_ (some 14) rfl rfl Try.func48 (by kernel_rfl) rfl #[.agg #[.bool ((rd_T86 l0 x9_1).f0), .int .i64 ((rd_T86 l0 x9_1).f1)]] rfl (by (try simp only [List.map_toArray, List.map_cons, List.map_nil]); first | done | rfl | (simp only [List.length_drop, List.length_take]; rfl)) ?_; (with_reducible refine (health_May.calls ((rd_T86 l0 x9_1).f0) ((rd_T86 l0 x9_1).f1) false _ A6.out).mono ?_); rintro e w13 ⟨rfl, hb⟩; refine ⟨_, rfl, ?_⟩; have n0_ := Aside0.mk (blk_below (g := g0) (o := .cells #[.bool ((rd_T86 l0 x9_1).f0), .int .i64 ((rd_T86 l0 x9_1).f1)] 86 (0, 0)) (by (with_reducible repeat (first | refine blk_drewN ?_ _ | refine blk_drew ?_ | refine blk_alloc ?_ _)); refine blk_put (cs := #[.bool ((rd_T86 l0 x9_1).f0), .int .i64 0]) ?_ 1 _ rfl; (with_reducible repeat (first | refine blk_drewN ?_ _ | refine blk_drew ?_ | refine blk_alloc ?_ _)); refine blk_put (cs := #[.bool false, .int .i64 0]) ?_ 0 _ rfl; (with_reducible repeat (first | refine blk_drewN ?_ _ | refine blk_drew ?_ | refine blk_alloc ?_ _)); exact K0.out) hb); have n1_ := Aside0.mk (below_step (by repeat (first | (with_reducible first | exact HB.out | apply below_alloc | apply pw_below_drewN | apply below_drew1 | refine below_set ?_ E0.out) | exact HB.out)) hb); clear K0; clear HB; have K0 := n0_; have HB := n1_; clear n0_ n1_; (try clear hb); (try clear hb2); (try clear hk); (try clear hi)))
       go_ret
       exact ⟨by first | rfl | (simp [errW_none, errW_some] <;> rfl) | (simp [*, errW_none, errW_some] <;> rfl), by repeat (first | (with_reducible first | exact HB.out | apply below_alloc | apply pw_below_drewN | apply below_drew1 | refine below_set ?_ E0.out) | exact HB.out)⟩
     ·rw [if_neg c5] at H
      exact absurd H (by simp)
    ·rw [if_neg c4] at H
     exact absurd H (by simp)
   ·rw [if_neg c3] at H
    have c3b0 : decide (x9_1 < (l0.length : Int)) = false := decide_eq_false c3
    clear c3
    obtain rfl := Option.some.inj H
    go_wp2
    go_ret
    exact ⟨by first | rfl | (simp [errW_none, errW_some] <;> rfl) | (simp [*, errW_none, errW_some] <;> rfl), by repeat (first | (with_reducible first | exact HB.out | apply below_alloc | apply pw_below_drewN | apply below_drew1) | exact HB.out)⟩

end Go.Proofs.Ytlapbhgkmmeeoaa.PSpares
end
section
/- Contracts: what calls of these functions of the program do, each as a plain function; written by a program of this session. -/
namespace Go.Proofs.Ytlapbhgkmmeeoaa.PSpares
open Go.RowKit Go.Proofs.YtlapbhgkmmeeoaaW.PrintWords Go.Proofs.YtlapbhgkmmeeoaaW.PrintLast Go.Proofs.YtlapbhgkmmeeoaaW.PrintMore
attribute [local go_sem] max2_int min2_int max_two min_two max_three min_three max_four min_four   -- for this text's walks alone
set_option linter.unusedVariables false
set_option linter.unusedSimpArgs false

theorem eqA89 (d : Nat) (w : World) (x0 y0 : Int) (x1 y1 : Int) (x2 y2 : Int) (x3 y3 : Int) :
  (Op.equalIn (d + 2) 89 (.agg #[.int .i64 x0, .int .i64 x1, .int .i64 x2, .int .i64 x3]) (.agg #[.int .i64 y0, .int .i64 y1, .int .i64 y2, .int .i64 y3])).run Try.prog w = .ok (x0 == y0 && (x1 == y1 && (x2 == y2 && (x3 == y3)))) w := by
 refine eqA_of Try.underlying89 (by kernel_rfl) ?_
 refine eqf_cons (by rfl) (by go_simp; rfl) (by go_simp; rfl) (by go_simp) ?_
 refine eqf_cons (by rfl) (by go_simp; rfl) (by go_simp; rfl) (by go_simp) ?_
 refine eqf_cons (by rfl) (by go_simp; rfl) (by go_simp; rfl) (by go_simp) ?_
 exact eqf_last (by rfl) (by go_simp; rfl) (by go_simp; rfl) (by go_simp)
end Go.Proofs.Ytlapbhgkmmeeoaa.PSpares
end
section
/- Contracts: what calls of these functions of the program do, each as a plain function; written by a program of this session. -/
namespace Go.Proofs.Ytlapbhgkmmeeoaa.PSpares
open Go.RowKit Go.Proofs.YtlapbhgkmmeeoaaW.PrintWords Go.Proofs.YtlapbhgkmmeeoaaW.PrintLast Go.Proofs.YtlapbhgkmmeeoaaW.PrintMore
attribute [local go_sem] max2_int min2_int max_two min_two max_three min_three max_four min_four   -- for this text's walks alone
set_option linter.unusedVariables false
set_option linter.unusedSimpArgs false

/-! ### report_serial: function 56 -/
def report_serial.f (a0 : Int) : Option (Bool) := if a0 ≥ 0 then (some (decide (a0 < 65536))) else (some false)
set_option maxHeartbeats 8000000 in
set_option maxRecDepth 100000 in
theorem report_serial.calls (a0 : Int) (r : Bool) (w : World) (h : report_serial.f a0 = some r) :
  Calls Try.prog 56 #[.int .i64 a0] w fun e w' => e = .returned (.bool r) ∧ Drawn0 w w' := by
 have H : (if a0 ≥ 0 then (some (decide (a0 < 65536))) else (some false)) = some r := h
 clear h
 by_cases c2 : a0 ≥ 0
 ·rw [if_pos c2] at H
  have c2b0 : decide (0 ≤ a0) = true := decide_eq_true c2
  clear c2
  obtain rfl := Option.some.inj H
  go_enter Try.func56, Try.ntmps56
  go_wp2
  go_ret
  exact ⟨by first | rfl | (simp; done) | (simp [*]; done), by repeat (first | exact Drawn0.refl _ | apply Drawn0.step)⟩
 ·rw [if_neg c2] at H
  have c2b0 : decide (0 ≤ a0) = false := decide_eq_false c2
  clear c2
  obtain rfl := Option.some.inj H
  go_enter Try.func56, Try.ntmps56
  go_wp2
  go_ret
  exact ⟨by first | rfl | (simp; done) | (simp [*]; done), by repeat (first | exact Drawn0.refl _ | apply Drawn0.step)⟩

/-! ### ip_In: function 57 -/
def ip_In.f (a0 : Int) (a1 : Int) : Option (Bool) := if a0 ≥ 0 then (if 0 ≤ a1 then (some ((shr .i64 a0 a1) == 0)) else (none)) else (some false)
set_option maxHeartbeats 8000000 in
set_option maxRecDepth 100000 in
theorem ip_In.calls (a0 : Int) (a1 : Int) (r : Bool) (w : World) (h : ip_In.f a0 a1 = some r) :
  Calls Try.prog 57 #[.int .i64 a0, .int .i64 a1] w fun e w' => e = .returned (.bool r) ∧ Drawn0 w w' := by
 have H : (if a0 ≥ 0 then (if 0 ≤ a1 then (some ((shr .i64 a0 a1) == 0)) else (none)) else (some false)) = some r := h
 clear h
 by_cases c3 : a0 ≥ 0
 ·rw [if_pos c3] at H
  have c3b0 : decide (0 ≤ a0) = true := decide_eq_true c3
  clear c3
  by_cases c4 : 0 ≤ a1
  ·rw [if_pos c4] at H
   have c4b0 := eq_true c4
   have c4b1 : decide (0 ≤ a1) = true := decide_eq_true c4
   clear c4
   obtain ⟨ji5, hji5⟩ : ∃ j_ : Int, (shr .i64 a0 a1) = j_ := ⟨_, rfl⟩
   replace H : (some ((ji5) == 0)) = some r := by first | (rw [hji5] at H; exact H) | (simp only [hji5] at H ⊢; exact H)
   have hji5_ : (a0 / 2 ^ min a1.toNat 64) = ji5 := hji5
   have hji5z : a1 ≤ 64 → (a0 / 2 ^ a1.toNat) = ji5 := shr_small hji5
   obtain rfl := Option.some.inj H
   go_enter Try.func57, Try.ntmps57
   go_wp2
   go_ret
   exact ⟨by first | rfl | (simp; done) | (simp only [← hji5] <;> (first | rfl | simp)) | (simp [*]; done), by repeat (first | exact Drawn0.refl _ | apply Drawn0.step)⟩
  ·rw [if_neg c4] at H
   exact absurd H (by simp)
 ·rw [if_neg c3] at H
  have c3b0 : decide (0 ≤ a0) = false := decide_eq_false c3
  clear c3
  obtain rfl := Option.some.inj H
  go_enter Try.func57, Try.ntmps57
  go_wp2
  go_ret
  exact ⟨by first | rfl | (simp; done) | (simp [*]; done), by repeat (first | exact Drawn0.refl _ | apply Drawn0.step)⟩

/-! ### report_May: function 49 -/
def report_May.f (a0_0 : Int) (a0_1 : Int) (a0_2 : Int) (a0_3 : Int) : Option (Bool) := (report_Site.f a0_0).bind fun t120 => (if t120 = true then ((report_serial.f a0_1).bind fun t121 => (if t121 = true then ((ip_In.f a0_2 8).bind fun t122 => (if t122 = true then ((ip_In.f a0_3 8).bind fun t123 => (some t123)) else (some false))) else (some false))) else (some false))
set_option maxHeartbeats 8000000 in
set_option maxRecDepth 100000 in
theorem report_May.calls (a0_0 : Int) (a0_1 : Int) (a0_2 : Int) (a0_3 : Int) (r : Bool) (w : World) (h : report_May.f a0_0 a0_1 a0_2 a0_3 = some r) :
  Calls Try.prog 49 #[.agg #[.int .i64 a0_0, .int .i64 a0_1, .int .i64 a0_2, .int .i64 a0_3]] w fun e w' => e = .returned (.bool r) ∧ Below w.heap.size w w' := by
 have hu89 := Try.underlying89
 have HB := Aside0.mk (Below.refl w.heap.size w)
 have H : ((report_Site.f a0_0).bind fun t120 => (if t120 = true then ((report_serial.f a0_1).bind fun t121 => (if t121 = true then ((ip_In.f a0_2 8).bind fun t122 => (if t122 = true then ((ip_In.f a0_3 8).bind fun t123 => (some t123)) else (some false))) else (some false))) else (some false))) = some r := h
 clear h
 replace H := Option.bind_eq_some_iff.mp H
 obtain ⟨t120, A20, H⟩ := H
 replace H : (if t120 = true then ((report_serial.f a0_1).bind fun t121 => (if t121 = true then ((ip_In.f a0_2 8).bind fun t122 => (if t122 = true then ((ip_In.f a0_3 8).bind fun t123 => (some t123)) else (some false))) else (some false))) else (some false)) = some r := H
 have A2 := Aside0.mk A20
 clear A20
 by_cases c3 : t120 = true
 ·subst c3
  have H1 : ((report_serial.f a0_1).bind fun t121 => (if t121 = true then ((ip_In.f a0_2 8).bind fun t122 => (if t122 = true then ((ip_In.f a0_3 8).bind fun t123 => (some t123)) else (some false))) else (some false))) = some r := by rw [if_pos rfl] at H; exact H
  clear H
  have H := H1
  clear H1
  replace H := Option.bind_eq_some_iff.mp H
  obtain ⟨t121, A40, H⟩ := H
  replace H : (if t121 = true then ((ip_In.f a0_2 8).bind fun t122 => (if t122 = true then ((ip_In.f a0_3 8).bind fun t123 => (some t123)) else (some false))) else (some false)) = some r := H
  have A4 := Aside0.mk A40
  clear A40
  by_cases c5 : t121 = true
  ·subst c5
   have H1 : ((ip_In.f a0_2 8).bind fun t122 => (if t122 = true then ((ip_In.f a0_3 8).bind fun t123 => (some t123)) else (some false))) = some r := by rw [if_pos rfl] at H; exact H
   clear H
   have H := H1
   clear H1
   replace H := Option.bind_eq_some_iff.mp H
   obtain ⟨t122, A60, H⟩ := H
   replace H : (if t122 = true then ((ip_In.f a0_3 8).bind fun t123 => (some t123)) else (some false)) = some r := H
   have A6 := Aside0.mk A60
   clear A60
   by_cases c7 : t122 = true
   ·subst c7
    have H1 : ((ip_In.f a0_3 8).bind fun t123 => (some t123)) = some r := by rw [if_pos rfl] at H; exact H
    clear H
    have H := H1
    clear H1
    replace H := Option.bind_eq_some_iff.mp H
    obtain ⟨t123, A80, H⟩ := H
    replace H : (some t123) = some r := H
    have A8 := Aside0.mk A80
    clear A80
    obtain rfl := Option.some.inj H
    go_enter Try.func49, Try.ntmps49
    go_wp2_with (first | ((with_reducible refine gate_dst (N := 1) rfl ?_); refine box_event ?hg (N := 1) ?hd (cs := #[.int .i64 a0_0, .int .i64 a0_1, .int .i64 a0_2, .int .i64 a0_3]) (t := 89) ?hr ?_; (case hd => rfl); (case hg => rfl); (case hr => first | (go_simp; done) | (go_simp; rfl)); intro g0 hg w9 hbox hb; have n0_ := Aside0.mk (below_step (by repeat (first | (with_reducible first | exact HB.out | apply below_alloc | apply pw_below_drewN | apply below_drew1) | exact HB.out)) hb); have n1_ := Aside0.mk (hbox); have n2_ := Aside0.mk ((by rw [hg]; exact (below_size (by repeat (first | (with_reducible first | exact HB.out | apply below_alloc | apply pw_below_drewN | apply below_drew1) | exact HB.out))) : w.heap.size ≤ g0)); have n3_ := Aside0.mk ((by rw [hg]; exact (below_size (by repeat (first | (with_reducible first | exact HB.out | apply below_alloc | apply pw_below_drewN | apply below_drew1) | exact HB.out))) : w.heap.size ≤ g0)); clear HB; have HB := n0_; have K0 := n1_; have G0 := n2_; have E0 := n3_; clear n0_ n1_ n2_ n3_; clear hb hbox hg; have hcz10_0 : w9.cell? ⟨g0, 0, none⟩ = some (.int .i64 a0_0) := (blk_cell K0.out 0).trans rfl; have hcz10_1 : w9.cell? ⟨g0, 1, none⟩ = some (.int .i64 a0_1) := (blk_cell K0.out 1).trans rfl; have hcz10_2 : w9.cell? ⟨g0, 2, none⟩ = some (.int .i64 a0_2) := (blk_cell K0.out 2).trans rfl; have hcz10_3 : w9.cell? ⟨g0, 3, none⟩ = some (.int .i64 a0_3) := (blk_cell K0.out 3).trans rfl; have hfz10_0 := blk_frozen K0.out 0; have hfz10_1 := blk_frozen K0.out 1; have hfz10_2 := blk_frozen K0.out 2; have hfz10_3 := blk_frozen K0.out 3) | ((with_reducible refine gate_callee (f := 34) rfl ?_); refine goesL_ (some 5) rfl rfl Try.func34 (by kernel_rfl) rfl #[.int .i64 a0_0] rfl (by (try simp only [List.map_toArray, List.map_cons, List.map_nil]); first | done | rfl | (simp only [List.length_drop, List.length_take]; rfl)) ?_; (with_reducible refine (report_Site.calls a0_0 true _ A2.out).mono ?_); rintro e w' ⟨rfl, ⟨nd, rfl⟩⟩; refine ⟨_, rfl, ?_⟩) | (go_at_call 56; (with_reducible refine (report_serial.calls a0_1 true _ A4.out).mono ?_); rintro e w' ⟨rfl, ⟨nd, rfl⟩⟩) | (go_at_call 57; (with_reducible refine (ip_In.calls a0_2 8 true _ A6.out).mono ?_); rintro e w' ⟨rfl, ⟨nd, rfl⟩⟩) | (go_at_call 57; (with_reducible refine (ip_In.calls a0_3 8 t123 _ A8.out).mono ?_); rintro e w' ⟨rfl, ⟨nd, rfl⟩⟩))
    go_ret
    exact ⟨by first | rfl | (simp [errW_none, errW_some] <;> rfl) | (simp [*, errW_none, errW_some] <;> rfl), by repeat (first | (with_reducible first | exact HB.out | apply below_alloc | apply pw_below_drewN | apply below_drew1 | refine below_set ?_ E0.out) | exact HB.out)⟩
   ·replace c7 := Bool.eq_false_iff.mpr c7
    subst c7
    have H1 : (some false) = some r := by rw [if_neg (show ¬ (false = true) by decide)] at H; exact H
    clear H
    have H := H1
    clear H1
    obtain rfl := Option.some.inj H
    go_enter Try.func49, Try.ntmps49
    go_wp2_with (first | ((with_reducible refine gate_dst (N := 1) rfl ?_); refine box_event ?hg (N := 1) ?hd (cs := #[.int .i64 a0_0, .int .i64 a0_1, .int .i64 a0_2, .int .i64 a0_3]) (t := 89) ?hr ?_; (case hd => rfl); (case hg => rfl); (case hr => first | (go_simp; done) | (go_simp; rfl)); intro g0 hg w11 hbox hb; have n0_ := Aside0.mk (below_step (by repeat (first | (with_reducible first | exact HB.out | apply below_alloc | apply pw_below_drewN | apply below_drew1) | exact HB.out)) hb); have n1_ := Aside0.mk (hbox); have n2_ := Aside0.mk ((by rw [hg]; exact (below_size (by repeat (first | (with_reducible first | exact HB.out | apply below_alloc | apply pw_below_drewN | apply below_drew1) | exact HB.out))) : w.heap.size ≤ g0)); have n3_ := Aside0.mk ((by rw [hg]; exact (below_size (by repeat (first | (with_reducible first | exact HB.out | apply below_alloc | apply pw_below_drewN | apply below_drew1) | exact HB.out))) : w.heap.size ≤ g0)); clear HB; have HB := n0_; have K0 := n1_; have G0 := n2_; have E0 := n3_; clear n0_ n1_ n2_ n3_; clear hb hbox hg; have hcz12_0 : w11.cell? ⟨g0, 0, none⟩ = some (.int .i64 a0_0) := (blk_cell K0.out 0).trans rfl; have hcz12_1 : w11.cell? ⟨g0, 1, none⟩ = some (.int .i64 a0_1) := (blk_cell K0.out 1).trans rfl; have hcz12_2 : w11.cell? ⟨g0, 2, none⟩ = some (.int .i64 a0_2) := (blk_cell K0.out 2).trans rfl; have hcz12_3 : w11.cell? ⟨g0, 3, none⟩ = some (.int .i64 a0_3) := (blk_cell K0.out 3).trans rfl; have hfz12_0 := blk_frozen K0.out 0; have hfz12_1 := blk_frozen K0.out 1; have hfz12_2 := blk_frozen K0.out 2; have hfz12_3 := blk_frozen K0.out 3) | ((with_reducible refine gate_callee (f := 34) rfl ?_); refine goesL_ (some 5) rfl rfl Try.func34 (by kernel_rfl) rfl #[.int .i64 a0_0] rfl (by (try simp only [List.map_toArray, List.map_cons, List.map_nil]); first | done | rfl | (simp only [List.length_drop, List.length_take]; rfl)) ?_; (with_reducible refine (report_Site.calls a0_0 true _ A2.out).mono ?_); rintro e w' ⟨rfl, ⟨nd, rfl⟩⟩; refine ⟨_, rfl, ?_⟩) | (go_at_call 56; (with_reducible refine (report_serial.calls a0_1 true _ A4.out).mono ?_); rintro e w' ⟨rfl, ⟨nd, rfl⟩⟩) | (go_at_call 57; (with_reducible refine (ip_In.calls a0_2 8 false _ A6.out).mono ?_); rintro e w' ⟨rfl, ⟨nd, rfl⟩⟩))
    go_ret
    exact ⟨by first | rfl | (simp [errW_none, errW_some] <;> rfl) | (simp [*, errW_none, errW_some] <;> rfl), by repeat (first | (with_reducible first | exact HB.out | apply below_alloc | apply pw_below_drewN | apply below_drew1 | refine below_set ?_ E0.out) | exact HB.out)⟩
  ·replace c5 := Bool.eq_false_iff.mpr c5
   subst c5
   have H1 : (some false) = some r := by rw [if_neg (show ¬ (false = true) by decide)] at H; exact H
   clear H
   have H := H1
   clear H1
   obtain rfl := Option.some.inj H
   go_enter Try.func49, Try.ntmps49
   go_wp2_with (first | ((with_reducible refine gate_dst (N := 1) rfl ?_); refine box_event ?hg (N := 1) ?hd (cs := #[.int .i64 a0_0, .int .i64 a0_1, .int .i64 a0_2, .int .i64 a0_3]) (t := 89) ?hr ?_; (case hd => rfl); (case hg => rfl); (case hr => first | (go_simp; done) | (go_simp; rfl)); intro g0 hg w13 hbox hb; have n0_ := Aside0.mk (below_step (by repeat (first | (with_reducible first | exact HB.out | apply below_alloc | apply pw_below_drewN | apply below_drew1) | exact HB.out)) hb); have n1_ := Aside0.mk (hbox); have n2_ := Aside0.mk ((by rw [hg]; exact (below_size (by repeat (first | (with_reducible first | exact HB.out | apply below_alloc | apply pw_below_drewN | apply below_drew1) | exact HB.out))) : w.heap.size ≤ g0)); have n3_ := Aside0.mk ((by rw [hg]; exact (below_size (by repeat (first | (with_reducible first | exact HB.out | apply below_alloc | apply pw_below_drewN | apply below_drew1) | exact HB.out))) : w.heap.size ≤ g0)); clear HB; have HB := n0_; have K0 := n1_; have G0 := n2_; have E0 := n3_; clear n0_ n1_ n2_ n3_; clear hb hbox hg; have hcz14_0 : w13.cell? ⟨g0, 0, none⟩ = some (.int .i64 a0_0) := (blk_cell K0.out 0).trans rfl; have hcz14_1 : w13.cell? ⟨g0, 1, none⟩ = some (.int .i64 a0_1) := (blk_cell K0.out 1).trans rfl; have hcz14_2 : w13.cell? ⟨g0, 2, none⟩ = some (.int .i64 a0_2) := (blk_cell K0.out 2).trans rfl; have hcz14_3 : w13.cell? ⟨g0, 3, none⟩ = some (.int .i64 a0_3) := (blk_cell K0.out 3).trans rfl; have hfz14_0 := blk_frozen K0.out 0; have hfz14_1 := blk_frozen K0.out 1; have hfz14_2 := blk_frozen K0.out 2; have hfz14_3 := blk_frozen K0.out 3) | ((with_reducible refine gate_callee (f := 34) rfl ?_); refine goesL_ (some 5) rfl rfl Try.func34 (by kernel_rfl) rfl #[.int .i64 a0_0] rfl (by (try simp only [List.map_toArray, List.map_cons, List.map_nil]); first | done | rfl | (simp only [List.length_drop, List.length_take]; rfl)) ?_; (with_reducible refine (report_Site.calls a0_0 true _ A2.out).mono ?_); rintro e w' ⟨rfl, ⟨nd, rfl⟩⟩; refine ⟨_, rfl, ?_⟩) | (go_at_call 56; (with_reducible refine (report_serial.calls a0_1 false _ A4.out).mono ?_); rintro e w' ⟨rfl, ⟨nd, rfl⟩⟩))
   go_ret
   exact ⟨by first | rfl | (simp [errW_none, errW_some] <;> rfl) | (simp [*, errW_none, errW_some] <;> rfl), by repeat (first | (with_reducible first | exact HB.out | apply below_alloc | apply pw_below_drewN | apply below_drew1 | refine below_set ?_ E0.out) | exact HB.out)⟩
 ·replace c3 := Bool.eq_false_iff.mpr c3
  subst c3
  have H1 : (some false) = some r := by rw [if_neg (show ¬ (false = true) by decide)] at H; exact H
  clear H
  have H := H1
  clear H1
  obtain rfl := Option.some.inj H
  go_enter Try.func49, Try.ntmps49
  go_wp2_with (first | ((with_reducible refine gate_dst (N := 1) rfl ?_); refine box_event ?hg (N := 1) ?hd (cs := #[.int .i64 a0_0, .int .i64 a0_1, .int .i64 a0_2, .int .i64 a0_3]) (t := 89) ?hr ?_; (case hd => rfl); (case hg => rfl); (case hr => first | (go_simp; done) | (go_simp; rfl)); intro g0 hg w15 hbox hb; have n0_ := Aside0.mk (below_step (by repeat (first | (with_reducible first | exact HB.out | apply below_alloc | apply pw_below_drewN | apply below_drew1) | exact HB.out)) hb); have n1_ := Aside0.mk (hbox); have n2_ := Aside0.mk ((by rw [hg]; exact (below_size (by repeat (first | (with_reducible first | exact HB.out | apply below_alloc | apply pw_below_drewN | apply below_drew1) | exact HB.out))) : w.heap.size ≤ g0)); have n3_ := Aside0.mk ((by rw [hg]; exact (below_size (by repeat (first | (with_reducible first | exact HB.out | apply below_alloc | apply pw_below_drewN | apply below_drew1) | exact HB.out))) : w.heap.size ≤ g0)); clear HB; have HB := n0_; have K0 := n1_; have G0 := n2_; have E0 := n3_; clear n0_ n1_ n2_ n3_; clear hb hbox hg; have hcz16_0 : w15.cell? ⟨g0, 0, none⟩ = some (.int .i64 a0_0) := (blk_cell K0.out 0).trans rfl; have hcz16_1 : w15.cell? ⟨g0, 1, none⟩ = some (.int .i64 a0_1) := (blk_cell K0.out 1).trans rfl; have hcz16_2 : w15.cell? ⟨g0, 2, none⟩ = some (.int .i64 a0_2) := (blk_cell K0.out 2).trans rfl; have hcz16_3 : w15.cell? ⟨g0, 3, none⟩ = some (.int .i64 a0_3) := (blk_cell K0.out 3).trans rfl; have hfz16_0 := blk_frozen K0.out 0; have hfz16_1 := blk_frozen K0.out 1; have hfz16_2 := blk_frozen K0.out 2; have hfz16_3 := blk_frozen K0.out 3) | ((with_reducible refine gate_callee (f := 34) rfl ?_); refine goesL_ (some 5) rfl rfl Try.func34 (by kernel_rfl) rfl #[.int .i64 a0_0] rfl (by (try simp only [List.map_toArray, List.map_cons, List.map_nil]); first | done | rfl | (simp only [List.length_drop, List.length_take]; rfl)) ?_; (with_reducible refine (report_Site.calls a0_0 false _ A2.out).mono ?_); rintro e w' ⟨rfl, ⟨nd, rfl⟩⟩; refine ⟨_, rfl, ?_⟩))
  go_ret
  exact ⟨by first | rfl | (simp [errW_none, errW_some] <;> rfl) | (simp [*, errW_none, errW_some] <;> rfl), by repeat (first | (with_reducible first | exact HB.out | apply below_alloc | apply pw_below_drewN | apply below_drew1 | refine below_set ?_ E0.out) | exact HB.out)⟩

end Go.Proofs.Ytlapbhgkmmeeoaa.PSpares
end
section
/- Contracts: what calls of these functions of the program do, each as a plain function; written by a program of this session. -/
namespace Go.Proofs.Ytlapbhgkmmeeoaa.PSpares
open Go.RowKit Go.Proofs.YtlapbhgkmmeeoaaW.PrintWords Go.Proofs.YtlapbhgkmmeeoaaW.PrintLast Go.Proofs.YtlapbhgkmmeeoaaW.PrintMore
attribute [local go_sem] max2_int min2_int max_two min_two max_three min_three max_four min_four   -- for this text's walks alone
set_option linter.unusedVariables false
set_option linter.unusedSimpArgs false

attribute [local go_sem high] eqA89
/-! ### view_May: function 36 -/
mutual
def view_May.l0 : Nat → List (S91) → List (S91) → Int → Int → Option (Bool)
 | 0, _, _, _, _ => none
 | k + 1, x0, x6, x7, x8 => if x8 < x7 then (if 0 ≤ x8 then (if x8 < (x6.length : Int) then (if ((rd_T91 x6 x8).f1) = (-1) then (view_May.j1 k x0 x8 (((rd_T91 x6 x8).f0.f0) == 0 && (((rd_T91 x6 x8).f0.f1) == 0 && (((rd_T91 x6 x8).f0.f2) == 0 && (((rd_T91 x6 x8).f0.f3) == 0)))) x6 x7 x8 ((rd_T91 x6 x8).f0.f0) ((rd_T91 x6 x8).f0.f1) ((rd_T91 x6 x8).f0.f2) ((rd_T91 x6 x8).f0.f3) ((rd_T91 x6 x8).f1)) else (view_May.j1 k x0 x8 false x6 x7 x8 ((rd_T91 x6 x8).f0.f0) ((rd_T91 x6 x8).f0.f1) ((rd_T91 x6 x8).f0.f2) ((rd_T91 x6 x8).f0.f3) ((rd_T91 x6 x8).f1))) else (none)) else (none)) else (some ((x0.length : Int) == 3))
def view_May.j1 : Nat → List (S91) → Int → Bool → List (S91) → Int → Int → Int → Int → Int → Int → Int → Option (Bool)
 | 0, _, _, _, _, _, _, _, _, _, _, _ => none
 | k + 1, x0, x3, x5, x6, x7, x8, x126000, x126001, x126002, x126003, x126004 => if x5 = true then (view_May.l0 k x0 x6 x7 (wrap64 (x8 + 1))) else ((conf_Time.f x126004).bind fun t126 => (if t126 = true then ((report_May.f x126000 x126001 x126002 x126003).bind fun t127 => (if t127 = true then (if x126000 = x3 then (view_May.l0 k x0 x6 x7 (wrap64 (x8 + 1))) else (some false)) else (some false))) else (some false)))
end
def view_May.f (k : Nat) (l0 : List (S91)) : Option (Bool) := view_May.l0 k l0 l0 (l0.length : Int) 0
theorem view_May.mono_l : ∀ k, (∀ y0 y1 y2 y3, LeO (view_May.l0 k y0 y1 y2 y3) (view_May.l0 (k + 1) y0 y1 y2 y3)) ∧ (∀ y0 y1 y2 y3 y4 y5 y6 y7 y8 y9 y10, LeO (view_May.j1 k y0 y1 y2 y3 y4 y5 y6 y7 y8 y9 y10) (view_May.j1 (k + 1) y0 y1 y2 y3 y4 y5 y6 y7 y8 y9 y10))
 | 0 => ⟨fun _ _ _ _ r h => by simp [view_May.l0] at h, fun _ _ _ _ _ _ _ _ _ _ _ r h => by simp [view_May.j1] at h⟩
 | k + 1 => by
  obtain ⟨ih0, ih1⟩ := view_May.mono_l k
  refine ⟨?_, ?_⟩
  ·intro y0 y1 y2 y3
   unfold view_May.l0
   repeat' first
   | (with_reducible exact ih0 _ _ _ _)
   | (with_reducible exact ih1 _ _ _ _ _ _ _ _ _ _ _)
   | (with_reducible exact LeO.refl _)
   | (with_reducible exact LeO.none _)
   | (with_reducible refine LeO.ite ?_ ?_)
   | (with_reducible refine LeO.bind ?_ (fun _ => ?_))
   | exact ih0 _ _ _ _
   | exact ih1 _ _ _ _ _ _ _ _ _ _ _
   | exact LeO.none _
   | refine LeO.ite ?_ ?_
   | refine LeO.bind ?_ (fun _ => ?_)
  ·intro y0 y1 y2 y3 y4 y5 y6 y7 y8 y9 y10
   unfold view_May.j1
   repeat' first
   | (with_reducible exact ih0 _ _ _ _)
   | (with_reducible exact ih1 _ _ _ _ _ _ _ _ _ _ _)
   | (with_reducible exact LeO.refl _)
   | (with_reducible exact LeO.none _)
   | (with_reducible refine LeO.ite ?_ ?_)
   | (with_reducible refine LeO.bind ?_ (fun _ => ?_))
   | exact ih0 _ _ _ _
   | exact ih1 _ _ _ _ _ _ _ _ _ _ _
   | exact LeO.none _
   | refine LeO.ite ?_ ?_
   | refine LeO.bind ?_ (fun _ => ?_)
theorem view_May.mono : ∀ a0 k, LeO (view_May.f k a0) (view_May.f (k + 1) a0) := by
 intro a0 k
 obtain ⟨ih0, ih1⟩ := view_May.mono_l k
 unfold view_May.f
 repeat' first
   | (with_reducible exact ih0 _ _ _ _)
   | (with_reducible exact ih1 _ _ _ _ _ _ _ _ _ _ _)
   | (with_reducible exact LeO.refl _)
   | (with_reducible exact LeO.none _)
   | (with_reducible refine LeO.ite ?_ ?_)
   | (with_reducible refine LeO.bind ?_ (fun _ => ?_))
   | exact ih0 _ _ _ _
   | exact ih1 _ _ _ _ _ _ _ _ _ _ _
   | exact LeO.none _
   | refine LeO.ite ?_ ?_
   | refine LeO.bind ?_ (fun _ => ?_)
set_option maxHeartbeats 8000000 in
set_option maxRecDepth 100000 in
theorem view_May.calls (k : Nat) (A0 : Option Addr) (c0 : Nat) (l0 : List (S91)) (r : Bool) (w : World) (hr0 : Kd.C k91 w A0 l0.length l0) (hc0 : l0.length ≤ c0) (h : view_May.f k l0 = some r) :
  Calls Try.prog 36 #[.slice A0 l0.length c0] w fun e w' => e = .returned (.bool r) ∧ Below w.heap.size w w' := by
 have hu91 := Try.underlying91
 have hu89 := Try.underlying89
 have HR0 := Aside0.mk hr0
 have HC0 := Aside0.mk hc0
 clear hr0 hc0
 have HB := Aside0.mk (Below.refl w.heap.size w)
 have H : (view_May.l0 k l0 l0 (l0.length : Int) 0) = some r := h
 clear h
 have H' := Aside0.mk H
 clear H
 go_enter Try.func36, Try.ntmps36
 go_wp2
 go_loopg [8] k (fun kq v8 w' => ∃ (x8_1 : Int), v8 = .int .i64 x8_1 ∧ Aside0 (view_May.l0 kq l0 l0 (l0.length : Int) x8_1 = some r) ∧ Aside0 (kq ≤ k) ∧ Aside0 (Below w.heap.size w w'))
 case atStart => exact ⟨(0), (by first | rfl | (simp; done) | (simp [*]; done)), H', ⟨Nat.le_refl _⟩, ⟨by repeat (first | (with_reducible first | exact HB.out | apply below_alloc | apply pw_below_drewN | apply below_drew1) | exact HB.out)⟩⟩
 case round =>
  clear H'
  obtain ⟨x8_1, rfl, HA, HK1, HB⟩ := hrel
  cases gk with
  | zero => exact absurd HA.out (by simp [view_May.l0])
  | succ k1 =>
   have H := HA.out
   clear HA
   simp only [view_May.l0] at H
   by_cases c2 : x8_1 < (l0.length : Int)
   ·rw [if_pos c2] at H
    have c2b0 : decide (x8_1 < (l0.length : Int)) = true := decide_eq_true c2
    clear c2
    by_cases c3 : 0 ≤ x8_1
    ·rw [if_pos c3] at H
     have c3b0 : decide (0 ≤ x8_1) = true := decide_eq_true c3
     clear c3
     by_cases c4 : x8_1 < (l0.length : Int)
     ·rw [if_pos c4] at H
      have c4b0 : decide (x8_1 < (l0.length : Int)) = true := decide_eq_true c4
      clear c4
      have HC5 := Aside0.mk H
      clear H
      have p124 : 0 ≤ (x8_1 : Int) := of_decide_eq_true (by first | (with_reducible assumption) | assumption)
      have q124 : x8_1 < (l0.length : Int) := of_decide_eq_true (by first | (with_reducible assumption) | assumption)
      obtain ⟨ad124, e124, hx124_0, hx124_1, hx124_2, hx124_3, hx124_4⟩ := at_T91 HR0.out x8_1 p124 q124
      cases e124
      replace hx124_0 := (HB.out.cell (World.block_lt_of_cell? w _ hx124_0)).trans hx124_0
      replace hx124_1 := (HB.out.cell (World.block_lt_of_cell? w _ hx124_1)).trans hx124_1
      replace hx124_2 := (HB.out.cell (World.block_lt_of_cell? w _ hx124_2)).trans hx124_2
      replace hx124_3 := (HB.out.cell (World.block_lt_of_cell? w _ hx124_3)).trans hx124_3
      replace hx124_4 := (HB.out.cell (World.block_lt_of_cell? w _ hx124_4)).trans hx124_4
      replace p124 := eq_true p124
      replace q124 := eq_true q124
      go_upto_region 4 with (first | ((with_reducible refine gate_dst (N := 4) rfl ?_); refine box_event ?hg (N := 4) ?hd (cs := #[.int .i64 0, .int .i64 0, .int .i64 0, .int .i64 0, .int .i64 0]) (t := 91) ?hr ?_; (case hd => rfl); (case hg => rfl); (case hr => first | (go_simp; done) | (go_simp; rfl)); intro g0 hg w6 hbox hb; have n0_ := Aside0.mk (below_step (by repeat (first | (with_reducible first | exact HB.out | apply below_alloc | apply pw_below_drewN | apply below_drew1) | exact HB.out)) hb); have n1_ := Aside0.mk (hbox); have n2_ := Aside0.mk ((by rw [hg]; exact (below_size (by repeat (first | (with_reducible first | exact HB.out | apply below_alloc | apply pw_below_drewN | apply below_drew1) | exact HB.out))) : w.heap.size ≤ g0)); have n3_ := Aside0.mk ((by rw [hg]; exact (below_size (by repeat (first | (with_reducible first | exact HB.out | apply below_alloc | apply pw_below_drewN | apply below_drew1) | exact HB.out))) : w.heap.size ≤ g0)); clear HB; have HB := n0_; have K0 := n1_; have G0 := n2_; have E0 := n3_; clear n0_ n1_ n2_ n3_; clear hb hbox hg; have hcz7_0 : w6.cell? ⟨g0, 0, none⟩ = some (.int .i64 0) := (blk_cell K0.out 0).trans rfl; have hcz7_1 : w6.cell? ⟨g0, 1, none⟩ = some (.int .i64 0) := (blk_cell K0.out 1).trans rfl; have hcz7_2 : w6.cell? ⟨g0, 2, none⟩ = some (.int .i64 0) := (blk_cell K0.out 2).trans rfl; have hcz7_3 : w6.cell? ⟨g0, 3, none⟩ = some (.int .i64 0) := (blk_cell K0.out 3).trans rfl; have hcz7_4 : w6.cell? ⟨g0, 4, none⟩ = some (.int .i64 0) := (blk_cell K0.out 4).trans rfl; have hfz7_0 := blk_frozen K0.out 0; have hfz7_1 := blk_frozen K0.out 1; have hfz7_2 := blk_frozen K0.out 2; have hfz7_3 := blk_frozen K0.out 3; have hfz7_4 := blk_frozen K0.out 4))
      (try simp only [Act.put, List.setIfInBounds_toArray, List.set_cons_zero, List.set_cons_succ])
      go_cut [5] (fun v5 wc => ∃ (kq : Nat) (x5_4 : Bool), v5 = .bool x5_4 ∧ Aside0 (view_May.j1 kq l0 x8_1 x5_4 l0 (l0.length : Int) x8_1 ((rd_T91 l0 x8_1).f0.f0) ((rd_T91 l0 x8_1).f0.f1) ((rd_T91 l0 x8_1).f0.f2) ((rd_T91 l0 x8_1).f0.f3) ((rd_T91 l0 x8_1).f1) = some r) ∧ Aside0 (kq ≤ k1) ∧ Aside0 (wc.heap[g0]? = some (.cells #[.int .i64 ((rd_T91 l0 x8_1).f0.f0), .int .i64 ((rd_T91 l0 x8_1).f0.f1), .int .i64 ((rd_T91 l0 x8_1).f0.f2), .int .i64 ((rd_T91 l0 x8_1).f0.f3), .int .i64 ((rd_T91 l0 x8_1).f1)] 91 (0, 0))) ∧ Aside0 (Below w.heap.size w wc))
      case first =>
       have H := HC5.out
       clear HC5
       by_cases c8 : ((rd_T91 l0 x8_1).f1) = (-1)
       ·rw [if_pos c8] at H
        have c8b0 : (((rd_T91 l0 x8_1).f1) == (-1)) = true := beq_iff_eq.mpr c8
        have c8b1 : (((rd_T91 l0 x8_1).f1) != (-1)) = false := bne_eq_false_iff_eq.mpr c8
        clear c8
        (first | rw [c8b0] | (simp only [i64_w, i32_w]; rw [c8b0]) | skip)
        have H' := Aside0.mk H
        clear H
        have hcz9_0 : w6.cell? ⟨g0, 0, none⟩ = some (.int .i64 0) := (blk_cell K0.out 0).trans rfl
        have hcz9_1 : w6.cell? ⟨g0, 1, none⟩ = some (.int .i64 0) := (blk_cell K0.out 1).trans rfl
        have hcz9_2 : w6.cell? ⟨g0, 2, none⟩ = some (.int .i64 0) := (blk_cell K0.out 2).trans rfl
        have hcz9_3 : w6.cell? ⟨g0, 3, none⟩ = some (.int .i64 0) := (blk_cell K0.out 3).trans rfl
        have hcz9_4 : w6.cell? ⟨g0, 4, none⟩ = some (.int .i64 0) := (blk_cell K0.out 4).trans rfl
        have hfz9_0 := blk_frozen K0.out 0
        have hfz9_1 := blk_frozen K0.out 1
        have hfz9_2 := blk_frozen K0.out 2
        have hfz9_3 := blk_frozen K0.out 3
        have hfz9_4 := blk_frozen K0.out 4
        go_wp2
        go_meet
        case rel => exact ⟨_, ((((rd_T91 l0 x8_1).f0.f0) == 0 && (((rd_T91 l0 x8_1).f0.f1) == 0 && (((rd_T91 l0 x8_1).f0.f2) == 0 && (((rd_T91 l0 x8_1).f0.f3) == 0))))), (by first | rfl | (simp; done) | (simp [*]; done)), H', ⟨by have := HK1.out; first | omega | exact Nat.le_refl _⟩, ⟨by (with_reducible repeat (first | refine blk_drewN ?_ _ | refine blk_drew ?_ | refine blk_alloc ?_ _)); refine blk_put (cs := #[.int .i64 ((rd_T91 l0 x8_1).f0.f0), .int .i64 ((rd_T91 l0 x8_1).f0.f1), .int .i64 ((rd_T91 l0 x8_1).f0.f2), .int .i64 ((rd_T91 l0 x8_1).f0.f3), .int .i64 0]) ?_ 4 _ rfl; (with_reducible repeat (first | refine blk_drewN ?_ _ | refine blk_drew ?_ | refine blk_alloc ?_ _)); refine blk_put (cs := #[.int .i64 ((rd_T91 l0 x8_1).f0.f0), .int .i64 ((rd_T91 l0 x8_1).f0.f1), .int .i64 ((rd_T91 l0 x8_1).f0.f2), .int .i64 0, .int .i64 0]) ?_ 3 _ rfl; (with_reducible repeat (first | refine blk_drewN ?_ _ | refine blk_drew ?_ | refine blk_alloc ?_ _)); refine blk_put (cs := #[.int .i64 ((rd_T91 l0 x8_1).f0.f0), .int .i64 ((rd_T91 l0 x8_1).f0.f1), .int .i64 0, .int .i64 0, .int .i64 0]) ?_ 2 _ rfl; (with_reducible repeat (first | refine blk_drewN ?_ _ | refine blk_drew ?_ | refine blk_alloc ?_ _)); refine blk_put (cs := #[.int .i64 ((rd_T91 l0 x8_1).f0.f0), .int .i64 0, .int .i64 0, .int .i64 0, .int .i64 0]) ?_ 1 _ rfl; (with_reducible repeat (first | refine blk_drewN ?_ _ | refine blk_drew ?_ | refine blk_alloc ?_ _)); refine blk_put (cs := #[.int .i64 0, .int .i64 0, .int .i64 0, .int .i64 0, .int .i64 0]) ?_ 0 _ rfl; (with_reducible repeat (first | refine blk_drewN ?_ _ | refine blk_drew ?_ | refine blk_alloc ?_ _)); exact K0.out⟩, ⟨by repeat (first | (with_reducible first | exact HB.out | apply below_alloc | apply pw_below_drewN | apply below_drew1 | refine below_set ?_ E0.out) | exact HB.out)⟩⟩
       ·rw [if_neg c8] at H
        have c8b0 : (((rd_T91 l0 x8_1).f1) == (-1)) = false := beq_eq_false_iff_ne.mpr c8
        have c8b1 : (((rd_T91 l0 x8_1).f1) != (-1)) = true := bne_iff_ne.mpr c8
        (first | rw [c8b0] | (simp only [i64_w, i32_w]; rw [c8b0]) | skip)
        have H' := Aside0.mk H
        clear H
        have hcz10_0 : w6.cell? ⟨g0, 0, none⟩ = some (.int .i64 0) := (blk_cell K0.out 0).trans rfl
        have hcz10_1 : w6.cell? ⟨g0, 1, none⟩ = some (.int .i64 0) := (blk_cell K0.out 1).trans rfl
        have hcz10_2 : w6.cell? ⟨g0, 2, none⟩ = some (.int .i64 0) := (blk_cell K0.out 2).trans rfl
        have hcz10_3 : w6.cell? ⟨g0, 3, none⟩ = some (.int .i64 0) := (blk_cell K0.out 3).trans rfl
        have hcz10_4 : w6.cell? ⟨g0, 4, none⟩ = some (.int .i64 0) := (blk_cell K0.out 4).trans rfl
        have hfz10_0 := blk_frozen K0.out 0
        have hfz10_1 := blk_frozen K0.out 1
        have hfz10_2 := blk_frozen K0.out 2
        have hfz10_3 := blk_frozen K0.out 3
        have hfz10_4 := blk_frozen K0.out 4
        go_wp2
        go_meet
        case rel => exact ⟨_, (false), (by first | rfl | (simp; done) | (simp [*]; done)), H', ⟨by have := HK1.out; first | omega | exact Nat.le_refl _⟩, ⟨by (with_reducible repeat (first | refine blk_drewN ?_ _ | refine blk_drew ?_ | refine blk_alloc ?_ _)); refine blk_put (cs := #[.int .i64 ((rd_T91 l0 x8_1).f0.f0), .int .i64 ((rd_T91 l0 x8_1).f0.f1), .int .i64 ((rd_T91 l0 x8_1).f0.f2), .int .i64 ((rd_T91 l0 x8_1).f0.f3), .int .i64 0]) ?_ 4 _ rfl; (with_reducible repeat (first | refine blk_drewN ?_ _ | refine blk_drew ?_ | refine blk_alloc ?_ _)); refine blk_put (cs := #[.int .i64 ((rd_T91 l0 x8_1).f0.f0), .int .i64 ((rd_T91 l0 x8_1).f0.f1), .int .i64 ((rd_T91 l0 x8_1).f0.f2), .int .i64 0, .int .i64 0]) ?_ 3 _ rfl; (with_reducible repeat (first | refine blk_drewN ?_ _ | refine blk_drew ?_ | refine blk_alloc ?_ _)); refine blk_put (cs := #[.int .i64 ((rd_T91 l0 x8_1).f0.f0), .int .i64 ((rd_T91 l0 x8_1).f0.f1), .int .i64 0, .int .i64 0, .int .i64 0]) ?_ 2 _ rfl; (with_reducible repeat (first | refine blk_drewN ?_ _ | refine blk_drew ?_ | refine blk_alloc ?_ _)); refine blk_put (cs := #[.int .i64 ((rd_T91 l0 x8_1).f0.f0), .int .i64 0, .int .i64 0, .int .i64 0, .int .i64 0]) ?_ 1 _ rfl; (with_reducible repeat (first | refine blk_drewN ?_ _ | refine blk_drew ?_ | refine blk_alloc ?_ _)); refine blk_put (cs := #[.int .i64 0, .int .i64 0, .int .i64 0, .int .i64 0, .int .i64 0]) ?_ 0 _ rfl; (with_reducible repeat (first | refine blk_drewN ?_ _ | refine blk_drew ?_ | refine blk_alloc ?_ _)); exact K0.out⟩, ⟨by repeat (first | (with_reducible first | exact HB.out | apply below_alloc | apply pw_below_drewN | apply below_drew1 | refine below_set ?_ E0.out) | exact HB.out)⟩⟩
      case rest =>
       clear HC5
       try clear p1
       try clear q1
       try clear hx1
       try clear c2
       try clear c2b0
       try clear p2
       try clear c3
       try clear c3b0
       try clear c4
       try clear c4b0
       try clear c8
       try clear c8b0
       try clear c8b1
       try clear hcz10_0
       try clear hcz10_1
       try clear hcz10_2
       try clear hcz10_3
       try clear hcz10_4
       try clear hcz7_0
       try clear hcz7_1
       try clear hcz7_2
       try clear hcz7_3
       try clear hcz7_4
       try clear hcz9_0
       try clear hcz9_1
       try clear hcz9_2
       try clear hcz9_3
       try clear hcz9_4
       try clear hfz10_0
       try clear hfz10_1
       try clear hfz10_2
       try clear hfz10_3
       try clear hfz10_4
       try clear hfz7_0
       try clear hfz7_1
       try clear hfz7_2
       try clear hfz7_3
       try clear hfz7_4
       try clear hfz9_0
       try clear hfz9_1
       try clear hfz9_2
       try clear hfz9_3
       try clear hfz9_4
       try clear hx124_0
       try clear hx124_1
       try clear hx124_2
       try clear hx124_3
       try clear hx124_4
       try clear p124
       try clear q124
       obtain ⟨kq, x5_4, rfl, HA, HJ4, K0, HB⟩ := hcut
       cases kq with
       | zero => exact absurd HA.out (by simp [view_May.j1])
       | succ kj4 =>
        have H := HA.out
        clear HA
        simp only [view_May.j1] at H
        by_cases c11 : x5_4 = true
        ·subst c11
         have H1 : (view_May.l0 kj4 l0 l0 (l0.length : Int) (wrap64 (x8_1 + 1))) = some r := by rw [if_pos rfl] at H; exact H
         clear H
         have H := H1
         clear H1
         have H' := Aside0.mk H
         clear H
         go_wp2
         go_roundg kj4
         case measure => have := HK1.out; have := HJ4.out; omega
         case rel => exact ⟨(wrap64 (x8_1 + 1)), (by first | rfl | (simp; done) | (simp [*]; done)), H', ⟨by have := HK1.out; have := HJ4.out; omega⟩, ⟨by repeat (first | (with_reducible first | exact HB.out | apply below_alloc | apply pw_below_drewN | apply below_drew1 | refine below_set ?_ E0.out) | exact HB.out)⟩⟩
        ·replace c11 := Bool.eq_false_iff.mpr c11
         subst c11
         have H1 : ((conf_Time.f ((rd_T91 l0 x8_1).f1)).bind fun t126 => (if t126 = true then ((report_May.f ((rd_T91 l0 x8_1).f0.f0) ((rd_T91 l0 x8_1).f0.f1) ((rd_T91 l0 x8_1).f0.f2) ((rd_T91 l0 x8_1).f0.f3)).bind fun t127 => (if t127 = true then (if ((rd_T91 l0 x8_1).f0.f0) = x8_1 then (view_May.l0 kj4 l0 l0 (l0.length : Int) (wrap64 (x8_1 + 1))) else (some false)) else (some false))) else (some false))) = some r := by rw [if_neg (show ¬ (false = true) by decide)] at H; exact H
         clear H
         have H := H1
         clear H1
         replace H := Option.bind_eq_some_iff.mp H
         obtain ⟨t126, A120, H⟩ := H
         replace H : (if t126 = true then ((report_May.f ((rd_T91 l0 x8_1).f0.f0) ((rd_T91 l0 x8_1).f0.f1) ((rd_T91 l0 x8_1).f0.f2) ((rd_T91 l0 x8_1).f0.f3)).bind fun t127 => (if t127 = true then (if ((rd_T91 l0 x8_1).f0.f0) = x8_1 then (view_May.l0 kj4 l0 l0 (l0.length : Int) (wrap64 (x8_1 + 1))) else (some false)) else (some false))) else (some false)) = some r := H
         have A12 := Aside0.mk A120
         clear A120
         by_cases c13 : t126 = true
         ·subst c13
          have H1 : ((report_May.f ((rd_T91 l0 x8_1).f0.f0) ((rd_T91 l0 x8_1).f0.f1) ((rd_T91 l0 x8_1).f0.f2) ((rd_T91 l0 x8_1).f0.f3)).bind fun t127 => (if t127 = true then (if ((rd_T91 l0 x8_1).f0.f0) = x8_1 then (view_May.l0 kj4 l0 l0 (l0.length : Int) (wrap64 (x8_1 + 1))) else (some false)) else (some false))) = some r := by rw [if_pos rfl] at H; exact H
          clear H
          have H := H1
          clear H1
          replace H := Option.bind_eq_some_iff.mp H
          obtain ⟨t127, A140, H⟩ := H
          replace H : (if t127 = true then (if ((rd_T91 l0 x8_1).f0.f0) = x8_1 then (view_May.l0 kj4 l0 l0 (l0.length : Int) (wrap64 (x8_1 + 1))) else (some false)) else (some false)) = some r := H
          have A14 := Aside0.mk A140
          clear A140
          by_cases c15 : t127 = true
          ·subst c15
           have H1 : (if ((rd_T91 l0 x8_1).f0.f0) = x8_1 then (view_May.l0 kj4 l0 l0 (l0.length : Int) (wrap64 (x8_1 + 1))) else (some false)) = some r := by rw [if_pos rfl] at H; exact H
           clear H
           have H := H1
           clear H1
           by_cases c16 : ((rd_T91 l0 x8_1).f0.f0) = x8_1
           ·rw [if_pos c16] at H
            have c16b0 : (((rd_T91 l0 x8_1).f0.f0) == x8_1) = true := beq_iff_eq.mpr c16
            have c16b1 : (((rd_T91 l0 x8_1).f0.f0) != x8_1) = false := bne_eq_false_iff_eq.mpr c16
            clear c16
            have H' := Aside0.mk H
            clear H
            have hcz17_0 : wc.cell? ⟨g0, 0, none⟩ = some (.int .i64 ((rd_T91 l0 x8_1).f0.f0)) := (blk_cell K0.out 0).trans rfl
            have hcz17_1 : wc.cell? ⟨g0, 1, none⟩ = some (.int .i64 ((rd_T91 l0 x8_1).f0.f1)) := (blk_cell K0.out 1).trans rfl
            have hcz17_2 : wc.cell? ⟨g0, 2, none⟩ = some (.int .i64 ((rd_T91 l0 x8_1).f0.f2)) := (blk_cell K0.out 2).trans rfl
            have hcz17_3 : wc.cell? ⟨g0, 3, none⟩ = some (.int .i64 ((rd_T91 l0 x8_1).f0.f3)) := (blk_cell K0.out 3).trans rfl
            have hcz17_4 : wc.cell? ⟨g0, 4, none⟩ = some (.int .i64 ((rd_T91 l0 x8_1).f1)) := (blk_cell K0.out 4).trans rfl
            have hfz17_0 := blk_frozen K0.out 0
            have hfz17_1 := blk_frozen K0.out 1
            have hfz17_2 := blk_frozen K0.out 2
            have hfz17_3 := blk_frozen K0.out 3
            have hfz17_4 := blk_frozen K0.out 4
            go_wp2_with (first | (go_at_call 24; (with_reducible refine (conf_Time.calls ((rd_T91 l0 x8_1).f1) true _ A12.out).mono ?_); rintro e w' ⟨rfl, ⟨nd, rfl⟩⟩) | (go_at_call 49; (with_reducible refine (report_May.calls ((rd_T91 l0 x8_1).f0.f0) ((rd_T91 l0 x8_1).f0.f1) ((rd_T91 l0 x8_1).f0.f2) ((rd_T91 l0 x8_1).f0.f3) true _ A14.out).mono ?_); rintro e w18 ⟨rfl, hb⟩; have n0_ := Aside0.mk (blk_below (g := g0) (o := .cells #[.int .i64 ((rd_T91 l0 x8_1).f0.f0), .int .i64 ((rd_T91 l0 x8_1).f0.f1), .int .i64 ((rd_T91 l0 x8_1).f0.f2), .int .i64 ((rd_T91 l0 x8_1).f0.f3), .int .i64 ((rd_T91 l0 x8_1).f1)] 91 (0, 0)) (by (with_reducible repeat (first | refine blk_drewN ?_ _ | refine blk_drew ?_ | refine blk_alloc ?_ _)); exact K0.out) hb); have n1_ := Aside0.mk (below_step (by repeat (first | (with_reducible first | exact HB.out | apply below_alloc | apply pw_below_drewN | apply below_drew1 | refine below_set ?_ E0.out) | exact HB.out)) hb); clear K0; clear HB; have K0 := n0_; have HB := n1_; clear n0_ n1_; (try clear hb); (try clear hb2); (try clear hk); (try clear hi); have hcz19_0 : w18.cell? ⟨g0, 0, none⟩ = some (.int .i64 ((rd_T91 l0 x8_1).f0.f0)) := (blk_cell K0.out 0).trans rfl; have hcz19_1 : w18.cell? ⟨g0, 1, none⟩ = some (.int .i64 ((rd_T91 l0 x8_1).f0.f1)) := (blk_cell K0.out 1).trans rfl; have hcz19_2 : w18.cell? ⟨g0, 2, none⟩ = some (.int .i64 ((rd_T91 l0 x8_1).f0.f2)) := (blk_cell K0.out 2).trans rfl; have hcz19_3 : w18.cell? ⟨g0, 3, none⟩ = some (.int .i64 ((rd_T91 l0 x8_1).f0.f3)) := (blk_cell K0.out 3).trans rfl; have hcz19_4 : w18.cell? ⟨g0, 4, none⟩ = some (.int .i64 ((rd_T91 l0 x8_1).f1)) := (blk_cell K0.out 4).trans rfl; have hfz19_0 := blk_frozen K0.out 0; have hfz19_1 := blk_frozen K0.out 1; have hfz19_2 := blk_frozen K0.out 2; have hfz19_3 := blk_frozen K0.out 3; have hfz19_4 := blk_frozen K0.out 4))
            go_roundg kj4
            case measure => have := HK1.out; have := HJ4.out; omega
            case rel => exact ⟨(wrap64 (x8_1 + 1)), (by first | rfl | (simp; done) | (simp [*]; done)), H', ⟨by have := HK1.out; have := HJ4.out; omega⟩, ⟨by repeat (first | (with_reducible first | exact HB.out | apply below_alloc | apply pw_below_drewN | apply below_drew1 | refine below_set ?_ E0.out) | exact HB.out)⟩⟩
           ·rw [if_neg c16] at H
            have c16b0 : (((rd_T91 l0 x8_1).f0.f0) == x8_1) = false := beq_eq_false_iff_ne.mpr c16
            have c16b1 : (((rd_T91 l0 x8_1).f0.f0) != x8_1) = true := bne_iff_ne.mpr c16
            obtain rfl := Option.some.inj H
            have hcz20_0 : wc.cell? ⟨g0, 0, none⟩ = some (.int .i64 ((rd_T91 l0 x8_1).f0.f0)) := (blk_cell K0.out 0).trans rfl
            have hcz20_1 : wc.cell? ⟨g0, 1, none⟩ = some (.int .i64 ((rd_T91 l0 x8_1).f0.f1)) := (blk_cell K0.out 1).trans rfl
            have hcz20_2 : wc.cell? ⟨g0, 2, none⟩ = some (.int .i64 ((rd_T91 l0 x8_1).f0.f2)) := (blk_cell K0.out 2).trans rfl
            have hcz20_3 : wc.cell? ⟨g0, 3, none⟩ = some (.int .i64 ((rd_T91 l0 x8_1).f0.f3)) := (blk_cell K0.out 3).trans rfl
            have hcz20_4 : wc.cell? ⟨g0, 4, none⟩ = some (.int .i64 ((rd_T91 l0 x8_1).f1)) := (blk_cell K0.out 4).trans rfl
            have hfz20_0 := blk_frozen K0.out 0
            have hfz20_1 := blk_frozen K0.out 1
            have hfz20_2 := blk_frozen K0.out 2
            have hfz20_3 := blk_frozen K0.out 3
            have hfz20_4 := blk_frozen K0.out 4
            go_wp2_with (first | (go_at_call 24; (with_reducible refine (conf_Time.calls ((rd_T91 l0 x8_1).f1) true _ A12.out).mono ?_); rintro e w' ⟨rfl, ⟨nd, rfl⟩⟩) | (go_at_call 49; (with_reducible refine (report_May.calls ((rd_T91 l0 x8_1).f0.f0) ((rd_T91 l0 x8_1).f0.f1) ((rd_T91 l0 x8_1).f0.f2) ((rd_T91 l0 x8_1).f0.f3) true _ A14.out).mono ?_); rintro e w21 ⟨rfl, hb⟩; have n0_ := Aside0.mk (blk_below (g := g0) (o := .cells #[.int .i64 ((rd_T91 l0 x8_1).f0.f0), .int .i64 ((rd_T91 l0 x8_1).f0.f1), .int .i64 ((rd_T91 l0 x8_1).f0.f2), .int .i64 ((rd_T91 l0 x8_1).f0.f3), .int .i64 ((rd_T91 l0 x8_1).f1)] 91 (0, 0)) (by (with_reducible repeat (first | refine blk_drewN ?_ _ | refine blk_drew ?_ | refine blk_alloc ?_ _)); exact K0.out) hb); have n1_ := Aside0.mk (below_step (by repeat (first | (with_reducible first | exact HB.out | apply below_alloc | apply pw_below_drewN | apply below_drew1 | refine below_set ?_ E0.out) | exact HB.out)) hb); clear K0; clear HB; have K0 := n0_; have HB := n1_; clear n0_ n1_; (try clear hb); (try clear hb2); (try clear hk); (try clear hi); have hcz22_0 : w21.cell? ⟨g0, 0, none⟩ = some (.int .i64 ((rd_T91 l0 x8_1).f0.f0)) := (blk_cell K0.out 0).trans rfl; have hcz22_1 : w21.cell? ⟨g0, 1, none⟩ = some (.int .i64 ((rd_T91 l0 x8_1).f0.f1)) := (blk_cell K0.out 1).trans rfl; have hcz22_2 : w21.cell? ⟨g0, 2, none⟩ = some (.int .i64 ((rd_T91 l0 x8_1).f0.f2)) := (blk_cell K0.out 2).trans rfl; have hcz22_3 : w21.cell? ⟨g0, 3, none⟩ = some (.int .i64 ((rd_T91 l0 x8_1).f0.f3)) := (blk_cell K0.out 3).trans rfl; have hcz22_4 : w21.cell? ⟨g0, 4, none⟩ = some (.int .i64 ((rd_T91 l0 x8_1).f1)) := (blk_cell K0.out 4).trans rfl; have hfz22_0 := blk_frozen K0.out 0; have hfz22_1 := blk_frozen K0.out 1; have hfz22_2 := blk_frozen K0.out 2; have hfz22_3 := blk_frozen K0.out 3; have hfz22_4 := blk_frozen K0.out 4))
            go_ret
            exact ⟨by first | rfl | (simp [errW_none, errW_some] <;> rfl) | (simp [*, errW_none, errW_some] <;> rfl), by repeat (first | (with_reducible first | exact HB.out | apply below_alloc | apply pw_below_drewN | apply below_drew1 | refine below_set ?_ E0.out) | exact HB.out)⟩
          ·replace c15 := Bool.eq_false_iff.mpr c15
           subst c15
           have H1 : (some false) = some r := by rw [if_neg (show ¬ (false = true) by decide)] at H; exact H
           clear H
           have H := H1
           clear H1
           obtain rfl := Option.some.inj H
           have hcz23_0 : wc.cell? ⟨g0, 0, none⟩ = some (.int .i64 ((rd_T91 l0 x8_1).f0.f0)) := (blk_cell K0.out 0).trans rfl
           have hcz23_1 : wc.cell? ⟨g0, 1, none⟩ = some (.int .i64 ((rd_T91 l0 x8_1).f0.f1)) := (blk_cell K0.out 1).trans rfl
           have hcz23_2 : wc.cell? ⟨g0, 2, none⟩ = some (.int .i64 ((rd_T91 l0 x8_1).f0.f2)) := (blk_cell K0.out 2).trans rfl
           have hcz23_3 : wc.cell? ⟨g0, 3, none⟩ = some (.int .i64 ((rd_T91 l0 x8_1).f0.f3)) := (blk_cell K0.out 3).trans rfl
           have hcz23_4 : wc.cell? ⟨g0, 4, none⟩ = some (.int .i64 ((rd_T91 l0 x8_1).f1)) := (blk_cell K0.out 4).trans rfl
           have hfz23_0 := blk_frozen K0.out 0
           have hfz23_1 := blk_frozen K0.out 1
           have hfz23_2 := blk_frozen K0.out 2
           have hfz23_3 := blk_frozen K0.out 3
           have hfz23_4 := blk_frozen K0.out 4
           go_wp2_with (first | (go_at_call 24; (with_reducible refine (conf_Time.calls ((rd_T91 l0 x8_1).f1) true _ A12.out).mono ?_); rintro e w' ⟨rfl, ⟨nd, rfl⟩⟩) | (go_at_call 49; (with_reducible refine (report_May.calls ((rd_T91 l0 x8_1).f0.f0) ((rd_T91 l0 x8_1).f0.f1) ((rd_T91 l0 x8_1).f0.f2) ((rd_T91 l0 x8_1).f0.f3) false _ A14.out).mono ?_); rintro e w24 ⟨rfl, hb⟩; have n0_ := Aside0.mk (blk_below (g := g0) (o := .cells #[.int .i64 ((rd_T91 l0 x8_1).f0.f0), .int .i64 ((rd_T91 l0 x8_1).f0.f1), .int .i64 ((rd_T91 l0 x8_1).f0.f2), .int .i64 ((rd_T91 l0 x8_1).f0.f3), .int .i64 ((rd_T91 l0 x8_1).f1)] 91 (0, 0)) (by (with_reducible repeat (first | refine blk_drewN ?_ _ | refine blk_drew ?_ | refine blk_alloc ?_ _)); exact K0.out) hb); have n1_ := Aside0.mk (below_step (by repeat (first | (with_reducible first | exact HB.out | apply below_alloc | apply pw_below_drewN | apply below_drew1 | refine below_set ?_ E0.out) | exact HB.out)) hb); clear K0; clear HB; have K0 := n0_; have HB := n1_; clear n0_ n1_; (try clear hb); (try clear hb2); (try clear hk); (try clear hi)))
           go_ret
           exact ⟨by first | rfl | (simp [errW_none, errW_some] <;> rfl) | (simp [*, errW_none, errW_some] <;> rfl), by repeat (first | (with_reducible first | exact HB.out | apply below_alloc | apply pw_below_drewN | apply below_drew1 | refine below_set ?_ E0.out) | exact HB.out)⟩
         ·replace c13 := Bool.eq_false_iff.mpr c13
          subst c13
          have H1 : (some false) = some r := by rw [if_neg (show ¬ (false = true) by decide)] at H; exact H
          clear H
          have H := H1
          clear H1
          obtain rfl := Option.some.inj H
          have hcz25_0 : wc.cell? ⟨g0, 0, none⟩ = some (.int .i64 ((rd_T91 l0 x8_1).f0.f0)) := (blk_cell K0.out 0).trans rfl
          have hcz25_1 : wc.cell? ⟨g0, 1, none⟩ = some (.int .i64 ((rd_T91 l0 x8_1).f0.f1)) := (blk_cell K0.out 1).trans rfl
          have hcz25_2 : wc.cell? ⟨g0, 2, none⟩ = some (.int .i64 ((rd_T91 l0 x8_1).f0.f2)) := (blk_cell K0.out 2).trans rfl
          have hcz25_3 : wc.cell? ⟨g0, 3, none⟩ = some (.int .i64 ((rd_T91 l0 x8_1).f0.f3)) := (blk_cell K0.out 3).trans rfl
          have hcz25_4 : wc.cell? ⟨g0, 4, none⟩ = some (.int .i64 ((rd_T91 l0 x8_1).f1)) := (blk_cell K0.out 4).trans rfl
          have hfz25_0 := blk_frozen K0.out 0
          have hfz25_1 := blk_frozen K0.out 1
          have hfz25_2 := blk_frozen K0.out 2
          have hfz25_3 := blk_frozen K0.out 3
          have hfz25_4 := blk_frozen K0.out 4
          go_wp2_with (first | (go_at_call 24; (with_reducible refine (conf_Time.calls ((rd_T91 l0 x8_1).f1) false _ A12.out).mono ?_); rintro e w' ⟨rfl, ⟨nd, rfl⟩⟩))
          go_ret
          exact ⟨by first | rfl | (simp [errW_none, errW_some] <;> rfl) | (simp [*, errW_none, errW_some] <;> rfl), by repeat (first | (with_reducible first | exact HB.out | apply below_alloc | apply pw_below_drewN | apply below_drew1 | refine below_set ?_ E0.out) | exact HB.out)⟩
     ·rw [if_neg c4] at H
      exact absurd H (by simp)
    ·rw [if_neg c3] at H
     exact absurd H (by simp)
   ·rw [if_neg c2] at H
    have c2b0 : decide (x8_1 < (l0.length : Int)) = false := decide_eq_false c2
    clear c2
    obtain rfl := Option.some.inj H
    go_wp2
    go_ret
    exact ⟨by first | rfl | (simp [errW_none, errW_some] <;> rfl) | (simp [*, errW_none, errW_some] <;> rfl), by repeat (first | (with_reducible first | exact HB.out | apply below_alloc | apply pw_below_drewN | apply below_drew1) | exact HB.out)⟩

end Go.Proofs.Ytlapbhgkmmeeoaa.PSpares
end
section
/- Contracts: what calls of these functions of the program do, each as a plain function; written by a program of this session. -/
namespace Go.Proofs.Ytlapbhgkmmeeoaa.PSpares
open Go.RowKit Go.Proofs.YtlapbhgkmmeeoaaW.PrintWords Go.Proofs.YtlapbhgkmmeeoaaW.PrintLast Go.Proofs.YtlapbhgkmmeeoaaW.PrintMore
attribute [local go_sem] max2_int min2_int max_two min_two max_three min_three max_four min_four   -- for this text's walks alone
set_option linter.unusedVariables false
set_option linter.unusedSimpArgs false

/-! ### flow_handled: function 65 -/
def flow_handled.f (a0 : Int) : Option (Bool) := if a0 = 6 then (some true) else (some (a0 == 17))
set_option maxHeartbeats 8000000 in
set_option maxRecDepth 100000 in
theorem flow_handled.calls (a0 : Int) (r : Bool) (w : World) (h : flow_handled.f a0 = some r) :
  Calls Try.prog 65 #[.int .i64 a0] w fun e w' => e = .returned (.bool r) ∧ Drawn0 w w' := by
 have H : (if a0 = 6 then (some true) else (some (a0 == 17))) = some r := h
 clear h
 by_cases c2 : a0 = 6
 ·rw [if_pos c2] at H
  have c2b0 : (a0 == 6) = true := beq_iff_eq.mpr c2
  have c2b1 : (a0 != 6) = false := bne_eq_false_iff_eq.mpr c2
  clear c2
  obtain rfl := Option.some.inj H
  go_enter Try.func65, Try.ntmps65
  go_wp2
  go_ret
  exact ⟨by first | rfl | (simp; done) | (simp [*]; done), by repeat (first | exact Drawn0.refl _ | apply Drawn0.step)⟩
 ·rw [if_neg c2] at H
  have c2b0 : (a0 == 6) = false := beq_eq_false_iff_ne.mpr c2
  have c2b1 : (a0 != 6) = true := bne_iff_ne.mpr c2
  obtain rfl := Option.some.inj H
  go_enter Try.func65, Try.ntmps65
  go_wp2
  go_ret
  exact ⟨by first | rfl | (simp; done) | (simp [*]; done), by repeat (first | exact Drawn0.refl _ | apply Drawn0.step)⟩

/-! ### flow_May: function 58 -/
def flow_May.f (a0_0 : Int) (a0_1 : Int) (a0_2 : Int) (a0_3 : Int) (a0_4 : Int) : Option (Bool) := (ip_In.f a0_0 32).bind fun t129 => (if t129 = true then ((ip_In.f a0_1 32).bind fun t130 => (if t130 = true then ((flow_handled.f a0_2).bind fun t131 => (if t131 = true then ((ip_In.f a0_3 16).bind fun t132 => (if t132 = true then ((ip_In.f a0_4 16).bind fun t133 => (some t133)) else (some false))) else (some false))) else (some false))) else (some false))
set_option maxHeartbeats 8000000 in
set_option maxRecDepth 100000 in
theorem flow_May.calls (a0_0 : Int) (a0_1 : Int) (a0_2 : Int) (a0_3 : Int) (a0_4 : Int) (r : Bool) (w : World) (h : flow_May.f a0_0 a0_1 a0_2 a0_3 a0_4 = some r) :
  Calls Try.prog 58 #[.agg #[.int .i64 a0_0, .int .i64 a0_1, .int .i64 a0_2, .int .i64 a0_3, .int .i64 a0_4]] w fun e w' => e = .returned (.bool r) ∧ Below w.heap.size w w' := by
 have hu48 := Try.underlying48
 have HB := Aside0.mk (Below.refl w.heap.size w)
 have H : ((ip_In.f a0_0 32).bind fun t129 => (if t129 = true then ((ip_In.f a0_1 32).bind fun t130 => (if t130 = true then ((flow_handled.f a0_2).bind fun t131 => (if t131 = true then ((ip_In.f a0_3 16).bind fun t132 => (if t132 = true then ((ip_In.f a0_4 16).bind fun t133 => (some t133)) else (some false))) else (some false))) else (some false))) else (some false))) = some r := h
 clear h
 replace H := Option.bind_eq_some_iff.mp H
 obtain ⟨t129, A20, H⟩ := H
 replace H : (if t129 = true then ((ip_In.f a0_1 32).bind fun t130 => (if t130 = true then ((flow_handled.f a0_2).bind fun t131 => (if t131 = true then ((ip_In.f a0_3 16).bind fun t132 => (if t132 = true then ((ip_In.f a0_4 16).bind fun t133 => (some t133)) else (some false))) else (some false))) else (some false))) else (some false)) = some r := H
 have A2 := Aside0.mk A20
 clear A20
 by_cases c3 : t129 = true
 ·subst c3
  have H1 : ((ip_In.f a0_1 32).bind fun t130 => (if t130 = true then ((flow_handled.f a0_2).bind fun t131 => (if t131 = true then ((ip_In.f a0_3 16).bind fun t132 => (if t132 = true then ((ip_In.f a0_4 16).bind fun t133 => (some t133)) else (some false))) else (some false))) else (some false))) = some r := by rw [if_pos rfl] at H; exact H
  clear H
  have H := H1
  clear H1
  replace H := Option.bind_eq_some_iff.mp H
  obtain ⟨t130, A40, H⟩ := H
  replace H : (if t130 = true then ((flow_handled.f a0_2).bind fun t131 => (if t131 = true then ((ip_In.f a0_3 16).bind fun t132 => (if t132 = true then ((ip_In.f a0_4 16).bind fun t133 => (some t133)) else (some false))) else (some false))) else (some false)) = some r := H
  have A4 := Aside0.mk A40
  clear A40
  by_cases c5 : t130 = true
  ·subst c5
   have H1 : ((flow_handled.f a0_2).bind fun t131 => (if t131 = true then ((ip_In.f a0_3 16).bind fun t132 => (if t132 = true then ((ip_In.f a0_4 16).bind fun t133 => (some t133)) else (some false))) else (some false))) = some r := by rw [if_pos rfl] at H; exact H
   clear H
   have H := H1
   clear H1
   replace H := Option.bind_eq_some_iff.mp H
   obtain ⟨t131, A60, H⟩ := H
   replace H : (if t131 = true then ((ip_In.f a0_3 16).bind fun t132 => (if t132 = true then ((ip_In.f a0_4 16).bind fun t133 => (some t133)) else (some false))) else (some false)) = some r := H
   have A6 := Aside0.mk A60
   clear A60
   by_cases c7 : t131 = true
   ·subst c7
    have H1 : ((ip_In.f a0_3 16).bind fun t132 => (if t132 = true then ((ip_In.f a0_4 16).bind fun t133 => (some t133)) else (some false))) = some r := by rw [if_pos rfl] at H; exact H
    clear H
    have H := H1
    clear H1
    replace H := Option.bind_eq_some_iff.mp H
    obtain ⟨t132, A80, H⟩ := H
    replace H : (if t132 = true then ((ip_In.f a0_4 16).bind fun t133 => (some t133)) else (some false)) = some r := H
    have A8 := Aside0.mk A80
    clear A80
    by_cases c9 : t132 = true
    ·subst c9
     have H1 : ((ip_In.f a0_4 16).bind fun t133 => (some t133)) = some r := by rw [if_pos rfl] at H; exact H
     clear H
     have H := H1
     clear H1
     replace H := Option.bind_eq_some_iff.mp H
     obtain ⟨t133, A100, H⟩ := H
     replace H : (some t133) = some r := H
     have A10 := Aside0.mk A100
     clear A100
     obtain rfl := Option.some.inj H
     go_enter Try.func58, Try.ntmps58
     go_wp2_with (first | ((with_reducible refine gate_dst (N := 1) rfl ?_); refine box_event ?hg (N := 1) ?hd (cs := #[.int .i64 a0_0, .int .i64 a0_1, .int .i64 a0_2, .int .i64 a0_3, .int .i64 a0_4]) (t := 48) ?hr ?_; (case hd => rfl); (case hg => rfl); (case hr => first | (go_simp; done) | (go_simp; rfl)); intro g0 hg w11 hbox hb; have n0_ := Aside0.mk (below_step (by repeat (first | (with_reducible first | exact HB.out | apply below_alloc | apply pw_below_drewN | apply below_drew1) | exact HB.out)) hb); have n1_ := Aside0.mk (hbox); have n2_ := Aside0.mk ((by rw [hg]; exact (below_size (by repeat (first | (with_reducible first | exact HB.out | apply below_alloc | apply pw_below_drewN | apply below_drew1) | exact HB.out))) : w.heap.size ≤ g0)); have n3_ := Aside0.mk ((by rw [hg]; exact (below_size (by repeat (first | (with_reducible first | exact HB.out | apply below_alloc | apply pw_below_drewN | apply below_drew1) | exact HB.out))) : w.heap.size ≤ g0)); clear HB; have HB := n0_; have K0 := n1_; have G0 := n2_; have E0 := n3_; clear n0_ n1_ n2_ n3_; clear hb hbox hg; have hcz12_0 : w11.cell? ⟨g0, 0, none⟩ = some (.int .i64 a0_0) := (blk_cell K0.out 0).trans rfl; have hcz12_1 : w11.cell? ⟨g0, 1, none⟩ = some (.int .i64 a0_1) := (blk_cell K0.out 1).trans rfl; have hcz12_2 : w11.cell? ⟨g0, 2, none⟩ = some (.int .i64 a0_2) := (blk_cell K0.out 2).trans rfl; have hcz12_3 : w11.cell? ⟨g0, 3, none⟩ = some (.int .i64 a0_3) := (blk_cell K0.out 3).trans rfl; have hcz12_4 : w11.cell? ⟨g0, 4, none⟩ = some (.int .i64 a0_4) := (blk_cell K0.out 4).trans rfl; have hfz12_0 := blk_frozen K0.out 0; have hfz12_1 := blk_frozen K0.out 1; have hfz12_2 := blk_frozen K0.out 2; have hfz12_3 := blk_frozen K0.out 3; have hfz12_4 := blk_frozen K0.out 4) | ((with_reducible refine gate_callee (f := 57) rfl ?_); refine goesL_ (some 5) rfl rfl Try.func57 (by kernel_rfl) rfl #[.int .i64 a0_0, .int .i64 32] rfl (by (try simp only [List.map_toArray, List.map_cons, List.map_nil]); first | done | rfl | (simp only [List.length_drop, List.length_take]; rfl)) ?_; (with_reducible refine (ip_In.calls a0_0 32 true _ A2.out).mono ?_); rintro e w' ⟨rfl, ⟨nd, rfl⟩⟩; refine ⟨_, rfl, ?_⟩) | (go_at_call 57; (with_reducible refine (ip_In.calls a0_1 32 true _ A4.out).mono ?_); rintro e w' ⟨rfl, ⟨nd, rfl⟩⟩) | (go_at_call 65; (with_reducible refine (flow_handled.calls a0_2 true _ A6.out).mono ?_); rintro e w' ⟨rfl, ⟨nd, rfl⟩⟩) | (go_at_call 57; (with_reducible refine (ip_In.calls a0_3 16 true _ A8.out).mono ?_); rintro e w' ⟨rfl, ⟨nd, rfl⟩⟩) | (go_at_call 57; (with_reducible refine (ip_In.calls a0_4 16 t133 _ A10.out).mono ?_); rintro e w' ⟨rfl, ⟨nd, rfl⟩⟩))
     go_ret
     exact ⟨by first | rfl | (simp [errW_none, errW_some] <;> rfl) | (simp [*, errW_none, errW_some] <;> rfl), by repeat (first | (with_reducible first | exact HB.out | apply below_alloc | apply pw_below_drewN | apply below_drew1 | refine below_set ?_ E0.out) | exact HB.out)⟩
    ·replace c9 := Bool.eq_false_iff.mpr c9
     subst c9
     have H1 : (some false) = some r := by rw [if_neg (show ¬ (false = true) by decide)] at H; exact H
     clear H
     have H := H1
     clear H1
     obtain rfl := Option.some.inj H
     go_enter Try.func58, Try.ntmps58
     go_wp2_with (first | ((with_reducible refine gate_dst (N := 1) rfl ?_); refine box_event ?hg (N := 1) ?hd (cs := #[.int .i64 a0_0, .int .i64 a0_1, .int .i64 a0_2, .int .i64 a0_3, .int .i64 a0_4]) (t := 48) ?hr ?_; (case hd => rfl); (case hg => rfl); (case hr => first | (go_simp; done) | (go_simp; rfl)); intro g0 hg w13 hbox hb; have n0_ := Aside0.mk (below_step (by repeat (first | (with_reducible first | exact HB.out | apply below_alloc | apply pw_below_drewN | apply below_drew1) | exact HB.out)) hb); have n1_ := Aside0.mk (hbox); have n2_ := Aside0.mk ((by rw [hg]; exact (below_size (by repeat (first | (with_reducible first | exact HB.out | apply below_alloc | apply pw_below_drewN | apply below_drew1) | exact HB.out))) : w.heap.size ≤ g0)); have n3_ := Aside0.mk ((by rw [hg]; exact (below_size (by repeat (first | (with_reducible first | exact HB.out | apply below_alloc | apply pw_below_drewN | apply below_drew1) | exact HB.out))) : w.heap.size ≤ g0)); clear HB; have HB := n0_; have K0 := n1_; have G0 := n2_; have E0 := n3_; clear n0_ n1_ n2_ n3_; clear hb hbox hg; have hcz14_0 : w13.cell? ⟨g0, 0, none⟩ = some (.int .i64 a0_0) := (blk_cell K0.out 0).trans rfl; have hcz14_1 : w13.cell? ⟨g0, 1, none⟩ = some (.int .i64 a0_1) := (blk_cell K0.out 1).trans rfl; have hcz14_2 : w13.cell? ⟨g0, 2, none⟩ = some (.int .i64 a0_2) := (blk_cell K0.out 2).trans rfl; have hcz14_3 : w13.cell? ⟨g0, 3, none⟩ = some (.int .i64 a0_3) := (blk_cell K0.out 3).trans rfl; have hcz14_4 : w13.cell? ⟨g0, 4, none⟩ = some (.int .i64 a0_4) := (blk_cell K0.out 4).trans rfl; have hfz14_0 := blk_frozen K0.out 0; have hfz14_1 := blk_frozen K0.out 1; have hfz14_2 := blk_frozen K0.out 2; have hfz14_3 := blk_frozen K0.out 3; have hfz14_4 := blk_frozen K0.out 4) | ((with_reducible refine gate_callee (f := 57) rfl ?_); refine goesL_ (some 5) rfl rfl Try.func57 (by kernel_rfl) rfl #[.int .i64 a0_0, .int .i64 32] rfl (by (try simp only [List.map_toArray, List.map_cons, List.map_nil]); first | done | rfl | (simp only [List.length_drop, List.length_take]; rfl)) ?_; (with_reducible refine (ip_In.calls a0_0 32 true _ A2.out).mono ?_); rintro e w' ⟨rfl, ⟨nd, rfl⟩⟩; refine ⟨_, rfl, ?_⟩) | (go_at_call 57; (with_reducible refine (ip_In.calls a0_1 32 true _ A4.out).mono ?_); rintro e w' ⟨rfl, ⟨nd, rfl⟩⟩) | (go_at_call 65; (with_reducible refine (flow_handled.calls a0_2 true _ A6.out).mono ?_); rintro e w' ⟨rfl, ⟨nd, rfl⟩⟩) | (go_at_call 57; (with_reducible refine (ip_In.calls a0_3 16 false _ A8.out).mono ?_); rintro e w' ⟨rfl, ⟨nd, rfl⟩⟩))
     go_ret
     exact ⟨by first | rfl | (simp [errW_none, errW_some] <;> rfl) | (simp [*, errW_none, errW_some] <;> rfl), by repeat (first | (with_reducible first | exact HB.out | apply below_alloc | apply pw_below_drewN | apply below_drew1 | refine below_set ?_ E0.out) | exact HB.out)⟩
   ·replace c7 := Bool.eq_false_iff.mpr c7
    subst c7
    have H1 : (some false) = some r := by rw [if_neg (show ¬ (false = true) by decide)] at H; exact H
    clear H
    have H := H1
    clear H1
    obtain rfl := Option.some.inj H
    go_enter Try.func58, Try.ntmps58
    go_wp2_with (first | ((with_reducible refine gate_dst (N := 1) rfl ?_); refine box_event ?hg (N := 1) ?hd (cs := #[.int .i64 a0_0, .int .i64 a0_1, .int .i64 a0_2, .int .i64 a0_3, .int .i64 a0_4]) (t := 48) ?hr ?_; (case hd => rfl); (case hg => rfl); (case hr => first | (go_simp; done) | (go_simp; rfl)); intro g0 hg w15 hbox hb; have n0_ := Aside0.mk (below_step (by repeat (first | (with_reducible first | exact HB.out | apply below_alloc | apply pw_below_drewN | apply below_drew1) | exact HB.out)) hb); have n1_ := Aside0.mk (hbox); have n2_ := Aside0.mk ((by rw [hg]; exact (below_size (by repeat (first | (with_reducible first | exact HB.out | apply below_alloc | apply pw_below_drewN | apply below_drew1) | exact HB.out))) : w.heap.size ≤ g0)); have n3_ := Aside0.mk ((by rw [hg]; exact (below_size (by repeat (first | (with_reducible first | exact HB.out | apply below_alloc | apply pw_below_drewN | apply below_drew1) | exact HB.out))) : w.heap.size ≤ g0)); clear HB; have HB := n0_; have K0 := n1_; have G0 := n2_; have E0 := n3_; clear n0_ n1_ n2_ n3_; clear hb hbox hg; have hcz16_0 : w15.cell? ⟨g0, 0, none⟩ = some (.int .i64 a0_0) := (blk_cell K0.out 0).trans rfl; have hcz16_1 : w15.cell? ⟨g0, 1, none⟩ = some (.int .i64 a0_1) := (blk_cell K0.out 1).trans rfl; have hcz16_2 : w15.cell? ⟨g0, 2, none⟩ = some (.int .i64 a0_2) := (blk_cell K0.out 2).trans rfl; have hcz16_3 : w15.cell? ⟨g0, 3, none⟩ = some (.int .i64 a0_3) := (blk_cell K0.out 3).trans rfl; have hcz16_4 : w15.cell? ⟨g0, 4, none⟩ = some (.int .i64 a0_4) := (blk_cell K0.out 4).trans rfl; have hfz16_0 := blk_frozen K0.out 0; have hfz16_1 := blk_frozen K0.out 1; have hfz16_2 := blk_frozen K0.out 2; have hfz16_3 := blk_frozen K0.out 3; have hfz16_4 := blk_frozen K0.out 4) | ((with_reducible refine gate_callee (f := 57) rfl ?_); refine goesL_ (some 5) rfl rfl Try.func57 (by kernel_rfl) rfl #[.int .i64 a0_0, .int .i64 32] rfl (by (try simp only [List.map_toArray, List.map_cons, List.map_nil]); first | done | rfl | (simp only [List.length_drop, List.length_take]; rfl)) ?_; (with_reducible refine (ip_In.calls a0_0 32 true _ A2.out).mono ?_); rintro e w' ⟨rfl, ⟨nd, rfl⟩⟩; refine ⟨_, rfl, ?_⟩) | (go_at_call 57; (with_reducible refine (ip_In.calls a0_1 32 true _ A4.out).mono ?_); rintro e w' ⟨rfl, ⟨nd, rfl⟩⟩) | (go_at_call 65; (with_reducible refine (flow_handled.calls a0_2 false _ A6.out).mono ?_); rintro e w' ⟨rfl, ⟨nd, rfl⟩⟩))
    go_ret
    exact ⟨by first | rfl | (simp [errW_none, errW_some] <;> rfl) | (simp [*, errW_none, errW_some] <;> rfl), by repeat (first | (with_reducible first | exact HB.out | apply below_alloc | apply pw_below_drewN | apply below_drew1 | refine below_set ?_ E0.out) | exact HB.out)⟩
  ·replace c5 := Bool.eq_false_iff.mpr c5
   subst c5
   have H1 : (some false) = some r := by rw [if_neg (show ¬ (false = true) by decide)] at H; exact H
   clear H
   have H := H1
   clear H1
   obtain rfl := Option.some.inj H
   go_enter Try.func58, Try.ntmps58
   go_wp2_with (first | ((with_reducible refine gate_dst (N := 1) rfl ?_); refine box_event ?hg (N := 1) ?hd (cs := #[.int .i64 a0_0, .int .i64 a0_1, .int .i64 a0_2, .int .i64 a0_3, .int .i64 a0_4]) (t := 48) ?hr ?_; (case hd => rfl); (case hg => rfl); (case hr => first | (go_simp; done) | (go_simp; rfl)); intro g0 hg w17 hbox hb; have n0_ := Aside0.mk (below_step (by repeat (first | (with_reducible first | exact HB.out | apply below_alloc | apply pw_below_drewN | apply below_drew1) | exact HB.out)) hb); have n1_ := Aside0.mk (hbox); have n2_ := Aside0.mk ((by rw [hg]; exact (below_size (by repeat (first | (with_reducible first | exact HB.out | apply below_alloc | apply pw_below_drewN | apply below_drew1) | exact HB.out))) : w.heap.size ≤ g0)); have n3_ := Aside0.mk ((by rw [hg]; exact (below_size (by repeat (first | (with_reducible first | exact HB.out | apply below_alloc | apply pw_below_drewN | apply below_drew1) | exact HB.out))) : w.heap.size ≤ g0)); clear HB; have HB := n0_; have K0 := n1_; have G0 := n2_; have E0 := n3_; clear n0_ n1_ n2_ n3_; clear hb hbox hg; have hcz18_0 : w17.cell? ⟨g0, 0, none⟩ = some (.int .i64 a0_0) := (blk_cell K0.out 0).trans rfl; have hcz18_1 : w17.cell? ⟨g0, 1, none⟩ = some (.int .i64 a0_1) := (blk_cell K0.out 1).trans rfl; have hcz18_2 : w17.cell? ⟨g0, 2, none⟩ = some (.int .i64 a0_2) := (blk_cell K0.out 2).trans rfl; have hcz18_3 : w17.cell? ⟨g0, 3, none⟩ = some (.int .i64 a0_3) := (blk_cell K0.out 3).trans rfl; have hcz18_4 : w17.cell? ⟨g0, 4, none⟩ = some (.int .i64 a0_4) := (blk_cell K0.out 4).trans rfl; have hfz18_0 := blk_frozen K0.out 0; have hfz18_1 := blk_frozen K0.out 1; have hfz18_2 := blk_frozen K0.out 2; have hfz18_3 := blk_frozen K0.out 3; have hfz18_4 := blk_frozen K0.out 4) | ((with_reducible refine gate_callee (f := 57) rfl ?_); refine goesL_ (some 5) rfl rfl Try.func57 (by kernel_rfl) rfl #[.int .i64 a0_0, .int .i64 32] rfl (by (try simp only [List.map_toArray, List.map_cons, List.map_nil]); first | done | rfl | (simp only [List.length_drop, List.length_take]; rfl)) ?_; (with_reducible refine (ip_In.calls a0_0 32 true _ A2.out).mono ?_); rintro e w' ⟨rfl, ⟨nd, rfl⟩⟩; refine ⟨_, rfl, ?_⟩) | (go_at_call 57; (with_reducible refine (ip_In.calls a0_1 32 false _ A4.out).mono ?_); rintro e w' ⟨rfl, ⟨nd, rfl⟩⟩))
   go_ret
   exact ⟨by first | rfl | (simp [errW_none, errW_some] <;> rfl) | (simp [*, errW_none, errW_some] <;> rfl), by repeat (first | (with_reducible first | exact HB.out | apply below_alloc | apply pw_below_drewN | apply below_drew1 | refine below_set ?_ E0.out) | exact HB.out)⟩
 ·replace c3 := Bool.eq_false_iff.mpr c3
  subst c3
  have H1 : (some false) = some r := by rw [if_neg (show ¬ (false = true) by decide)] at H; exact H
  clear H
  have H := H1
  clear H1
  obtain rfl := Option.some.inj H
  go_enter Try.func58, Try.ntmps58
  go_wp2_with (first | ((with_reducible refine gate_dst (N := 1) rfl ?_); refine box_event ?hg (N := 1) ?hd (cs := #[.int .i64 a0_0, .int .i64 a0_1, .int .i64 a0_2, .int .i64 a0_3, .int .i64 a0_4]) (t := 48) ?hr ?_; (case hd => rfl); (case hg => rfl); (case hr => first | (go_simp; done) | (go_simp; rfl)); intro g0 hg w19 hbox hb; have n0_ := Aside0.mk (below_step (by repeat (first | (with_reducible first | exact HB.out | apply below_alloc | apply pw_below_drewN | apply below_drew1) | exact HB.out)) hb); have n1_ := Aside0.mk (hbox); have n2_ := Aside0.mk ((by rw [hg]; exact (below_size (by repeat (first | (with_reducible first | exact HB.out | apply below_alloc | apply pw_below_drewN | apply below_drew1) | exact HB.out))) : w.heap.size ≤ g0)); have n3_ := Aside0.mk ((by rw [hg]; exact (below_size (by repeat (first | (with_reducible first | exact HB.out | apply below_alloc | apply pw_below_drewN | apply below_drew1) | exact HB.out))) : w.heap.size ≤ g0)); clear HB; have HB := n0_; have K0 := n1_; have G0 := n2_; have E0 := n3_; clear n0_ n1_ n2_ n3_; clear hb hbox hg; have hcz20_0 : w19.cell? ⟨g0, 0, none⟩ = some (.int .i64 a0_0) := (blk_cell K0.out 0).trans rfl; have hcz20_1 : w19.cell? ⟨g0, 1, none⟩ = some (.int .i64 a0_1) := (blk_cell K0.out 1).trans rfl; have hcz20_2 : w19.cell? ⟨g0, 2, none⟩ = some (.int .i64 a0_2) := (blk_cell K0.out 2).trans rfl; have hcz20_3 : w19.cell? ⟨g0, 3, none⟩ = some (.int .i64 a0_3) := (blk_cell K0.out 3).trans rfl; have hcz20_4 : w19.cell? ⟨g0, 4, none⟩ = some (.int .i64 a0_4) := (blk_cell K0.out 4).trans rfl; have hfz20_0 := blk_frozen K0.out 0; have hfz20_1 := blk_frozen K0.out 1; have hfz20_2 := blk_frozen K0.out 2; have hfz20_3 := blk_frozen K0.out 3; have hfz20_4 := blk_frozen K0.out 4) | ((with_reducible refine gate_callee (f := 57) rfl ?_); refine goesL_ (some 5) rfl rfl Try.func57 (by kernel_rfl) rfl #[.int .i64 a0_0, .int .i64 32] rfl (by (try simp only [List.map_toArray, List.map_cons, List.map_nil]); first | done | rfl | (simp only [List.length_drop, List.length_take]; rfl)) ?_; (with_reducible refine (ip_In.calls a0_0 32 false _ A2.out).mono ?_); rintro e w' ⟨rfl, ⟨nd, rfl⟩⟩; refine ⟨_, rfl, ?_⟩))
  go_ret
  exact ⟨by first | rfl | (simp [errW_none, errW_some] <;> rfl) | (simp [*, errW_none, errW_some] <;> rfl), by repeat (first | (with_reducible first | exact HB.out | apply below_alloc | apply pw_below_drewN | apply below_drew1 | refine below_set ?_ E0.out) | exact HB.out)⟩

end Go.Proofs.Ytlapbhgkmmeeoaa.PSpares
end
