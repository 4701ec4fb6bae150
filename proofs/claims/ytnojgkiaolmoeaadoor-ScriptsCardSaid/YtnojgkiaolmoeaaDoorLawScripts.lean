/- The statement Scripts holds: the law answers true at every input that its row speaks of. -/
import Derived.Test.YtnojgkiaolmoeaaDoorRows
import Derived.Test.YtnojgkiaolmoeaaDoorOpenScripts
import Derived.Test.YtnojgkiaolmoeaaDoorPureScripts
import Derived.Test.YtnojgkiaolmoeaaDoorRead
import Derived.WalkKit
import Derived.ProofKit
import Derived.OpenShut
import Derived.ShutString
import Derived.ChangeOld
import Derived.Below
import Derived.SizedLaws
import Derived.LaidMore
import Derived.Stop.Joined
import Derived.Stop.LaidErr
import Derived.LaidSub
import Derived.Lib.LaidTab
import Derived.Test.YtnojgkiaolmoeaaDoorCards
import Derived.Test.YtnojgkiaolmoeaaDoorTie
import Derived.SevenTiedAt
import Derived.WideShapes
import Derived.Carry
namespace Go.Proofs.YtnojgkiaolmoeaaDoor.scripts
open Go.ChangeShapes Go.WideShapes Go.ChangeAt Go.RowKit
open Go.ChangeMaps (open_string shut_string)
open Go.Proofs.YtnojgkiaolmoeaaDoor.PSc Go.Proofs.YtnojgkiaolmoeaaDoor.Read Go.Proofs.YtnojgkiaolmoeaaDoorW.PrintWords
set_option linter.unusedVariables false
theorem own : ownKnob Tryd.prog.godebug = none := by kernel_rfl
theorem laidOut : laidOutB Tryd.prog = true := by kernel_rfl
/-- The door's own heap meets the condition. -/
theorem door_met (os : Os) (args : Array Value) : laidMetH Tryd.prog Rows.scriptsRow.laid ((World.doorLaid Tryd.prog 62 os).forCall (fun _ _ => 0) ⟨#[], args, []⟩).memory :=
  laidMetH_of_parts3 (fuel := 8) (laidMet_of_run' 8 (by kernel_rfl) (by kernel_rfl)) (by kernel_rfl) (by kernel_rfl)
theorem star : "*" ++ "errors.errorString" = "*errors.errorString" := by decide
theorem rowErr (u : TypeId) (h : Tryd.prog.typeName? 3 u = some "*errors.errorString") : u = 139 :=
  typeName_ptr_named (nm := "errors.errorString") (by rw [star]; kernel_rfl) (by kernel_rfl) (by decide) u (by rw [star]; exact h)
/-- What the condition gives the walk: the table of the powers of ten, the two sentinels of strconv. -/
theorem laid_of {W : World} (h : laidMetH Tryd.prog Rows.scriptsRow.laid W) : Take.Laid W := by
  rw [MakeChecks.laidMetH_plain _ _ _ (by kernel_rfl)] at h
  refine ⟨?_, ?_, ?_⟩
  · have h1 := h.filter (fun x => x.1 == "internal/strconv.uint64pow10")
    exact Lib.tabIs_of_head (rest := []) (g := 0) (t := 123) (e := 93) (n := 20) (by kernel_rfl) (by kernel_rfl) Tryd.underlying123 Tryd.underlying93 (by kernel_rfl) (by kernel_rfl) h1
  · have h1 := h.filter (fun x => x.1 == "strconv.ErrSyntax")
    obtain ⟨a, s, hv, _⟩ := laid_sentinel (P := Tryd.prog) (n := "strconv.ErrSyntax") (r := []) (g := 2) (ti := 87) (tp := 139) (te := 141) (ts := 9) h1 (by kernel_rfl) (by kernel_rfl) Tryd.underlying87 rowErr Tryd.underlying139 Tryd.underlying141 rfl rfl Tryd.underlying9 (by kernel_rfl) (by kernel_rfl)
    exact ⟨_, _, hv⟩
  · have h1 := h.filter (fun x => x.1 == "strconv.ErrRange")
    obtain ⟨a, s, hv, _⟩ := laid_sentinel (P := Tryd.prog) (n := "strconv.ErrRange") (r := []) (g := 3) (ti := 87) (tp := 139) (te := 141) (ts := 9) h1 (by kernel_rfl) (by kernel_rfl) Tryd.underlying87 rowErr Tryd.underlying139 Tryd.underlying141 rfl rfl Tryd.underlying9 (by kernel_rfl) (by kernel_rfl)
    exact ⟨_, _, hv⟩
set_option maxRecDepth 100000 in
theorem lifted (os : Os) (started : os.Started) (H : Type) (enc : TypeId × Value → H) :
    ReturnsInHanded {} Tryd.checked os 3 .any (fun w args => (Rows.scriptsSpec.pre enc Tryd.prog Tryd.f3 [] false w args ∧ laidMetH Tryd.prog Rows.scriptsRow.laid w) ∧ sizedMet enc Tryd.prog Tryd.f3 (OpenSpec.ofChange Rows.scriptsSpec) false w args) (Rows.scriptsSpec.post enc Tryd.prog Tryd.f3 false true false false) := by
  refine returnsInHanded_of_change_and (C := Tryd.checked) (X := fun w _ => laidMetH Tryd.prog Rows.scriptsRow.laid w) (fun _ _ _ hh h => h.of_heap hh) own started (by kernel_rfl) Tryd.func3
    (ChangeSpec.witness_shaped (enc := enc) (C := Tryd.checked) (os := os) (X := fun w _ => laidMetH Tryd.prog Rows.scriptsRow.laid w) false (World.doorLaid Tryd.prog 62 os) #[.slice none 0 0, .string ByteArray.empty] 8 rfl (World.shaped_of_RefB (by kernel_rfl) (by kernel_rfl)) (by kernel_rfl) (by kernel_rfl) (by kernel_rfl) (door_met os _)) ?_
  intro W base args ds gs before hval0 hW hcnd hsz0 hL0 _
  have ht := laid_of hL0
  have hsz : (DataW.weightsEach Tryd.prog (Tryd.f3.params.toList ++ Rows.scriptsSpec.plain.varTypes Tryd.prog) (ds ++ gs)).all (· ≤ reachBytes) = true := hsz0
  have hval : ∀ (j : Nat) t v, Tryd.f3.params[j]? = some t → args[j]? = some v → Value.okWide Tryd.prog W .any base t v := hval0
  have hW' := hW
  obtain ⟨p, q, hA0, hV, rfl, hfz, hnd⟩ := hW
  have hA : DataW.TrodAll enc Tryd.prog W 0 (fun _ => true) true Tryd.f3.params.toList args.toList ds p := hA0
  rw [Tryd.params3] at hA hval hsz
  obtain ⟨v0, vs0, d0, ds0, p0, q0, hargs, rfl, rfl, h0, r0⟩ := trodAll_cons hA
  obtain ⟨v1, vs1, d1, ds1, p1, q1, rfl, rfl, rfl, h1, r1⟩ := trodAll_cons r0
  obtain ⟨rfl, rfl, rfl⟩ := trodAll_nil r1
  obtain rfl : args = #[v0, v1] := by cases args; simp_all
  obtain ⟨rfl, rfl⟩ := trodVars_none hV
  have k0 := h0
  have lt0 : ∀ x ∈ p0, x.block < W.heap.size := by obtain ⟨m, hm⟩ := k0; exact DataW.trod_lt m _ _ _ hm
  obtain ⟨x0, K0, G0⟩ := open_arg (d := (Kd.slice 40 k40)) (G := (fun l => l.length ≤ 9223372036854775807 ∧ l.length * 104 ≤ 140737488351232 ∧ ∀ a ∈ l, g40 a)) (opens_slice (P := Tryd.prog) (T := 22) (e := 40) (B := 104) (by kernel_rfl) (by kernel_rfl) (by kernel_rfl) opens40) hsz (j := 0) rfl rfl h0
  obtain ⟨A0, n0, c0, rfl⟩ := okWide_slice Tryd.underlying22 (hval 0 22 v0 rfl rfl)
  obtain ⟨A0_, c0_, hcs0, l0, C0⟩ := K0
  obtain ⟨rfl, rfl, rfl⟩ : A0 = A0_ ∧ n0 = x0.length ∧ c0 = c0_ := by simpa [Value.cells] using hcs0
  obtain ⟨x1, rfl, rfl, rfl, y1⟩ := open_string Tryd.underlying9 (hval 1 9 v1 rfl rfl) h1
  have w1 : x1.size ≤ 140737488351232 := by
    have z := sized_string hsz (j := 1) (t := 9) rfl rfl
    rw [Array.length_toList] at z
    exact z
  clear hA0 hval0 hsz0 hsz
  refine (wharfagelaw23_Scripts.walkX Pure.Scripts W ht x0 A0 c0 l0 C0 G0 x1 w1).mono fun e W' ⟨he, bel⟩ => ?_
  subst he
  exact ⟨_, rfl, _, _, _, [], _, [], hW', trodAll_mk1 (shut_bool Tryd.underlying4 _), (trodAll_cons_mk (Below.trod laidOut (by kernel_rfl) (of_decide_eq_true (by kernel_rfl)) k0 bel lt0) (trodAll_cons_mk (shut_string Tryd.underlying9 y1) trodAll_mk0)), rfl, bel.frame _, fun h => by cases h⟩
theorem over : Rows.scriptsRow.holds Tryd.pinned (OpenSpec.ofChange Rows.scriptsSpec) :=
  OpenClaim.holds_of_wide 3 Tryd.f3 rfl rfl rfl rfl rfl rfl rfl ⟨rfl, rfl, rfl, rfl, rfl⟩ rfl rfl rfl rfl rfl (by kernel_rfl) Tryd.func3 (by kernel_rfl)
    (of_decide_eq_true (by kernel_rfl)) (by unfold Func.isWrapper; first | (rw [if_pos (by decide +kernel)]; kernel_rfl) | (rw [if_neg (by decide +kernel)]; exact ⟨rfl, rfl⟩))
    (fun os started H enc _ => lifted os started H enc)
theorem proved : Rows.ScriptsSaid := over
#print axioms proved
end Go.Proofs.YtnojgkiaolmoeaaDoor.scripts
namespace Go.Proofs.YtnojgkiaolmoeaaDoor
/-- The row, under a short name, for the claim. -/
theorem scripts_holds : Rows.ScriptsSaid := scripts.proved
/-- The tied card. -/
theorem scripts_card : Rows.ScriptsCardSaid :=
  Claim7.holds_tied_plain_at .later [] [.data, .data, .data, .sentinel, .sentinel] true (true, "666ee25cc6b34044800074f44ce9ae094286fac38417d73b8fb15b6c7753f076") true
    scripts_holds (fun _ h => by cases h) (by kernel_rfl) (fun _ h => by cases h) scripts_row_tie rfl ⟨rfl, rfl⟩ (by kernel_rfl) rfl
    (fun f fn hf hfn => by
      obtain rfl : f = 3 := Option.some.inj ((show Tryd.prog.funcNamed "wharfage/wharfagelaw23.Scripts" = some 3 by kernel_rfl).symm.trans hf) |>.symm
      obtain rfl : fn = Tryd.f3 := (Option.some.inj (Tryd.func3.symm.trans hfn)).symm
      exact ⟨by kernel_rfl, fun j t ht => by
        rw [Tryd.params3] at ht
        have hall : ∀ (i : Nat) (u : TypeId), (#[22, 9] : Array TypeId)[i]? = some u → Tryd.prog.wantsStandIn u = false := by
          intro i u hu
          have hm : u ∈ (#[22, 9] : Array TypeId).toList := Array.mem_toList_iff.2 (Array.mem_of_getElem? hu)
          have hal : ((#[22, 9] : Array TypeId).toList.all fun u => !Tryd.prog.wantsStandIn u) = true := by kernel_rfl
          exact (show Tryd.prog.wantsStandIn u = false by simpa using List.all_eq_true.1 hal u hm)
        exact hall j t ht⟩)
    (by kernel_rfl)
#print axioms scripts_card
end Go.Proofs.YtnojgkiaolmoeaaDoor
