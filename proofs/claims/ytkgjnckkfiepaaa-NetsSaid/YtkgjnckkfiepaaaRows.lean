/-
  No cell of these rows narrows 'for every input' (looked for: loops, veiled, ifaces, maps, wideKeys, modest, calm, conditions, laid).
  DERIVED. THE GIVEN ROWS OF THIS SEAT. 4 by the template 'for every input the law returns true; each argument reads behind the call as it read before'; 0 by the template 'total and deterministic' (their statements: YtkgjnckkfiepaaaTotals.lean).
  GIVEN WITH THE SEED: the statements are not yours to turn. If you find one false, say at which input.
  Laid BY PROGRAM, IN A SANDBOX (cutbox-rows.mjs): the forced cells as the released guide's own fill.sh prints them over the translation a2e164ac87ca669e… (all of the seat's roots in one cut). By AI agents, Wed Nov 11 2026. No macro, syntax, notation, axiom, sorry.
-/
import Derived.Test.YtkgjnckkfiepaaaChecked
import GoSem.Claim
import GoSem.ClaimJoined
import GoSem.ClaimMapViews
import Derived.JoinedTies
import Derived.KernelRfl
namespace Go.Proofs.Ytkgjnckkfiepaaa
/- THE CELL 'sum', in the pinned program and in every row, IS THE sha256 OF THE DUMP (.gsa) THAT YtkgjnckkfiepaaaProg.lean LOADS. Nothing in Lean hashes anything: it is a label: what it is worth is what the hold of that sum in a sandbox is worth. -/
noncomputable def Try.pinned : Pinned := { name := "ytkgjnckkfiepaaa", sum := "a2e164ac87ca669ea621d407337f59f3125e809ce3c7b36353d3bcd6a747ad2e", checked := Try.checked }
namespace Rows
def none {H : Type} : Left H := { results := [], args := [] }

/-- 'wharfagelaw22.Nets': WHATEVER THE INPUT: true; the input reads as it did. -/
def netsSpec : ChangeSpec := { name := "nets", fn := fun _ => fun
  | [d1, d2] => { results := [.lit (.bool true)], args := [d1, d2] }
  | _ => none }
def netsRow : OpenClaim := { program := "ytkgjnckkfiepaaa", sum := "a2e164ac87ca669ea621d407337f59f3125e809ce3c7b36353d3bcd6a747ad2e", func := "wharfage/wharfagelaw22.Nets", spec := "nets", apart := false }
def NetsSaid : Prop := netsRow.holds Try.pinned (OpenSpec.ofChange netsSpec)

/-- ITS FALSE NEIGHBOUR: 'it returns false'. Refute it at one input. -/
def netsWrong : ChangeSpec := { name := "nets", fn := fun _ => fun
  | [d1, d2] => { results := [.lit (.bool false)], args := [d1, d2] }
  | _ => none }
def NetsWrongFalsely : Prop := netsRow.holds Try.pinned (OpenSpec.ofChange netsWrong)

/-- 'wharfagelaw22.NetRow': WHATEVER THE INPUT: true; the input reads as it did. -/
def netRowSpec : ChangeSpec := { name := "netRow", fn := fun _ => fun
  | [d] => { results := [.lit (.bool true)], args := [d] }
  | _ => none }
def netRowRow : OpenClaim := { program := "ytkgjnckkfiepaaa", sum := "a2e164ac87ca669ea621d407337f59f3125e809ce3c7b36353d3bcd6a747ad2e", func := "wharfage/wharfagelaw22.NetRow", spec := "netRow", apart := false }
def NetRowSaid : Prop := netRowRow.holds Try.pinned (OpenSpec.ofChange netRowSpec)

/-- ITS FALSE NEIGHBOUR: 'it returns false'. Refute it at one input. -/
def netRowWrong : ChangeSpec := { name := "netRow", fn := fun _ => fun
  | [d] => { results := [.lit (.bool false)], args := [d] }
  | _ => none }
def NetRowWrongFalsely : Prop := netRowRow.holds Try.pinned (OpenSpec.ofChange netRowWrong)

/-- 'wharfagelaw22.NetForms': WHATEVER THE INPUT: true; the input reads as it did. -/
def netFormsSpec : ChangeSpec := { name := "netForms", fn := fun _ => fun
  | [d] => { results := [.lit (.bool true)], args := [d] }
  | _ => none }
def netFormsRow : OpenClaim := { program := "ytkgjnckkfiepaaa", sum := "a2e164ac87ca669ea621d407337f59f3125e809ce3c7b36353d3bcd6a747ad2e", func := "wharfage/wharfagelaw22.NetForms", spec := "netForms", apart := false }
def NetFormsSaid : Prop := netFormsRow.holds Try.pinned (OpenSpec.ofChange netFormsSpec)

/-- ITS FALSE NEIGHBOUR: 'it returns false'. Refute it at one input. -/
def netFormsWrong : ChangeSpec := { name := "netForms", fn := fun _ => fun
  | [d] => { results := [.lit (.bool false)], args := [d] }
  | _ => none }
def NetFormsWrongFalsely : Prop := netFormsRow.holds Try.pinned (OpenSpec.ofChange netFormsWrong)

/-- 'wharfagelaw22.NetAll': WHATEVER THE INPUT: true; the input reads as it did. -/
def netAllSpec : ChangeSpec := { name := "netAll", fn := fun _ => fun
  | [d] => { results := [.lit (.bool true)], args := [d] }
  | _ => none }
def netAllRow : OpenClaim := { program := "ytkgjnckkfiepaaa", sum := "a2e164ac87ca669ea621d407337f59f3125e809ce3c7b36353d3bcd6a747ad2e", func := "wharfage/wharfagelaw22.NetAll", spec := "netAll", apart := false }
def NetAllSaid : Prop := netAllRow.holds Try.pinned (OpenSpec.ofChange netAllSpec)

/-- ITS FALSE NEIGHBOUR: 'it returns false'. Refute it at one input. -/
def netAllWrong : ChangeSpec := { name := "netAll", fn := fun _ => fun
  | [d] => { results := [.lit (.bool false)], args := [d] }
  | _ => none }
def NetAllWrongFalsely : Prop := netAllRow.holds Try.pinned (OpenSpec.ofChange netAllWrong)

/- THE SECOND FORM. 'bulk': how many values and letters a reading holds, each counted each time it is reached (what is shared counts as often as it is met; a slice's spare places count too). A statement '..UptoSaid' is the law's where the arguments, and the package variables that the reading takes, are together of bulk at most 1048576: NARROWER than '..Said'. Prove '..Said' where nothing that the law and all that it calls make is longer than what came in: it says more and counts as full. Else prove '..UptoSaid'. A law counts once. -/
mutual
def uptoBulk {H : Type} : DataW H → Nat
  | .lit (.string bytes) => bytes.length + 1
  | .lit _ => 1
  | .nil => 1
  | .ptr d => uptoBulk d + 1
  | .slice elems spare => uptoBulkAll elems + uptoBulkAll spare + 1
  | .agg parts => uptoBulkAll parts + 1
  | .iface _ d => uptoBulk d + 1
  | .map entries => uptoBulkEntries entries + 1
  | .held _ => 1
def uptoBulkAll {H : Type} : List (DataW H) → Nat
  | [] => 0
  | d :: r => uptoBulk d + uptoBulkAll r
def uptoBulkEntries {H : Type} : List (Lit × DataW H) → Nat
  | [] => 0
  | x :: r => uptoBulkEntry x + uptoBulkEntries r
def uptoBulkEntry {H : Type} : Lit × DataW H → Nat
  | (.string bytes, d) => bytes.length + uptoBulk d + 1
  | (_, d) => uptoBulk d + 1
 end
def uptoSmall : (H : Type) → List (DataW H) → Bool := fun _ ds => decide (uptoBulkAll ds ≤ 1048576)
def OpenSpec.upto (s : _root_.Go.ChangeSpec) : _root_.Go.OpenSpec := { _root_.Go.OpenSpec.ofChange s with cond := some uptoSmall }

/-- 'wharfagelaw22.Nets', WHERE WHAT IT READS IS OF BULK AT MOST 1048576: true; the input reads as it did. -/
def netsUptoRow : OpenClaim := { program := "ytkgjnckkfiepaaa", sum := "a2e164ac87ca669ea621d407337f59f3125e809ce3c7b36353d3bcd6a747ad2e", func := "wharfage/wharfagelaw22.Nets", spec := "nets", apart := false, narrowed := true }
def NetsUptoSaid : Prop := netsUptoRow.holds Try.pinned (OpenSpec.upto netsSpec)

/-- 'wharfagelaw22.NetRow', WHERE WHAT IT READS IS OF BULK AT MOST 1048576: true; the input reads as it did. -/
def netRowUptoRow : OpenClaim := { program := "ytkgjnckkfiepaaa", sum := "a2e164ac87ca669ea621d407337f59f3125e809ce3c7b36353d3bcd6a747ad2e", func := "wharfage/wharfagelaw22.NetRow", spec := "netRow", apart := false, narrowed := true }
def NetRowUptoSaid : Prop := netRowUptoRow.holds Try.pinned (OpenSpec.upto netRowSpec)

/-- 'wharfagelaw22.NetForms', WHERE WHAT IT READS IS OF BULK AT MOST 1048576: true; the input reads as it did. -/
def netFormsUptoRow : OpenClaim := { program := "ytkgjnckkfiepaaa", sum := "a2e164ac87ca669ea621d407337f59f3125e809ce3c7b36353d3bcd6a747ad2e", func := "wharfage/wharfagelaw22.NetForms", spec := "netForms", apart := false, narrowed := true }
def NetFormsUptoSaid : Prop := netFormsUptoRow.holds Try.pinned (OpenSpec.upto netFormsSpec)

/-- 'wharfagelaw22.NetAll', WHERE WHAT IT READS IS OF BULK AT MOST 1048576: true; the input reads as it did. -/
def netAllUptoRow : OpenClaim := { program := "ytkgjnckkfiepaaa", sum := "a2e164ac87ca669ea621d407337f59f3125e809ce3c7b36353d3bcd6a747ad2e", func := "wharfage/wharfagelaw22.NetAll", spec := "netAll", apart := false, narrowed := true }
def NetAllUptoSaid : Prop := netAllUptoRow.holds Try.pinned (OpenSpec.upto netAllSpec)

end Rows
end Go.Proofs.Ytkgjnckkfiepaaa
