/-
  No cell of these rows narrows 'for every input' (looked for: loops, veiled, ifaces, maps, wideKeys, modest, calm, conditions, laid).
  DERIVED. THE GIVEN ROWS OF THIS SEAT. 9 by the template 'for every input the law returns true; each argument reads behind the call as it read before'; 0 by the template 'total and deterministic' (their statements: YtcefplpmpmlboabTotals.lean).
  GIVEN WITH THE SEED: the statements are not yours to turn. If you find one false, say at which input.
  Laid BY PROGRAM, IN A SANDBOX (cutbox-rows.mjs): the forced cells as the released guide's own fill.sh prints them over the translation 7f7135f4f5ce40d2… (all of the seat's roots in one cut). By AI agents, Wed Nov 11 2026. No macro, syntax, notation, axiom, sorry.
-/
import Derived.Test.YtcefplpmpmlboabChecked
import GoSem.Claim
import GoSem.ClaimJoined
import GoSem.ClaimMapViews
import Derived.JoinedTies
import Derived.KernelRfl
namespace Go.Proofs.Ytcefplpmpmlboab
/- THE CELL 'sum', in the pinned program and in every row, IS THE sha256 OF THE DUMP (.gsa) THAT YtcefplpmpmlboabProg.lean LOADS. Nothing in Lean hashes anything: it is a label: what it is worth is what the hold of that sum in a sandbox is worth. -/
noncomputable def Try.pinned : Pinned := { name := "ytcefplpmpmlboab", sum := "7f7135f4f5ce40d275e2c04764951cefd6b2890c88264aba6fd66a1c2cb59784", checked := Try.checked }
namespace Rows
def none {H : Type} : Left H := { results := [], args := [] }

/-- 'wharfagelaw10.ConfRises': WHATEVER THE INPUT: true; the input reads as it did. -/
def confRisesSpec : ChangeSpec := { name := "confRises", fn := fun _ => fun
  | [d] => { results := [.lit (.bool true)], args := [d] }
  | _ => none }
def confRisesRow : OpenClaim := { program := "ytcefplpmpmlboab", sum := "7f7135f4f5ce40d275e2c04764951cefd6b2890c88264aba6fd66a1c2cb59784", func := "wharfage/wharfagelaw10.ConfRises", spec := "confRises", apart := false }
def ConfRisesSaid : Prop := confRisesRow.holds Try.pinned (OpenSpec.ofChange confRisesSpec)

/-- ITS FALSE NEIGHBOUR: 'it returns false'. Refute it at one input. -/
def confRisesWrong : ChangeSpec := { name := "confRises", fn := fun _ => fun
  | [d] => { results := [.lit (.bool false)], args := [d] }
  | _ => none }
def ConfRisesWrongFalsely : Prop := confRisesRow.holds Try.pinned (OpenSpec.ofChange confRisesWrong)

/-- 'wharfagelaw10.ConfForms': WHATEVER THE INPUT: true; the input reads as it did. -/
def confFormsSpec : ChangeSpec := { name := "confForms", fn := fun _ => fun
  | [d1, d2] => { results := [.lit (.bool true)], args := [d1, d2] }
  | _ => none }
def confFormsRow : OpenClaim := { program := "ytcefplpmpmlboab", sum := "7f7135f4f5ce40d275e2c04764951cefd6b2890c88264aba6fd66a1c2cb59784", func := "wharfage/wharfagelaw10.ConfForms", spec := "confForms", apart := false }
def ConfFormsSaid : Prop := confFormsRow.holds Try.pinned (OpenSpec.ofChange confFormsSpec)

/-- ITS FALSE NEIGHBOUR: 'it returns false'. Refute it at one input. -/
def confFormsWrong : ChangeSpec := { name := "confForms", fn := fun _ => fun
  | [d1, d2] => { results := [.lit (.bool false)], args := [d1, d2] }
  | _ => none }
def ConfFormsWrongFalsely : Prop := confFormsRow.holds Try.pinned (OpenSpec.ofChange confFormsWrong)

/-- 'wharfagelaw10.ConfHas': WHATEVER THE INPUT: true; the input reads as it did. -/
def confHasSpec : ChangeSpec := { name := "confHas", fn := fun _ => fun
  | [d] => { results := [.lit (.bool true)], args := [d] }
  | _ => none }
def confHasRow : OpenClaim := { program := "ytcefplpmpmlboab", sum := "7f7135f4f5ce40d275e2c04764951cefd6b2890c88264aba6fd66a1c2cb59784", func := "wharfage/wharfagelaw10.ConfHas", spec := "confHas", apart := false }
def ConfHasSaid : Prop := confHasRow.holds Try.pinned (OpenSpec.ofChange confHasSpec)

/-- ITS FALSE NEIGHBOUR: 'it returns false'. Refute it at one input. -/
def confHasWrong : ChangeSpec := { name := "confHas", fn := fun _ => fun
  | [d] => { results := [.lit (.bool false)], args := [d] }
  | _ => none }
def ConfHasWrongFalsely : Prop := confHasRow.holds Try.pinned (OpenSpec.ofChange confHasWrong)

/-- 'wharfagelaw10.ConfTwice': WHATEVER THE INPUT: true; the input reads as it did. -/
def confTwiceSpec : ChangeSpec := { name := "confTwice", fn := fun _ => fun
  | [d1, d2] => { results := [.lit (.bool true)], args := [d1, d2] }
  | _ => none }
def confTwiceRow : OpenClaim := { program := "ytcefplpmpmlboab", sum := "7f7135f4f5ce40d275e2c04764951cefd6b2890c88264aba6fd66a1c2cb59784", func := "wharfage/wharfagelaw10.ConfTwice", spec := "confTwice", apart := false }
def ConfTwiceSaid : Prop := confTwiceRow.holds Try.pinned (OpenSpec.ofChange confTwiceSpec)

/-- ITS FALSE NEIGHBOUR: 'it returns false'. Refute it at one input. -/
def confTwiceWrong : ChangeSpec := { name := "confTwice", fn := fun _ => fun
  | [d1, d2] => { results := [.lit (.bool false)], args := [d1, d2] }
  | _ => none }
def ConfTwiceWrongFalsely : Prop := confTwiceRow.holds Try.pinned (OpenSpec.ofChange confTwiceWrong)

/-- 'wharfagelaw15.Entries': WHATEVER THE INPUT: true; the input reads as it did. -/
def entriesSpec : ChangeSpec := { name := "entries", fn := fun _ => fun
  | [d1, d2, d3] => { results := [.lit (.bool true)], args := [d1, d2, d3] }
  | _ => none }
def entriesRow : OpenClaim := { program := "ytcefplpmpmlboab", sum := "7f7135f4f5ce40d275e2c04764951cefd6b2890c88264aba6fd66a1c2cb59784", func := "wharfage/wharfagelaw15.Entries", spec := "entries", unfollowed := true, recurses := true, apart := false }
def EntriesSaid : Prop := entriesRow.holds Try.pinned (OpenSpec.ofChange entriesSpec)

/-- ITS FALSE NEIGHBOUR: 'it returns false'. Refute it at one input. -/
def entriesWrong : ChangeSpec := { name := "entries", fn := fun _ => fun
  | [d1, d2, d3] => { results := [.lit (.bool false)], args := [d1, d2, d3] }
  | _ => none }
def EntriesWrongFalsely : Prop := entriesRow.holds Try.pinned (OpenSpec.ofChange entriesWrong)

/-- 'wharfagelaw15.EntryUsed': WHATEVER THE INPUT: true; the input reads as it did. -/
def entryUsedSpec : ChangeSpec := { name := "entryUsed", fn := fun _ => fun
  | [d1, d2, d3, d4] => { results := [.lit (.bool true)], args := [d1, d2, d3, d4] }
  | _ => none }
def entryUsedRow : OpenClaim := { program := "ytcefplpmpmlboab", sum := "7f7135f4f5ce40d275e2c04764951cefd6b2890c88264aba6fd66a1c2cb59784", func := "wharfage/wharfagelaw15.EntryUsed", spec := "entryUsed", unfollowed := true, recurses := true, apart := false }
def EntryUsedSaid : Prop := entryUsedRow.holds Try.pinned (OpenSpec.ofChange entryUsedSpec)

/-- ITS FALSE NEIGHBOUR: 'it returns false'. Refute it at one input. -/
def entryUsedWrong : ChangeSpec := { name := "entryUsed", fn := fun _ => fun
  | [d1, d2, d3, d4] => { results := [.lit (.bool false)], args := [d1, d2, d3, d4] }
  | _ => none }
def EntryUsedWrongFalsely : Prop := entryUsedRow.holds Try.pinned (OpenSpec.ofChange entryUsedWrong)

/-- 'wharfagelaw15.EntryForms': WHATEVER THE INPUT: true; the input reads as it did. -/
def entryFormsSpec : ChangeSpec := { name := "entryForms", fn := fun _ => fun
  | [d1, d2] => { results := [.lit (.bool true)], args := [d1, d2] }
  | _ => none }
def entryFormsRow : OpenClaim := { program := "ytcefplpmpmlboab", sum := "7f7135f4f5ce40d275e2c04764951cefd6b2890c88264aba6fd66a1c2cb59784", func := "wharfage/wharfagelaw15.EntryForms", spec := "entryForms", unfollowed := true, recurses := true, apart := false }
def EntryFormsSaid : Prop := entryFormsRow.holds Try.pinned (OpenSpec.ofChange entryFormsSpec)

/-- ITS FALSE NEIGHBOUR: 'it returns false'. Refute it at one input. -/
def entryFormsWrong : ChangeSpec := { name := "entryForms", fn := fun _ => fun
  | [d1, d2] => { results := [.lit (.bool false)], args := [d1, d2] }
  | _ => none }
def EntryFormsWrongFalsely : Prop := entryFormsRow.holds Try.pinned (OpenSpec.ofChange entryFormsWrong)

/-- 'wharfagelaw15.EntryOnce': WHATEVER THE INPUT: true; the input reads as it did. -/
def entryOnceSpec : ChangeSpec := { name := "entryOnce", fn := fun _ => fun
  | [d1, d2, d3] => { results := [.lit (.bool true)], args := [d1, d2, d3] }
  | _ => none }
def entryOnceRow : OpenClaim := { program := "ytcefplpmpmlboab", sum := "7f7135f4f5ce40d275e2c04764951cefd6b2890c88264aba6fd66a1c2cb59784", func := "wharfage/wharfagelaw15.EntryOnce", spec := "entryOnce", unfollowed := true, recurses := true, apart := false }
def EntryOnceSaid : Prop := entryOnceRow.holds Try.pinned (OpenSpec.ofChange entryOnceSpec)

/-- ITS FALSE NEIGHBOUR: 'it returns false'. Refute it at one input. -/
def entryOnceWrong : ChangeSpec := { name := "entryOnce", fn := fun _ => fun
  | [d1, d2, d3] => { results := [.lit (.bool false)], args := [d1, d2, d3] }
  | _ => none }
def EntryOnceWrongFalsely : Prop := entryOnceRow.holds Try.pinned (OpenSpec.ofChange entryOnceWrong)

/-- 'wharfagelaw15.EntryRow': WHATEVER THE INPUT: true; the input reads as it did. -/
def entryRowSpec : ChangeSpec := { name := "entryRow", fn := fun _ => fun
  | [d1, d2] => { results := [.lit (.bool true)], args := [d1, d2] }
  | _ => none }
def entryRowRow : OpenClaim := { program := "ytcefplpmpmlboab", sum := "7f7135f4f5ce40d275e2c04764951cefd6b2890c88264aba6fd66a1c2cb59784", func := "wharfage/wharfagelaw15.EntryRow", spec := "entryRow", unfollowed := true, recurses := true, apart := false }
def EntryRowSaid : Prop := entryRowRow.holds Try.pinned (OpenSpec.ofChange entryRowSpec)

/-- ITS FALSE NEIGHBOUR: 'it returns false'. Refute it at one input. -/
def entryRowWrong : ChangeSpec := { name := "entryRow", fn := fun _ => fun
  | [d1, d2] => { results := [.lit (.bool false)], args := [d1, d2] }
  | _ => none }
def EntryRowWrongFalsely : Prop := entryRowRow.holds Try.pinned (OpenSpec.ofChange entryRowWrong)

/- THE SECOND FORM. 'bulk': how many values and letters a reading holds, each counted each time it is reached (what is shared counts as often as it is met; a slice's spare places count too). A statement '..UptoSaid' is the law's where the arguments, and the package variables that the reading takes, are together of bulk at most 1048576: NARROWER than '..Said'. Prove '..Said' where nothing that the law and all that it calls make is longer than what came in: it says more and counts as full. Else prove '..UptoSaid'. A law counts once. -/
mutual
def uptoBulk {H : Type} : DataW H → Nat
  | .lit (.string bytes) => bytes.length + 1
  | .lit _ => 1
  | .nil => 1
  | .ptr d => uptoBulk d + 1
  | .slice elems spare => uptoBulkAll elems + uptoBulkAll spare + 1
  | .agg parts => uptoBulkAll parts + 1
  | .iface _ d => uptoBulk d + 1
  | .map entries => uptoBulkEntries entries + 1
  | .held _ => 1
def uptoBulkAll {H : Type} : List (DataW H) → Nat
  | [] => 0
  | d :: r => uptoBulk d + uptoBulkAll r
def uptoBulkEntries {H : Type} : List (Lit × DataW H) → Nat
  | [] => 0
  | x :: r => uptoBulkEntry x + uptoBulkEntries r
def uptoBulkEntry {H : Type} : Lit × DataW H → Nat
  | (.string bytes, d) => bytes.length + uptoBulk d + 1
  | (_, d) => uptoBulk d + 1
 end
def uptoSmall : (H : Type) → List (DataW H) → Bool := fun _ ds => decide (uptoBulkAll ds ≤ 1048576)
def OpenSpec.upto (s : _root_.Go.ChangeSpec) : _root_.Go.OpenSpec := { _root_.Go.OpenSpec.ofChange s with cond := some uptoSmall }

/-- 'wharfagelaw10.ConfRises', WHERE WHAT IT READS IS OF BULK AT MOST 1048576: true; the input reads as it did. -/
def confRisesUptoRow : OpenClaim := { program := "ytcefplpmpmlboab", sum := "7f7135f4f5ce40d275e2c04764951cefd6b2890c88264aba6fd66a1c2cb59784", func := "wharfage/wharfagelaw10.ConfRises", spec := "confRises", apart := false, narrowed := true }
def ConfRisesUptoSaid : Prop := confRisesUptoRow.holds Try.pinned (OpenSpec.upto confRisesSpec)

/-- 'wharfagelaw10.ConfForms', WHERE WHAT IT READS IS OF BULK AT MOST 1048576: true; the input reads as it did. -/
def confFormsUptoRow : OpenClaim := { program := "ytcefplpmpmlboab", sum := "7f7135f4f5ce40d275e2c04764951cefd6b2890c88264aba6fd66a1c2cb59784", func := "wharfage/wharfagelaw10.ConfForms", spec := "confForms", apart := false, narrowed := true }
def ConfFormsUptoSaid : Prop := confFormsUptoRow.holds Try.pinned (OpenSpec.upto confFormsSpec)

/-- 'wharfagelaw10.ConfHas', WHERE WHAT IT READS IS OF BULK AT MOST 1048576: true; the input reads as it did. -/
def confHasUptoRow : OpenClaim := { program := "ytcefplpmpmlboab", sum := "7f7135f4f5ce40d275e2c04764951cefd6b2890c88264aba6fd66a1c2cb59784", func := "wharfage/wharfagelaw10.ConfHas", spec := "confHas", apart := false, narrowed := true }
def ConfHasUptoSaid : Prop := confHasUptoRow.holds Try.pinned (OpenSpec.upto confHasSpec)

/-- 'wharfagelaw10.ConfTwice', WHERE WHAT IT READS IS OF BULK AT MOST 1048576: true; the input reads as it did. -/
def confTwiceUptoRow : OpenClaim := { program := "ytcefplpmpmlboab", sum := "7f7135f4f5ce40d275e2c04764951cefd6b2890c88264aba6fd66a1c2cb59784", func := "wharfage/wharfagelaw10.ConfTwice", spec := "confTwice", apart := false, narrowed := true }
def ConfTwiceUptoSaid : Prop := confTwiceUptoRow.holds Try.pinned (OpenSpec.upto confTwiceSpec)

/-- 'wharfagelaw15.Entries', WHERE WHAT IT READS IS OF BULK AT MOST 1048576: true; the input reads as it did. -/
def entriesUptoRow : OpenClaim := { program := "ytcefplpmpmlboab", sum := "7f7135f4f5ce40d275e2c04764951cefd6b2890c88264aba6fd66a1c2cb59784", func := "wharfage/wharfagelaw15.Entries", spec := "entries", unfollowed := true, recurses := true, apart := false, narrowed := true }
def EntriesUptoSaid : Prop := entriesUptoRow.holds Try.pinned (OpenSpec.upto entriesSpec)

/-- 'wharfagelaw15.EntryUsed', WHERE WHAT IT READS IS OF BULK AT MOST 1048576: true; the input reads as it did. -/
def entryUsedUptoRow : OpenClaim := { program := "ytcefplpmpmlboab", sum := "7f7135f4f5ce40d275e2c04764951cefd6b2890c88264aba6fd66a1c2cb59784", func := "wharfage/wharfagelaw15.EntryUsed", spec := "entryUsed", unfollowed := true, recurses := true, apart := false, narrowed := true }
def EntryUsedUptoSaid : Prop := entryUsedUptoRow.holds Try.pinned (OpenSpec.upto entryUsedSpec)

/-- 'wharfagelaw15.EntryForms', WHERE WHAT IT READS IS OF BULK AT MOST 1048576: true; the input reads as it did. -/
def entryFormsUptoRow : OpenClaim := { program := "ytcefplpmpmlboab", sum := "7f7135f4f5ce40d275e2c04764951cefd6b2890c88264aba6fd66a1c2cb59784", func := "wharfage/wharfagelaw15.EntryForms", spec := "entryForms", unfollowed := true, recurses := true, apart := false, narrowed := true }
def EntryFormsUptoSaid : Prop := entryFormsUptoRow.holds Try.pinned (OpenSpec.upto entryFormsSpec)

/-- 'wharfagelaw15.EntryOnce', WHERE WHAT IT READS IS OF BULK AT MOST 1048576: true; the input reads as it did. -/
def entryOnceUptoRow : OpenClaim := { program := "ytcefplpmpmlboab", sum := "7f7135f4f5ce40d275e2c04764951cefd6b2890c88264aba6fd66a1c2cb59784", func := "wharfage/wharfagelaw15.EntryOnce", spec := "entryOnce", unfollowed := true, recurses := true, apart := false, narrowed := true }
def EntryOnceUptoSaid : Prop := entryOnceUptoRow.holds Try.pinned (OpenSpec.upto entryOnceSpec)

/-- 'wharfagelaw15.EntryRow', WHERE WHAT IT READS IS OF BULK AT MOST 1048576: true; the input reads as it did. -/
def entryRowUptoRow : OpenClaim := { program := "ytcefplpmpmlboab", sum := "7f7135f4f5ce40d275e2c04764951cefd6b2890c88264aba6fd66a1c2cb59784", func := "wharfage/wharfagelaw15.EntryRow", spec := "entryRow", unfollowed := true, recurses := true, apart := false, narrowed := true }
def EntryRowUptoSaid : Prop := entryRowUptoRow.holds Try.pinned (OpenSpec.upto entryRowSpec)

end Rows
end Go.Proofs.Ytcefplpmpmlboab
