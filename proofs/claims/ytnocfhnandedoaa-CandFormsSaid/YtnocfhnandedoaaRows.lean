/-
  No cell of these rows narrows 'for every input' (looked for: loops, veiled, ifaces, maps, wideKeys, modest, calm, conditions, laid).
  DERIVED. THE GIVEN ROWS OF THIS SEAT. 12 by the template 'for every input the law returns true; each argument reads behind the call as it read before'; 0 by the template 'total and deterministic' (their statements: YtnocfhnandedoaaTotals.lean).
  GIVEN WITH THE SEED: the statements are not yours to turn. If you find one false, say at which input.
  Laid BY PROGRAM, IN A SANDBOX (cutbox-rows.mjs): the forced cells as the released guide's own fill.sh prints them over the translation 8c2bd067d6206fad… (all of the seat's roots in one cut). By AI agents, Wed Nov 11 2026. No macro, syntax, notation, axiom, sorry.
-/
import Derived.Test.YtnocfhnandedoaaChecked
import GoSem.Claim
import GoSem.ClaimJoined
import GoSem.ClaimMapViews
import Derived.JoinedTies
import Derived.KernelRfl
namespace Go.Proofs.Ytnocfhnandedoaa
/- THE CELL 'sum', in the pinned program and in every row, IS THE sha256 OF THE DUMP (.gsa) THAT YtnocfhnandedoaaProg.lean LOADS. Nothing in Lean hashes anything: it is a label: what it is worth is what the hold of that sum in a sandbox is worth. -/
noncomputable def Try.pinned : Pinned := { name := "ytnocfhnandedoaa", sum := "8c2bd067d6206fadb17ef797f8b6b70ba05a832b4ab9e78c01f4905818f1fd8d", checked := Try.checked }
namespace Rows
def none {H : Type} : Left H := { results := [], args := [] }

/-- 'wharfagelaw7.Reports': WHATEVER THE INPUT: true; the input reads as it did. -/
def reportsSpec : ChangeSpec := { name := "reports", fn := fun _ => fun
  | [d1, d2, d3, d4] => { results := [.lit (.bool true)], args := [d1, d2, d3, d4] }
  | _ => none }
def reportsRow : OpenClaim := { program := "ytnocfhnandedoaa", sum := "8c2bd067d6206fadb17ef797f8b6b70ba05a832b4ab9e78c01f4905818f1fd8d", func := "wharfage/wharfagelaw7.Reports", spec := "reports", apart := false }
def ReportsSaid : Prop := reportsRow.holds Try.pinned (OpenSpec.ofChange reportsSpec)

/-- ITS FALSE NEIGHBOUR: 'it returns false'. Refute it at one input. -/
def reportsWrong : ChangeSpec := { name := "reports", fn := fun _ => fun
  | [d1, d2, d3, d4] => { results := [.lit (.bool false)], args := [d1, d2, d3, d4] }
  | _ => none }
def ReportsWrongFalsely : Prop := reportsRow.holds Try.pinned (OpenSpec.ofChange reportsWrong)

/-- 'wharfagelaw7.ReportTurns': WHATEVER THE INPUT: true; the input reads as it did. -/
def reportTurnsSpec : ChangeSpec := { name := "reportTurns", fn := fun _ => fun
  | [d1, d2, d3] => { results := [.lit (.bool true)], args := [d1, d2, d3] }
  | _ => none }
def reportTurnsRow : OpenClaim := { program := "ytnocfhnandedoaa", sum := "8c2bd067d6206fadb17ef797f8b6b70ba05a832b4ab9e78c01f4905818f1fd8d", func := "wharfage/wharfagelaw7.ReportTurns", spec := "reportTurns", apart := false }
def ReportTurnsSaid : Prop := reportTurnsRow.holds Try.pinned (OpenSpec.ofChange reportTurnsSpec)

/-- ITS FALSE NEIGHBOUR: 'it returns false'. Refute it at one input. -/
def reportTurnsWrong : ChangeSpec := { name := "reportTurns", fn := fun _ => fun
  | [d1, d2, d3] => { results := [.lit (.bool false)], args := [d1, d2, d3] }
  | _ => none }
def ReportTurnsWrongFalsely : Prop := reportTurnsRow.holds Try.pinned (OpenSpec.ofChange reportTurnsWrong)

/-- 'wharfagelaw7.ReportForms': WHATEVER THE INPUT: true; the input reads as it did. -/
def reportFormsSpec : ChangeSpec := { name := "reportForms", fn := fun _ => fun
  | [d1, d2] => { results := [.lit (.bool true)], args := [d1, d2] }
  | _ => none }
def reportFormsRow : OpenClaim := { program := "ytnocfhnandedoaa", sum := "8c2bd067d6206fadb17ef797f8b6b70ba05a832b4ab9e78c01f4905818f1fd8d", func := "wharfage/wharfagelaw7.ReportForms", spec := "reportForms", apart := false }
def ReportFormsSaid : Prop := reportFormsRow.holds Try.pinned (OpenSpec.ofChange reportFormsSpec)

/-- ITS FALSE NEIGHBOUR: 'it returns false'. Refute it at one input. -/
def reportFormsWrong : ChangeSpec := { name := "reportForms", fn := fun _ => fun
  | [d1, d2] => { results := [.lit (.bool false)], args := [d1, d2] }
  | _ => none }
def ReportFormsWrongFalsely : Prop := reportFormsRow.holds Try.pinned (OpenSpec.ofChange reportFormsWrong)

/-- 'wharfagelaw7.ReportUnlike': WHATEVER THE INPUT: true; the input reads as it did. -/
def reportUnlikeSpec : ChangeSpec := { name := "reportUnlike", fn := fun _ => fun
  | [d1, d2] => { results := [.lit (.bool true)], args := [d1, d2] }
  | _ => none }
def reportUnlikeRow : OpenClaim := { program := "ytnocfhnandedoaa", sum := "8c2bd067d6206fadb17ef797f8b6b70ba05a832b4ab9e78c01f4905818f1fd8d", func := "wharfage/wharfagelaw7.ReportUnlike", spec := "reportUnlike", apart := false }
def ReportUnlikeSaid : Prop := reportUnlikeRow.holds Try.pinned (OpenSpec.ofChange reportUnlikeSpec)

/-- ITS FALSE NEIGHBOUR: 'it returns false'. Refute it at one input. -/
def reportUnlikeWrong : ChangeSpec := { name := "reportUnlike", fn := fun _ => fun
  | [d1, d2] => { results := [.lit (.bool false)], args := [d1, d2] }
  | _ => none }
def ReportUnlikeWrongFalsely : Prop := reportUnlikeRow.holds Try.pinned (OpenSpec.ofChange reportUnlikeWrong)

/-- 'wharfagelaw13.Cands': WHATEVER THE INPUT: true; the input reads as it did. -/
def candsSpec : ChangeSpec := { name := "cands", fn := fun _ => fun
  | [d1, d2, d3, d4] => { results := [.lit (.bool true)], args := [d1, d2, d3, d4] }
  | _ => none }
def candsRow : OpenClaim := { program := "ytnocfhnandedoaa", sum := "8c2bd067d6206fadb17ef797f8b6b70ba05a832b4ab9e78c01f4905818f1fd8d", func := "wharfage/wharfagelaw13.Cands", spec := "cands", apart := false }
def CandsSaid : Prop := candsRow.holds Try.pinned (OpenSpec.ofChange candsSpec)

/-- ITS FALSE NEIGHBOUR: 'it returns false'. Refute it at one input. -/
def candsWrong : ChangeSpec := { name := "cands", fn := fun _ => fun
  | [d1, d2, d3, d4] => { results := [.lit (.bool false)], args := [d1, d2, d3, d4] }
  | _ => none }
def CandsWrongFalsely : Prop := candsRow.holds Try.pinned (OpenSpec.ofChange candsWrong)

/-- 'wharfagelaw13.CandAll': WHATEVER THE INPUT: true; the input reads as it did. -/
def candAllSpec : ChangeSpec := { name := "candAll", fn := fun _ => fun
  | [d] => { results := [.lit (.bool true)], args := [d] }
  | _ => none }
def candAllRow : OpenClaim := { program := "ytnocfhnandedoaa", sum := "8c2bd067d6206fadb17ef797f8b6b70ba05a832b4ab9e78c01f4905818f1fd8d", func := "wharfage/wharfagelaw13.CandAll", spec := "candAll", apart := false }
def CandAllSaid : Prop := candAllRow.holds Try.pinned (OpenSpec.ofChange candAllSpec)

/-- ITS FALSE NEIGHBOUR: 'it returns false'. Refute it at one input. -/
def candAllWrong : ChangeSpec := { name := "candAll", fn := fun _ => fun
  | [d] => { results := [.lit (.bool false)], args := [d] }
  | _ => none }
def CandAllWrongFalsely : Prop := candAllRow.holds Try.pinned (OpenSpec.ofChange candAllWrong)

/-- 'wharfagelaw13.CandForms': WHATEVER THE INPUT: true; the input reads as it did. -/
def candFormsSpec : ChangeSpec := { name := "candForms", fn := fun _ => fun
  | [d1, d2] => { results := [.lit (.bool true)], args := [d1, d2] }
  | _ => none }
def candFormsRow : OpenClaim := { program := "ytnocfhnandedoaa", sum := "8c2bd067d6206fadb17ef797f8b6b70ba05a832b4ab9e78c01f4905818f1fd8d", func := "wharfage/wharfagelaw13.CandForms", spec := "candForms", apart := false }
def CandFormsSaid : Prop := candFormsRow.holds Try.pinned (OpenSpec.ofChange candFormsSpec)

/-- ITS FALSE NEIGHBOUR: 'it returns false'. Refute it at one input. -/
def candFormsWrong : ChangeSpec := { name := "candForms", fn := fun _ => fun
  | [d1, d2] => { results := [.lit (.bool false)], args := [d1, d2] }
  | _ => none }
def CandFormsWrongFalsely : Prop := candFormsRow.holds Try.pinned (OpenSpec.ofChange candFormsWrong)

/-- 'wharfagelaw13.CandMay': WHATEVER THE INPUT: true; the input reads as it did. -/
def candMaySpec : ChangeSpec := { name := "candMay", fn := fun _ => fun
  | [d1, d2, d3, d4] => { results := [.lit (.bool true)], args := [d1, d2, d3, d4] }
  | _ => none }
def candMayRow : OpenClaim := { program := "ytnocfhnandedoaa", sum := "8c2bd067d6206fadb17ef797f8b6b70ba05a832b4ab9e78c01f4905818f1fd8d", func := "wharfage/wharfagelaw13.CandMay", spec := "candMay", apart := false }
def CandMaySaid : Prop := candMayRow.holds Try.pinned (OpenSpec.ofChange candMaySpec)

/-- ITS FALSE NEIGHBOUR: 'it returns false'. Refute it at one input. -/
def candMayWrong : ChangeSpec := { name := "candMay", fn := fun _ => fun
  | [d1, d2, d3, d4] => { results := [.lit (.bool false)], args := [d1, d2, d3, d4] }
  | _ => none }
def CandMayWrongFalsely : Prop := candMayRow.holds Try.pinned (OpenSpec.ofChange candMayWrong)

/-- 'wharfagelaw13.CandDown': WHATEVER THE INPUT: true; the input reads as it did. -/
def candDownSpec : ChangeSpec := { name := "candDown", fn := fun _ => fun
  | [d1, d2, d3, d4] => { results := [.lit (.bool true)], args := [d1, d2, d3, d4] }
  | _ => none }
def candDownRow : OpenClaim := { program := "ytnocfhnandedoaa", sum := "8c2bd067d6206fadb17ef797f8b6b70ba05a832b4ab9e78c01f4905818f1fd8d", func := "wharfage/wharfagelaw13.CandDown", spec := "candDown", apart := false }
def CandDownSaid : Prop := candDownRow.holds Try.pinned (OpenSpec.ofChange candDownSpec)

/-- ITS FALSE NEIGHBOUR: 'it returns false'. Refute it at one input. -/
def candDownWrong : ChangeSpec := { name := "candDown", fn := fun _ => fun
  | [d1, d2, d3, d4] => { results := [.lit (.bool false)], args := [d1, d2, d3, d4] }
  | _ => none }
def CandDownWrongFalsely : Prop := candDownRow.holds Try.pinned (OpenSpec.ofChange candDownWrong)

/-- 'wharfagelaw22.Nets': WHATEVER THE INPUT: true; the input reads as it did. -/
def netsSpec : ChangeSpec := { name := "nets", fn := fun _ => fun
  | [d1, d2] => { results := [.lit (.bool true)], args := [d1, d2] }
  | _ => none }
def netsRow : OpenClaim := { program := "ytnocfhnandedoaa", sum := "8c2bd067d6206fadb17ef797f8b6b70ba05a832b4ab9e78c01f4905818f1fd8d", func := "wharfage/wharfagelaw22.Nets", spec := "nets", apart := false }
def NetsSaid : Prop := netsRow.holds Try.pinned (OpenSpec.ofChange netsSpec)

/-- ITS FALSE NEIGHBOUR: 'it returns false'. Refute it at one input. -/
def netsWrong : ChangeSpec := { name := "nets", fn := fun _ => fun
  | [d1, d2] => { results := [.lit (.bool false)], args := [d1, d2] }
  | _ => none }
def NetsWrongFalsely : Prop := netsRow.holds Try.pinned (OpenSpec.ofChange netsWrong)

/-- 'wharfagelaw22.NetRow': WHATEVER THE INPUT: true; the input reads as it did. -/
def netRowSpec : ChangeSpec := { name := "netRow", fn := fun _ => fun
  | [d] => { results := [.lit (.bool true)], args := [d] }
  | _ => none }
def netRowRow : OpenClaim := { program := "ytnocfhnandedoaa", sum := "8c2bd067d6206fadb17ef797f8b6b70ba05a832b4ab9e78c01f4905818f1fd8d", func := "wharfage/wharfagelaw22.NetRow", spec := "netRow", apart := false }
def NetRowSaid : Prop := netRowRow.holds Try.pinned (OpenSpec.ofChange netRowSpec)

/-- ITS FALSE NEIGHBOUR: 'it returns false'. Refute it at one input. -/
def netRowWrong : ChangeSpec := { name := "netRow", fn := fun _ => fun
  | [d] => { results := [.lit (.bool false)], args := [d] }
  | _ => none }
def NetRowWrongFalsely : Prop := netRowRow.holds Try.pinned (OpenSpec.ofChange netRowWrong)

/-- 'wharfagelaw22.NetForms': WHATEVER THE INPUT: true; the input reads as it did. -/
def netFormsSpec : ChangeSpec := { name := "netForms", fn := fun _ => fun
  | [d] => { results := [.lit (.bool true)], args := [d] }
  | _ => none }
def netFormsRow : OpenClaim := { program := "ytnocfhnandedoaa", sum := "8c2bd067d6206fadb17ef797f8b6b70ba05a832b4ab9e78c01f4905818f1fd8d", func := "wharfage/wharfagelaw22.NetForms", spec := "netForms", apart := false }
def NetFormsSaid : Prop := netFormsRow.holds Try.pinned (OpenSpec.ofChange netFormsSpec)

/-- ITS FALSE NEIGHBOUR: 'it returns false'. Refute it at one input. -/
def netFormsWrong : ChangeSpec := { name := "netForms", fn := fun _ => fun
  | [d] => { results := [.lit (.bool false)], args := [d] }
  | _ => none }
def NetFormsWrongFalsely : Prop := netFormsRow.holds Try.pinned (OpenSpec.ofChange netFormsWrong)

/- THE SECOND FORM. 'bulk': how many values and letters a reading holds, each counted each time it is reached (what is shared counts as often as it is met; a slice's spare places count too). A statement '..UptoSaid' is the law's where the arguments, and the package variables that the reading takes, are together of bulk at most 1048576: NARROWER than '..Said'. Prove '..Said' where nothing that the law and all that it calls make is longer than what came in: it says more and counts as full. Else prove '..UptoSaid'. A law counts once. -/
mutual
def uptoBulk {H : Type} : DataW H → Nat
  | .lit (.string bytes) => bytes.length + 1
  | .lit _ => 1
  | .nil => 1
  | .ptr d => uptoBulk d + 1
  | .slice elems spare => uptoBulkAll elems + uptoBulkAll spare + 1
  | .agg parts => uptoBulkAll parts + 1
  | .iface _ d => uptoBulk d + 1
  | .map entries => uptoBulkEntries entries + 1
  | .held _ => 1
def uptoBulkAll {H : Type} : List (DataW H) → Nat
  | [] => 0
  | d :: r => uptoBulk d + uptoBulkAll r
def uptoBulkEntries {H : Type} : List (Lit × DataW H) → Nat
  | [] => 0
  | x :: r => uptoBulkEntry x + uptoBulkEntries r
def uptoBulkEntry {H : Type} : Lit × DataW H → Nat
  | (.string bytes, d) => bytes.length + uptoBulk d + 1
  | (_, d) => uptoBulk d + 1
 end
def uptoSmall : (H : Type) → List (DataW H) → Bool := fun _ ds => decide (uptoBulkAll ds ≤ 1048576)
def OpenSpec.upto (s : _root_.Go.ChangeSpec) : _root_.Go.OpenSpec := { _root_.Go.OpenSpec.ofChange s with cond := some uptoSmall }

/-- 'wharfagelaw7.Reports', WHERE WHAT IT READS IS OF BULK AT MOST 1048576: true; the input reads as it did. -/
def reportsUptoRow : OpenClaim := { program := "ytnocfhnandedoaa", sum := "8c2bd067d6206fadb17ef797f8b6b70ba05a832b4ab9e78c01f4905818f1fd8d", func := "wharfage/wharfagelaw7.Reports", spec := "reports", apart := false, narrowed := true }
def ReportsUptoSaid : Prop := reportsUptoRow.holds Try.pinned (OpenSpec.upto reportsSpec)

/-- 'wharfagelaw7.ReportTurns', WHERE WHAT IT READS IS OF BULK AT MOST 1048576: true; the input reads as it did. -/
def reportTurnsUptoRow : OpenClaim := { program := "ytnocfhnandedoaa", sum := "8c2bd067d6206fadb17ef797f8b6b70ba05a832b4ab9e78c01f4905818f1fd8d", func := "wharfage/wharfagelaw7.ReportTurns", spec := "reportTurns", apart := false, narrowed := true }
def ReportTurnsUptoSaid : Prop := reportTurnsUptoRow.holds Try.pinned (OpenSpec.upto reportTurnsSpec)

/-- 'wharfagelaw7.ReportForms', WHERE WHAT IT READS IS OF BULK AT MOST 1048576: true; the input reads as it did. -/
def reportFormsUptoRow : OpenClaim := { program := "ytnocfhnandedoaa", sum := "8c2bd067d6206fadb17ef797f8b6b70ba05a832b4ab9e78c01f4905818f1fd8d", func := "wharfage/wharfagelaw7.ReportForms", spec := "reportForms", apart := false, narrowed := true }
def ReportFormsUptoSaid : Prop := reportFormsUptoRow.holds Try.pinned (OpenSpec.upto reportFormsSpec)

/-- 'wharfagelaw7.ReportUnlike', WHERE WHAT IT READS IS OF BULK AT MOST 1048576: true; the input reads as it did. -/
def reportUnlikeUptoRow : OpenClaim := { program := "ytnocfhnandedoaa", sum := "8c2bd067d6206fadb17ef797f8b6b70ba05a832b4ab9e78c01f4905818f1fd8d", func := "wharfage/wharfagelaw7.ReportUnlike", spec := "reportUnlike", apart := false, narrowed := true }
def ReportUnlikeUptoSaid : Prop := reportUnlikeUptoRow.holds Try.pinned (OpenSpec.upto reportUnlikeSpec)

/-- 'wharfagelaw13.Cands', WHERE WHAT IT READS IS OF BULK AT MOST 1048576: true; the input reads as it did. -/
def candsUptoRow : OpenClaim := { program := "ytnocfhnandedoaa", sum := "8c2bd067d6206fadb17ef797f8b6b70ba05a832b4ab9e78c01f4905818f1fd8d", func := "wharfage/wharfagelaw13.Cands", spec := "cands", apart := false, narrowed := true }
def CandsUptoSaid : Prop := candsUptoRow.holds Try.pinned (OpenSpec.upto candsSpec)

/-- 'wharfagelaw13.CandAll', WHERE WHAT IT READS IS OF BULK AT MOST 1048576: true; the input reads as it did. -/
def candAllUptoRow : OpenClaim := { program := "ytnocfhnandedoaa", sum := "8c2bd067d6206fadb17ef797f8b6b70ba05a832b4ab9e78c01f4905818f1fd8d", func := "wharfage/wharfagelaw13.CandAll", spec := "candAll", apart := false, narrowed := true }
def CandAllUptoSaid : Prop := candAllUptoRow.holds Try.pinned (OpenSpec.upto candAllSpec)

/-- 'wharfagelaw13.CandForms', WHERE WHAT IT READS IS OF BULK AT MOST 1048576: true; the input reads as it did. -/
def candFormsUptoRow : OpenClaim := { program := "ytnocfhnandedoaa", sum := "8c2bd067d6206fadb17ef797f8b6b70ba05a832b4ab9e78c01f4905818f1fd8d", func := "wharfage/wharfagelaw13.CandForms", spec := "candForms", apart := false, narrowed := true }
def CandFormsUptoSaid : Prop := candFormsUptoRow.holds Try.pinned (OpenSpec.upto candFormsSpec)

/-- 'wharfagelaw13.CandMay', WHERE WHAT IT READS IS OF BULK AT MOST 1048576: true; the input reads as it did. -/
def candMayUptoRow : OpenClaim := { program := "ytnocfhnandedoaa", sum := "8c2bd067d6206fadb17ef797f8b6b70ba05a832b4ab9e78c01f4905818f1fd8d", func := "wharfage/wharfagelaw13.CandMay", spec := "candMay", apart := false, narrowed := true }
def CandMayUptoSaid : Prop := candMayUptoRow.holds Try.pinned (OpenSpec.upto candMaySpec)

/-- 'wharfagelaw13.CandDown', WHERE WHAT IT READS IS OF BULK AT MOST 1048576: true; the input reads as it did. -/
def candDownUptoRow : OpenClaim := { program := "ytnocfhnandedoaa", sum := "8c2bd067d6206fadb17ef797f8b6b70ba05a832b4ab9e78c01f4905818f1fd8d", func := "wharfage/wharfagelaw13.CandDown", spec := "candDown", apart := false, narrowed := true }
def CandDownUptoSaid : Prop := candDownUptoRow.holds Try.pinned (OpenSpec.upto candDownSpec)

/-- 'wharfagelaw22.Nets', WHERE WHAT IT READS IS OF BULK AT MOST 1048576: true; the input reads as it did. -/
def netsUptoRow : OpenClaim := { program := "ytnocfhnandedoaa", sum := "8c2bd067d6206fadb17ef797f8b6b70ba05a832b4ab9e78c01f4905818f1fd8d", func := "wharfage/wharfagelaw22.Nets", spec := "nets", apart := false, narrowed := true }
def NetsUptoSaid : Prop := netsUptoRow.holds Try.pinned (OpenSpec.upto netsSpec)

/-- 'wharfagelaw22.NetRow', WHERE WHAT IT READS IS OF BULK AT MOST 1048576: true; the input reads as it did. -/
def netRowUptoRow : OpenClaim := { program := "ytnocfhnandedoaa", sum := "8c2bd067d6206fadb17ef797f8b6b70ba05a832b4ab9e78c01f4905818f1fd8d", func := "wharfage/wharfagelaw22.NetRow", spec := "netRow", apart := false, narrowed := true }
def NetRowUptoSaid : Prop := netRowUptoRow.holds Try.pinned (OpenSpec.upto netRowSpec)

/-- 'wharfagelaw22.NetForms', WHERE WHAT IT READS IS OF BULK AT MOST 1048576: true; the input reads as it did. -/
def netFormsUptoRow : OpenClaim := { program := "ytnocfhnandedoaa", sum := "8c2bd067d6206fadb17ef797f8b6b70ba05a832b4ab9e78c01f4905818f1fd8d", func := "wharfage/wharfagelaw22.NetForms", spec := "netForms", apart := false, narrowed := true }
def NetFormsUptoSaid : Prop := netFormsUptoRow.holds Try.pinned (OpenSpec.upto netFormsSpec)

end Rows
end Go.Proofs.Ytnocfhnandedoaa
