/-
  No cell of these rows narrows 'for every input' (looked for: loops, veiled, ifaces, maps, wideKeys, modest, calm, conditions, laid).
  DERIVED. THE GIVEN ROWS OF THIS SEAT. 12 by the template 'for every input the law returns true; each argument reads behind the call as it read before'; 0 by the template 'total and deterministic' (their statements: YtcefplpmpmlboaaTotals.lean).
  GIVEN WITH THE SEED: the statements are not yours to turn. If you find one false, say at which input.
  Laid BY PROGRAM, IN A SANDBOX (cutbox-rows.mjs): the forced cells as the released guide's own fill.sh prints them over the translation 7db5b16ad720dfa6… (all of the seat's roots in one cut). By AI agents, Wed Nov 11 2026. No macro, syntax, notation, axiom, sorry.
-/
import Derived.Test.YtcefplpmpmlboaaChecked
import GoSem.Claim
import GoSem.ClaimJoined
import GoSem.ClaimMapViews
import Derived.JoinedTies
import Derived.KernelRfl
namespace Go.Proofs.Ytcefplpmpmlboaa
/- THE CELL 'sum', in the pinned program and in every row, IS THE sha256 OF THE DUMP (.gsa) THAT YtcefplpmpmlboaaProg.lean LOADS. Nothing in Lean hashes anything: it is a label: what it is worth is what the hold of that sum in a sandbox is worth. -/
noncomputable def Try.pinned : Pinned := { name := "ytcefplpmpmlboaa", sum := "7db5b16ad720dfa643edce9e986172db1d9cbf789f3fc72ae64fc3d1fdb04600", checked := Try.checked }
namespace Rows
def none {H : Type} : Left H := { results := [], args := [] }

/-- 'wharfagelaw1.Sums': WHATEVER THE INPUT: true; the input reads as it did. -/
def sumsSpec : ChangeSpec := { name := "sums", fn := fun _ => fun
  | [d1, d2, d3] => { results := [.lit (.bool true)], args := [d1, d2, d3] }
  | _ => none }
def sumsRow : OpenClaim := { program := "ytcefplpmpmlboaa", sum := "7db5b16ad720dfa643edce9e986172db1d9cbf789f3fc72ae64fc3d1fdb04600", func := "wharfage/wharfagelaw1.Sums", spec := "sums", apart := false }
def SumsSaid : Prop := sumsRow.holds Try.pinned (OpenSpec.ofChange sumsSpec)

/-- ITS FALSE NEIGHBOUR: 'it returns false'. Refute it at one input. -/
def sumsWrong : ChangeSpec := { name := "sums", fn := fun _ => fun
  | [d1, d2, d3] => { results := [.lit (.bool false)], args := [d1, d2, d3] }
  | _ => none }
def SumsWrongFalsely : Prop := sumsRow.holds Try.pinned (OpenSpec.ofChange sumsWrong)

/-- 'wharfagelaw1.SumParts': WHATEVER THE INPUT: true; the input reads as it did. -/
def sumPartsSpec : ChangeSpec := { name := "sumParts", fn := fun _ => fun
  | [d1, d2] => { results := [.lit (.bool true)], args := [d1, d2] }
  | _ => none }
def sumPartsRow : OpenClaim := { program := "ytcefplpmpmlboaa", sum := "7db5b16ad720dfa643edce9e986172db1d9cbf789f3fc72ae64fc3d1fdb04600", func := "wharfage/wharfagelaw1.SumParts", spec := "sumParts", apart := false }
def SumPartsSaid : Prop := sumPartsRow.holds Try.pinned (OpenSpec.ofChange sumPartsSpec)

/-- ITS FALSE NEIGHBOUR: 'it returns false'. Refute it at one input. -/
def sumPartsWrong : ChangeSpec := { name := "sumParts", fn := fun _ => fun
  | [d1, d2] => { results := [.lit (.bool false)], args := [d1, d2] }
  | _ => none }
def SumPartsWrongFalsely : Prop := sumPartsRow.holds Try.pinned (OpenSpec.ofChange sumPartsWrong)

/-- 'wharfagelaw1.SumTable': WHATEVER THE INPUT: true; the input reads as it did. -/
def sumTableSpec : ChangeSpec := { name := "sumTable", fn := fun _ => fun
  | [d] => { results := [.lit (.bool true)], args := [d] }
  | _ => none }
def sumTableRow : OpenClaim := { program := "ytcefplpmpmlboaa", sum := "7db5b16ad720dfa643edce9e986172db1d9cbf789f3fc72ae64fc3d1fdb04600", func := "wharfage/wharfagelaw1.SumTable", spec := "sumTable", apart := false }
def SumTableSaid : Prop := sumTableRow.holds Try.pinned (OpenSpec.ofChange sumTableSpec)

/-- ITS FALSE NEIGHBOUR: 'it returns false'. Refute it at one input. -/
def sumTableWrong : ChangeSpec := { name := "sumTable", fn := fun _ => fun
  | [d] => { results := [.lit (.bool false)], args := [d] }
  | _ => none }
def SumTableWrongFalsely : Prop := sumTableRow.holds Try.pinned (OpenSpec.ofChange sumTableWrong)

/-- 'wharfagelaw1.SumAdds': WHATEVER THE INPUT: true; the input reads as it did. -/
def sumAddsSpec : ChangeSpec := { name := "sumAdds", fn := fun _ => fun
  | [d1, d2, d3] => { results := [.lit (.bool true)], args := [d1, d2, d3] }
  | _ => none }
def sumAddsRow : OpenClaim := { program := "ytcefplpmpmlboaa", sum := "7db5b16ad720dfa643edce9e986172db1d9cbf789f3fc72ae64fc3d1fdb04600", func := "wharfage/wharfagelaw1.SumAdds", spec := "sumAdds", apart := false }
def SumAddsSaid : Prop := sumAddsRow.holds Try.pinned (OpenSpec.ofChange sumAddsSpec)

/-- ITS FALSE NEIGHBOUR: 'it returns false'. Refute it at one input. -/
def sumAddsWrong : ChangeSpec := { name := "sumAdds", fn := fun _ => fun
  | [d1, d2, d3] => { results := [.lit (.bool false)], args := [d1, d2, d3] }
  | _ => none }
def SumAddsWrongFalsely : Prop := sumAddsRow.holds Try.pinned (OpenSpec.ofChange sumAddsWrong)

/-- 'wharfagelaw1.SumZero': WHATEVER THE INPUT: true; the input reads as it did. -/
def sumZeroSpec : ChangeSpec := { name := "sumZero", fn := fun _ => fun
  | [d] => { results := [.lit (.bool true)], args := [d] }
  | _ => none }
def sumZeroRow : OpenClaim := { program := "ytcefplpmpmlboaa", sum := "7db5b16ad720dfa643edce9e986172db1d9cbf789f3fc72ae64fc3d1fdb04600", func := "wharfage/wharfagelaw1.SumZero", spec := "sumZero", apart := false }
def SumZeroSaid : Prop := sumZeroRow.holds Try.pinned (OpenSpec.ofChange sumZeroSpec)

/-- ITS FALSE NEIGHBOUR: 'it returns false'. Refute it at one input. -/
def sumZeroWrong : ChangeSpec := { name := "sumZero", fn := fun _ => fun
  | [d] => { results := [.lit (.bool false)], args := [d] }
  | _ => none }
def SumZeroWrongFalsely : Prop := sumZeroRow.holds Try.pinned (OpenSpec.ofChange sumZeroWrong)

/-- 'wharfagelaw1.SumLong': WHATEVER THE INPUT: true; the input reads as it did. -/
def sumLongSpec : ChangeSpec := { name := "sumLong", fn := fun _ => fun
  | [d1, d2] => { results := [.lit (.bool true)], args := [d1, d2] }
  | _ => none }
def sumLongRow : OpenClaim := { program := "ytcefplpmpmlboaa", sum := "7db5b16ad720dfa643edce9e986172db1d9cbf789f3fc72ae64fc3d1fdb04600", func := "wharfage/wharfagelaw1.SumLong", spec := "sumLong", apart := false }
def SumLongSaid : Prop := sumLongRow.holds Try.pinned (OpenSpec.ofChange sumLongSpec)

/-- ITS FALSE NEIGHBOUR: 'it returns false'. Refute it at one input. -/
def sumLongWrong : ChangeSpec := { name := "sumLong", fn := fun _ => fun
  | [d1, d2] => { results := [.lit (.bool false)], args := [d1, d2] }
  | _ => none }
def SumLongWrongFalsely : Prop := sumLongRow.holds Try.pinned (OpenSpec.ofChange sumLongWrong)

/-- 'wharfagelaw14.Tracks': WHATEVER THE INPUT: true; the input reads as it did. -/
def tracksSpec : ChangeSpec := { name := "tracks", fn := fun _ => fun
  | [d1, d2] => { results := [.lit (.bool true)], args := [d1, d2] }
  | _ => none }
def tracksRow : OpenClaim := { program := "ytcefplpmpmlboaa", sum := "7db5b16ad720dfa643edce9e986172db1d9cbf789f3fc72ae64fc3d1fdb04600", func := "wharfage/wharfagelaw14.Tracks", spec := "tracks", unfollowed := true, recurses := true, apart := false }
def TracksSaid : Prop := tracksRow.holds Try.pinned (OpenSpec.ofChange tracksSpec)

/-- ITS FALSE NEIGHBOUR: 'it returns false'. Refute it at one input. -/
def tracksWrong : ChangeSpec := { name := "tracks", fn := fun _ => fun
  | [d1, d2] => { results := [.lit (.bool false)], args := [d1, d2] }
  | _ => none }
def TracksWrongFalsely : Prop := tracksRow.holds Try.pinned (OpenSpec.ofChange tracksWrong)

/-- 'wharfagelaw14.TrackTable': WHATEVER THE INPUT: true; the input reads as it did. -/
def trackTableSpec : ChangeSpec := { name := "trackTable", fn := fun _ => fun
  | [d] => { results := [.lit (.bool true)], args := [d] }
  | _ => none }
def trackTableRow : OpenClaim := { program := "ytcefplpmpmlboaa", sum := "7db5b16ad720dfa643edce9e986172db1d9cbf789f3fc72ae64fc3d1fdb04600", func := "wharfage/wharfagelaw14.TrackTable", spec := "trackTable", unfollowed := true, recurses := true, apart := false }
def TrackTableSaid : Prop := trackTableRow.holds Try.pinned (OpenSpec.ofChange trackTableSpec)

/-- ITS FALSE NEIGHBOUR: 'it returns false'. Refute it at one input. -/
def trackTableWrong : ChangeSpec := { name := "trackTable", fn := fun _ => fun
  | [d] => { results := [.lit (.bool false)], args := [d] }
  | _ => none }
def TrackTableWrongFalsely : Prop := trackTableRow.holds Try.pinned (OpenSpec.ofChange trackTableWrong)

/-- 'wharfagelaw14.TrackRow': WHATEVER THE INPUT: true; the input reads as it did. -/
def trackRowSpec : ChangeSpec := { name := "trackRow", fn := fun _ => fun
  | [d] => { results := [.lit (.bool true)], args := [d] }
  | _ => none }
def trackRowRow : OpenClaim := { program := "ytcefplpmpmlboaa", sum := "7db5b16ad720dfa643edce9e986172db1d9cbf789f3fc72ae64fc3d1fdb04600", func := "wharfage/wharfagelaw14.TrackRow", spec := "trackRow", unfollowed := true, recurses := true, apart := false }
def TrackRowSaid : Prop := trackRowRow.holds Try.pinned (OpenSpec.ofChange trackRowSpec)

/-- ITS FALSE NEIGHBOUR: 'it returns false'. Refute it at one input. -/
def trackRowWrong : ChangeSpec := { name := "trackRow", fn := fun _ => fun
  | [d] => { results := [.lit (.bool false)], args := [d] }
  | _ => none }
def TrackRowWrongFalsely : Prop := trackRowRow.holds Try.pinned (OpenSpec.ofChange trackRowWrong)

/-- 'wharfagelaw14.TrackForms': WHATEVER THE INPUT: true; the input reads as it did. -/
def trackFormsSpec : ChangeSpec := { name := "trackForms", fn := fun _ => fun
  | [d] => { results := [.lit (.bool true)], args := [d] }
  | _ => none }
def trackFormsRow : OpenClaim := { program := "ytcefplpmpmlboaa", sum := "7db5b16ad720dfa643edce9e986172db1d9cbf789f3fc72ae64fc3d1fdb04600", func := "wharfage/wharfagelaw14.TrackForms", spec := "trackForms", unfollowed := true, recurses := true, apart := false }
def TrackFormsSaid : Prop := trackFormsRow.holds Try.pinned (OpenSpec.ofChange trackFormsSpec)

/-- ITS FALSE NEIGHBOUR: 'it returns false'. Refute it at one input. -/
def trackFormsWrong : ChangeSpec := { name := "trackForms", fn := fun _ => fun
  | [d] => { results := [.lit (.bool false)], args := [d] }
  | _ => none }
def TrackFormsWrongFalsely : Prop := trackFormsRow.holds Try.pinned (OpenSpec.ofChange trackFormsWrong)

/-- 'wharfagelaw14.TrackEnds': WHATEVER THE INPUT: true; the input reads as it did. -/
def trackEndsSpec : ChangeSpec := { name := "trackEnds", fn := fun _ => fun
  | [d1, d2] => { results := [.lit (.bool true)], args := [d1, d2] }
  | _ => none }
def trackEndsRow : OpenClaim := { program := "ytcefplpmpmlboaa", sum := "7db5b16ad720dfa643edce9e986172db1d9cbf789f3fc72ae64fc3d1fdb04600", func := "wharfage/wharfagelaw14.TrackEnds", spec := "trackEnds", unfollowed := true, recurses := true, apart := false }
def TrackEndsSaid : Prop := trackEndsRow.holds Try.pinned (OpenSpec.ofChange trackEndsSpec)

/-- ITS FALSE NEIGHBOUR: 'it returns false'. Refute it at one input. -/
def trackEndsWrong : ChangeSpec := { name := "trackEnds", fn := fun _ => fun
  | [d1, d2] => { results := [.lit (.bool false)], args := [d1, d2] }
  | _ => none }
def TrackEndsWrongFalsely : Prop := trackEndsRow.holds Try.pinned (OpenSpec.ofChange trackEndsWrong)

/-- 'wharfagelaw10.Confs': WHATEVER THE INPUT: true; the input reads as it did. -/
def confsSpec : ChangeSpec := { name := "confs", fn := fun _ => fun
  | [d1, d2, d3, d4] => { results := [.lit (.bool true)], args := [d1, d2, d3, d4] }
  | _ => none }
def confsRow : OpenClaim := { program := "ytcefplpmpmlboaa", sum := "7db5b16ad720dfa643edce9e986172db1d9cbf789f3fc72ae64fc3d1fdb04600", func := "wharfage/wharfagelaw10.Confs", spec := "confs", apart := false }
def ConfsSaid : Prop := confsRow.holds Try.pinned (OpenSpec.ofChange confsSpec)

/-- ITS FALSE NEIGHBOUR: 'it returns false'. Refute it at one input. -/
def confsWrong : ChangeSpec := { name := "confs", fn := fun _ => fun
  | [d1, d2, d3, d4] => { results := [.lit (.bool false)], args := [d1, d2, d3, d4] }
  | _ => none }
def ConfsWrongFalsely : Prop := confsRow.holds Try.pinned (OpenSpec.ofChange confsWrong)

/- THE SECOND FORM. 'bulk': how many values and letters a reading holds, each counted each time it is reached (what is shared counts as often as it is met; a slice's spare places count too). A statement '..UptoSaid' is the law's where the arguments, and the package variables that the reading takes, are together of bulk at most 1048576: NARROWER than '..Said'. Prove '..Said' where nothing that the law and all that it calls make is longer than what came in: it says more and counts as full. Else prove '..UptoSaid'. A law counts once. -/
mutual
def uptoBulk {H : Type} : DataW H → Nat
  | .lit (.string bytes) => bytes.length + 1
  | .lit _ => 1
  | .nil => 1
  | .ptr d => uptoBulk d + 1
  | .slice elems spare => uptoBulkAll elems + uptoBulkAll spare + 1
  | .agg parts => uptoBulkAll parts + 1
  | .iface _ d => uptoBulk d + 1
  | .map entries => uptoBulkEntries entries + 1
  | .held _ => 1
def uptoBulkAll {H : Type} : List (DataW H) → Nat
  | [] => 0
  | d :: r => uptoBulk d + uptoBulkAll r
def uptoBulkEntries {H : Type} : List (Lit × DataW H) → Nat
  | [] => 0
  | x :: r => uptoBulkEntry x + uptoBulkEntries r
def uptoBulkEntry {H : Type} : Lit × DataW H → Nat
  | (.string bytes, d) => bytes.length + uptoBulk d + 1
  | (_, d) => uptoBulk d + 1
 end
def uptoSmall : (H : Type) → List (DataW H) → Bool := fun _ ds => decide (uptoBulkAll ds ≤ 1048576)
def OpenSpec.upto (s : _root_.Go.ChangeSpec) : _root_.Go.OpenSpec := { _root_.Go.OpenSpec.ofChange s with cond := some uptoSmall }

/-- 'wharfagelaw1.Sums', WHERE WHAT IT READS IS OF BULK AT MOST 1048576: true; the input reads as it did. -/
def sumsUptoRow : OpenClaim := { program := "ytcefplpmpmlboaa", sum := "7db5b16ad720dfa643edce9e986172db1d9cbf789f3fc72ae64fc3d1fdb04600", func := "wharfage/wharfagelaw1.Sums", spec := "sums", apart := false, narrowed := true }
def SumsUptoSaid : Prop := sumsUptoRow.holds Try.pinned (OpenSpec.upto sumsSpec)

/-- 'wharfagelaw1.SumParts', WHERE WHAT IT READS IS OF BULK AT MOST 1048576: true; the input reads as it did. -/
def sumPartsUptoRow : OpenClaim := { program := "ytcefplpmpmlboaa", sum := "7db5b16ad720dfa643edce9e986172db1d9cbf789f3fc72ae64fc3d1fdb04600", func := "wharfage/wharfagelaw1.SumParts", spec := "sumParts", apart := false, narrowed := true }
def SumPartsUptoSaid : Prop := sumPartsUptoRow.holds Try.pinned (OpenSpec.upto sumPartsSpec)

/-- 'wharfagelaw1.SumTable', WHERE WHAT IT READS IS OF BULK AT MOST 1048576: true; the input reads as it did. -/
def sumTableUptoRow : OpenClaim := { program := "ytcefplpmpmlboaa", sum := "7db5b16ad720dfa643edce9e986172db1d9cbf789f3fc72ae64fc3d1fdb04600", func := "wharfage/wharfagelaw1.SumTable", spec := "sumTable", apart := false, narrowed := true }
def SumTableUptoSaid : Prop := sumTableUptoRow.holds Try.pinned (OpenSpec.upto sumTableSpec)

/-- 'wharfagelaw1.SumAdds', WHERE WHAT IT READS IS OF BULK AT MOST 1048576: true; the input reads as it did. -/
def sumAddsUptoRow : OpenClaim := { program := "ytcefplpmpmlboaa", sum := "7db5b16ad720dfa643edce9e986172db1d9cbf789f3fc72ae64fc3d1fdb04600", func := "wharfage/wharfagelaw1.SumAdds", spec := "sumAdds", apart := false, narrowed := true }
def SumAddsUptoSaid : Prop := sumAddsUptoRow.holds Try.pinned (OpenSpec.upto sumAddsSpec)

/-- 'wharfagelaw1.SumZero', WHERE WHAT IT READS IS OF BULK AT MOST 1048576: true; the input reads as it did. -/
def sumZeroUptoRow : OpenClaim := { program := "ytcefplpmpmlboaa", sum := "7db5b16ad720dfa643edce9e986172db1d9cbf789f3fc72ae64fc3d1fdb04600", func := "wharfage/wharfagelaw1.SumZero", spec := "sumZero", apart := false, narrowed := true }
def SumZeroUptoSaid : Prop := sumZeroUptoRow.holds Try.pinned (OpenSpec.upto sumZeroSpec)

/-- 'wharfagelaw1.SumLong', WHERE WHAT IT READS IS OF BULK AT MOST 1048576: true; the input reads as it did. -/
def sumLongUptoRow : OpenClaim := { program := "ytcefplpmpmlboaa", sum := "7db5b16ad720dfa643edce9e986172db1d9cbf789f3fc72ae64fc3d1fdb04600", func := "wharfage/wharfagelaw1.SumLong", spec := "sumLong", apart := false, narrowed := true }
def SumLongUptoSaid : Prop := sumLongUptoRow.holds Try.pinned (OpenSpec.upto sumLongSpec)

/-- 'wharfagelaw14.Tracks', WHERE WHAT IT READS IS OF BULK AT MOST 1048576: true; the input reads as it did. -/
def tracksUptoRow : OpenClaim := { program := "ytcefplpmpmlboaa", sum := "7db5b16ad720dfa643edce9e986172db1d9cbf789f3fc72ae64fc3d1fdb04600", func := "wharfage/wharfagelaw14.Tracks", spec := "tracks", unfollowed := true, recurses := true, apart := false, narrowed := true }
def TracksUptoSaid : Prop := tracksUptoRow.holds Try.pinned (OpenSpec.upto tracksSpec)

/-- 'wharfagelaw14.TrackTable', WHERE WHAT IT READS IS OF BULK AT MOST 1048576: true; the input reads as it did. -/
def trackTableUptoRow : OpenClaim := { program := "ytcefplpmpmlboaa", sum := "7db5b16ad720dfa643edce9e986172db1d9cbf789f3fc72ae64fc3d1fdb04600", func := "wharfage/wharfagelaw14.TrackTable", spec := "trackTable", unfollowed := true, recurses := true, apart := false, narrowed := true }
def TrackTableUptoSaid : Prop := trackTableUptoRow.holds Try.pinned (OpenSpec.upto trackTableSpec)

/-- 'wharfagelaw14.TrackRow', WHERE WHAT IT READS IS OF BULK AT MOST 1048576: true; the input reads as it did. -/
def trackRowUptoRow : OpenClaim := { program := "ytcefplpmpmlboaa", sum := "7db5b16ad720dfa643edce9e986172db1d9cbf789f3fc72ae64fc3d1fdb04600", func := "wharfage/wharfagelaw14.TrackRow", spec := "trackRow", unfollowed := true, recurses := true, apart := false, narrowed := true }
def TrackRowUptoSaid : Prop := trackRowUptoRow.holds Try.pinned (OpenSpec.upto trackRowSpec)

/-- 'wharfagelaw14.TrackForms', WHERE WHAT IT READS IS OF BULK AT MOST 1048576: true; the input reads as it did. -/
def trackFormsUptoRow : OpenClaim := { program := "ytcefplpmpmlboaa", sum := "7db5b16ad720dfa643edce9e986172db1d9cbf789f3fc72ae64fc3d1fdb04600", func := "wharfage/wharfagelaw14.TrackForms", spec := "trackForms", unfollowed := true, recurses := true, apart := false, narrowed := true }
def TrackFormsUptoSaid : Prop := trackFormsUptoRow.holds Try.pinned (OpenSpec.upto trackFormsSpec)

/-- 'wharfagelaw14.TrackEnds', WHERE WHAT IT READS IS OF BULK AT MOST 1048576: true; the input reads as it did. -/
def trackEndsUptoRow : OpenClaim := { program := "ytcefplpmpmlboaa", sum := "7db5b16ad720dfa643edce9e986172db1d9cbf789f3fc72ae64fc3d1fdb04600", func := "wharfage/wharfagelaw14.TrackEnds", spec := "trackEnds", unfollowed := true, recurses := true, apart := false, narrowed := true }
def TrackEndsUptoSaid : Prop := trackEndsUptoRow.holds Try.pinned (OpenSpec.upto trackEndsSpec)

/-- 'wharfagelaw10.Confs', WHERE WHAT IT READS IS OF BULK AT MOST 1048576: true; the input reads as it did. -/
def confsUptoRow : OpenClaim := { program := "ytcefplpmpmlboaa", sum := "7db5b16ad720dfa643edce9e986172db1d9cbf789f3fc72ae64fc3d1fdb04600", func := "wharfage/wharfagelaw10.Confs", spec := "confs", apart := false, narrowed := true }
def ConfsUptoSaid : Prop := confsUptoRow.holds Try.pinned (OpenSpec.upto confsSpec)

end Rows
end Go.Proofs.Ytcefplpmpmlboaa
