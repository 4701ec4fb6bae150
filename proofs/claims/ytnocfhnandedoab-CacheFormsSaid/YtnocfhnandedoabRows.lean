/-
  No cell of these rows narrows 'for every input' (looked for: loops, veiled, ifaces, maps, wideKeys, modest, calm, conditions, laid).
  DERIVED. THE GIVEN ROWS OF THIS SEAT. 12 by the template 'for every input the law returns true; each argument reads behind the call as it read before'; 0 by the template 'total and deterministic' (their statements: YtnocfhnandedoabTotals.lean).
  GIVEN WITH THE SEED: the statements are not yours to turn. If you find one false, say at which input.
  Laid BY PROGRAM, IN A SANDBOX (cutbox-rows.mjs): the forced cells as the released guide's own fill.sh prints them over the translation 6cd8ee053213966b… (all of the seat's roots in one cut). By AI agents, Wed Nov 11 2026. No macro, syntax, notation, axiom, sorry.
-/
import Derived.Test.YtnocfhnandedoabChecked
import GoSem.Claim
import GoSem.ClaimJoined
import GoSem.ClaimMapViews
import Derived.JoinedTies
import Derived.KernelRfl
namespace Go.Proofs.Ytnocfhnandedoab
/- THE CELL 'sum', in the pinned program and in every row, IS THE sha256 OF THE DUMP (.gsa) THAT YtnocfhnandedoabProg.lean LOADS. Nothing in Lean hashes anything: it is a label: what it is worth is what the hold of that sum in a sandbox is worth. -/
noncomputable def Try.pinned : Pinned := { name := "ytnocfhnandedoab", sum := "6cd8ee053213966ba399fa8dce29bf5aa21dba4e5e21291f8365faf90f206171", checked := Try.checked }
namespace Rows
def none {H : Type} : Left H := { results := [], args := [] }

/-- 'wharfagelaw22.NetAll': WHATEVER THE INPUT: true; the input reads as it did. -/
def netAllSpec : ChangeSpec := { name := "netAll", fn := fun _ => fun
  | [d] => { results := [.lit (.bool true)], args := [d] }
  | _ => none }
def netAllRow : OpenClaim := { program := "ytnocfhnandedoab", sum := "6cd8ee053213966ba399fa8dce29bf5aa21dba4e5e21291f8365faf90f206171", func := "wharfage/wharfagelaw22.NetAll", spec := "netAll", apart := false }
def NetAllSaid : Prop := netAllRow.holds Try.pinned (OpenSpec.ofChange netAllSpec)

/-- ITS FALSE NEIGHBOUR: 'it returns false'. Refute it at one input. -/
def netAllWrong : ChangeSpec := { name := "netAll", fn := fun _ => fun
  | [d] => { results := [.lit (.bool false)], args := [d] }
  | _ => none }
def NetAllWrongFalsely : Prop := netAllRow.holds Try.pinned (OpenSpec.ofChange netAllWrong)

/-- 'wharfagelaw16.Caches': WHATEVER THE INPUT: true; the input reads as it did. -/
def cachesSpec : ChangeSpec := { name := "caches", fn := fun _ => fun
  | [d1, d2, d3, d4] => { results := [.lit (.bool true)], args := [d1, d2, d3, d4] }
  | _ => none }
def cachesRow : OpenClaim := { program := "ytnocfhnandedoab", sum := "6cd8ee053213966ba399fa8dce29bf5aa21dba4e5e21291f8365faf90f206171", func := "wharfage/wharfagelaw16.Caches", spec := "caches", unfollowed := true, recurses := true, apart := false }
def CachesSaid : Prop := cachesRow.holds Try.pinned (OpenSpec.ofChange cachesSpec)

/-- ITS FALSE NEIGHBOUR: 'it returns false'. Refute it at one input. -/
def cachesWrong : ChangeSpec := { name := "caches", fn := fun _ => fun
  | [d1, d2, d3, d4] => { results := [.lit (.bool false)], args := [d1, d2, d3, d4] }
  | _ => none }
def CachesWrongFalsely : Prop := cachesRow.holds Try.pinned (OpenSpec.ofChange cachesWrong)

/-- 'wharfagelaw16.CacheRow': WHATEVER THE INPUT: true; the input reads as it did. -/
def cacheRowSpec : ChangeSpec := { name := "cacheRow", fn := fun _ => fun
  | [d] => { results := [.lit (.bool true)], args := [d] }
  | _ => none }
def cacheRowRow : OpenClaim := { program := "ytnocfhnandedoab", sum := "6cd8ee053213966ba399fa8dce29bf5aa21dba4e5e21291f8365faf90f206171", func := "wharfage/wharfagelaw16.CacheRow", spec := "cacheRow", unfollowed := true, recurses := true, apart := false }
def CacheRowSaid : Prop := cacheRowRow.holds Try.pinned (OpenSpec.ofChange cacheRowSpec)

/-- ITS FALSE NEIGHBOUR: 'it returns false'. Refute it at one input. -/
def cacheRowWrong : ChangeSpec := { name := "cacheRow", fn := fun _ => fun
  | [d] => { results := [.lit (.bool false)], args := [d] }
  | _ => none }
def CacheRowWrongFalsely : Prop := cacheRowRow.holds Try.pinned (OpenSpec.ofChange cacheRowWrong)

/-- 'wharfagelaw16.CacheForms': WHATEVER THE INPUT: true; the input reads as it did. -/
def cacheFormsSpec : ChangeSpec := { name := "cacheForms", fn := fun _ => fun
  | [d1, d2] => { results := [.lit (.bool true)], args := [d1, d2] }
  | _ => none }
def cacheFormsRow : OpenClaim := { program := "ytnocfhnandedoab", sum := "6cd8ee053213966ba399fa8dce29bf5aa21dba4e5e21291f8365faf90f206171", func := "wharfage/wharfagelaw16.CacheForms", spec := "cacheForms", unfollowed := true, recurses := true, apart := false }
def CacheFormsSaid : Prop := cacheFormsRow.holds Try.pinned (OpenSpec.ofChange cacheFormsSpec)

/-- ITS FALSE NEIGHBOUR: 'it returns false'. Refute it at one input. -/
def cacheFormsWrong : ChangeSpec := { name := "cacheForms", fn := fun _ => fun
  | [d1, d2] => { results := [.lit (.bool false)], args := [d1, d2] }
  | _ => none }
def CacheFormsWrongFalsely : Prop := cacheFormsRow.holds Try.pinned (OpenSpec.ofChange cacheFormsWrong)

/-- 'wharfagelaw16.CacheSweeps': WHATEVER THE INPUT: true; the input reads as it did. -/
def cacheSweepsSpec : ChangeSpec := { name := "cacheSweeps", fn := fun _ => fun
  | [d1, d2] => { results := [.lit (.bool true)], args := [d1, d2] }
  | _ => none }
def cacheSweepsRow : OpenClaim := { program := "ytnocfhnandedoab", sum := "6cd8ee053213966ba399fa8dce29bf5aa21dba4e5e21291f8365faf90f206171", func := "wharfage/wharfagelaw16.CacheSweeps", spec := "cacheSweeps", unfollowed := true, recurses := true, apart := false }
def CacheSweepsSaid : Prop := cacheSweepsRow.holds Try.pinned (OpenSpec.ofChange cacheSweepsSpec)

/-- ITS FALSE NEIGHBOUR: 'it returns false'. Refute it at one input. -/
def cacheSweepsWrong : ChangeSpec := { name := "cacheSweeps", fn := fun _ => fun
  | [d1, d2] => { results := [.lit (.bool false)], args := [d1, d2] }
  | _ => none }
def CacheSweepsWrongFalsely : Prop := cacheSweepsRow.holds Try.pinned (OpenSpec.ofChange cacheSweepsWrong)

/-- 'wharfagelaw16.CacheDrops': WHATEVER THE INPUT: true; the input reads as it did. -/
def cacheDropsSpec : ChangeSpec := { name := "cacheDrops", fn := fun _ => fun
  | [d1, d2, d3] => { results := [.lit (.bool true)], args := [d1, d2, d3] }
  | _ => none }
def cacheDropsRow : OpenClaim := { program := "ytnocfhnandedoab", sum := "6cd8ee053213966ba399fa8dce29bf5aa21dba4e5e21291f8365faf90f206171", func := "wharfage/wharfagelaw16.CacheDrops", spec := "cacheDrops", unfollowed := true, recurses := true, apart := false }
def CacheDropsSaid : Prop := cacheDropsRow.holds Try.pinned (OpenSpec.ofChange cacheDropsSpec)

/-- ITS FALSE NEIGHBOUR: 'it returns false'. Refute it at one input. -/
def cacheDropsWrong : ChangeSpec := { name := "cacheDrops", fn := fun _ => fun
  | [d1, d2, d3] => { results := [.lit (.bool false)], args := [d1, d2, d3] }
  | _ => none }
def CacheDropsWrongFalsely : Prop := cacheDropsRow.holds Try.pinned (OpenSpec.ofChange cacheDropsWrong)

/-- 'wharfagelaw16.CacheTwice': WHATEVER THE INPUT: true; the input reads as it did. -/
def cacheTwiceSpec : ChangeSpec := { name := "cacheTwice", fn := fun _ => fun
  | [d1, d2, d3] => { results := [.lit (.bool true)], args := [d1, d2, d3] }
  | _ => none }
def cacheTwiceRow : OpenClaim := { program := "ytnocfhnandedoab", sum := "6cd8ee053213966ba399fa8dce29bf5aa21dba4e5e21291f8365faf90f206171", func := "wharfage/wharfagelaw16.CacheTwice", spec := "cacheTwice", unfollowed := true, recurses := true, apart := false }
def CacheTwiceSaid : Prop := cacheTwiceRow.holds Try.pinned (OpenSpec.ofChange cacheTwiceSpec)

/-- ITS FALSE NEIGHBOUR: 'it returns false'. Refute it at one input. -/
def cacheTwiceWrong : ChangeSpec := { name := "cacheTwice", fn := fun _ => fun
  | [d1, d2, d3] => { results := [.lit (.bool false)], args := [d1, d2, d3] }
  | _ => none }
def CacheTwiceWrongFalsely : Prop := cacheTwiceRow.holds Try.pinned (OpenSpec.ofChange cacheTwiceWrong)

/-- 'wharfagelaw12.Views': WHATEVER THE INPUT: true; the input reads as it did. -/
def viewsSpec : ChangeSpec := { name := "views", fn := fun _ => fun
  | [d1, d2, d3, d4] => { results := [.lit (.bool true)], args := [d1, d2, d3, d4] }
  | _ => none }
def viewsRow : OpenClaim := { program := "ytnocfhnandedoab", sum := "6cd8ee053213966ba399fa8dce29bf5aa21dba4e5e21291f8365faf90f206171", func := "wharfage/wharfagelaw12.Views", spec := "views", apart := false }
def ViewsSaid : Prop := viewsRow.holds Try.pinned (OpenSpec.ofChange viewsSpec)

/-- ITS FALSE NEIGHBOUR: 'it returns false'. Refute it at one input. -/
def viewsWrong : ChangeSpec := { name := "views", fn := fun _ => fun
  | [d1, d2, d3, d4] => { results := [.lit (.bool false)], args := [d1, d2, d3, d4] }
  | _ => none }
def ViewsWrongFalsely : Prop := viewsRow.holds Try.pinned (OpenSpec.ofChange viewsWrong)

/-- 'wharfagelaw12.ViewStale': WHATEVER THE INPUT: true; the input reads as it did. -/
def viewStaleSpec : ChangeSpec := { name := "viewStale", fn := fun _ => fun
  | [d1, d2, d3, d4, d5, d6, d7] => { results := [.lit (.bool true)], args := [d1, d2, d3, d4, d5, d6, d7] }
  | _ => none }
def viewStaleRow : OpenClaim := { program := "ytnocfhnandedoab", sum := "6cd8ee053213966ba399fa8dce29bf5aa21dba4e5e21291f8365faf90f206171", func := "wharfage/wharfagelaw12.ViewStale", spec := "viewStale", apart := false }
def ViewStaleSaid : Prop := viewStaleRow.holds Try.pinned (OpenSpec.ofChange viewStaleSpec)

/-- ITS FALSE NEIGHBOUR: 'it returns false'. Refute it at one input. -/
def viewStaleWrong : ChangeSpec := { name := "viewStale", fn := fun _ => fun
  | [d1, d2, d3, d4, d5, d6, d7] => { results := [.lit (.bool false)], args := [d1, d2, d3, d4, d5, d6, d7] }
  | _ => none }
def ViewStaleWrongFalsely : Prop := viewStaleRow.holds Try.pinned (OpenSpec.ofChange viewStaleWrong)

/-- 'wharfagelaw12.ViewForms': WHATEVER THE INPUT: true; the input reads as it did. -/
def viewFormsSpec : ChangeSpec := { name := "viewForms", fn := fun _ => fun
  | [d1, d2] => { results := [.lit (.bool true)], args := [d1, d2] }
  | _ => none }
def viewFormsRow : OpenClaim := { program := "ytnocfhnandedoab", sum := "6cd8ee053213966ba399fa8dce29bf5aa21dba4e5e21291f8365faf90f206171", func := "wharfage/wharfagelaw12.ViewForms", spec := "viewForms", apart := false }
def ViewFormsSaid : Prop := viewFormsRow.holds Try.pinned (OpenSpec.ofChange viewFormsSpec)

/-- ITS FALSE NEIGHBOUR: 'it returns false'. Refute it at one input. -/
def viewFormsWrong : ChangeSpec := { name := "viewForms", fn := fun _ => fun
  | [d1, d2] => { results := [.lit (.bool false)], args := [d1, d2] }
  | _ => none }
def ViewFormsWrongFalsely : Prop := viewFormsRow.holds Try.pinned (OpenSpec.ofChange viewFormsWrong)

/-- 'wharfagelaw12.ViewRow': WHATEVER THE INPUT: true; the input reads as it did. -/
def viewRowSpec : ChangeSpec := { name := "viewRow", fn := fun _ => fun
  | [d] => { results := [.lit (.bool true)], args := [d] }
  | _ => none }
def viewRowRow : OpenClaim := { program := "ytnocfhnandedoab", sum := "6cd8ee053213966ba399fa8dce29bf5aa21dba4e5e21291f8365faf90f206171", func := "wharfage/wharfagelaw12.ViewRow", spec := "viewRow", apart := false }
def ViewRowSaid : Prop := viewRowRow.holds Try.pinned (OpenSpec.ofChange viewRowSpec)

/-- ITS FALSE NEIGHBOUR: 'it returns false'. Refute it at one input. -/
def viewRowWrong : ChangeSpec := { name := "viewRow", fn := fun _ => fun
  | [d] => { results := [.lit (.bool false)], args := [d] }
  | _ => none }
def ViewRowWrongFalsely : Prop := viewRowRow.holds Try.pinned (OpenSpec.ofChange viewRowWrong)

/-- 'wharfagelaw12.ViewRound': WHATEVER THE INPUT: true; the input reads as it did. -/
def viewRoundSpec : ChangeSpec := { name := "viewRound", fn := fun _ => fun
  | [d1, d2] => { results := [.lit (.bool true)], args := [d1, d2] }
  | _ => none }
def viewRoundRow : OpenClaim := { program := "ytnocfhnandedoab", sum := "6cd8ee053213966ba399fa8dce29bf5aa21dba4e5e21291f8365faf90f206171", func := "wharfage/wharfagelaw12.ViewRound", spec := "viewRound", apart := false }
def ViewRoundSaid : Prop := viewRoundRow.holds Try.pinned (OpenSpec.ofChange viewRoundSpec)

/-- ITS FALSE NEIGHBOUR: 'it returns false'. Refute it at one input. -/
def viewRoundWrong : ChangeSpec := { name := "viewRound", fn := fun _ => fun
  | [d1, d2] => { results := [.lit (.bool false)], args := [d1, d2] }
  | _ => none }
def ViewRoundWrongFalsely : Prop := viewRoundRow.holds Try.pinned (OpenSpec.ofChange viewRoundWrong)

/- THE SECOND FORM. 'bulk': how many values and letters a reading holds, each counted each time it is reached (what is shared counts as often as it is met; a slice's spare places count too). A statement '..UptoSaid' is the law's where the arguments, and the package variables that the reading takes, are together of bulk at most 1048576: NARROWER than '..Said'. Prove '..Said' where nothing that the law and all that it calls make is longer than what came in: it says more and counts as full. Else prove '..UptoSaid'. A law counts once. -/
mutual
def uptoBulk {H : Type} : DataW H → Nat
  | .lit (.string bytes) => bytes.length + 1
  | .lit _ => 1
  | .nil => 1
  | .ptr d => uptoBulk d + 1
  | .slice elems spare => uptoBulkAll elems + uptoBulkAll spare + 1
  | .agg parts => uptoBulkAll parts + 1
  | .iface _ d => uptoBulk d + 1
  | .map entries => uptoBulkEntries entries + 1
  | .held _ => 1
def uptoBulkAll {H : Type} : List (DataW H) → Nat
  | [] => 0
  | d :: r => uptoBulk d + uptoBulkAll r
def uptoBulkEntries {H : Type} : List (Lit × DataW H) → Nat
  | [] => 0
  | x :: r => uptoBulkEntry x + uptoBulkEntries r
def uptoBulkEntry {H : Type} : Lit × DataW H → Nat
  | (.string bytes, d) => bytes.length + uptoBulk d + 1
  | (_, d) => uptoBulk d + 1
 end
def uptoSmall : (H : Type) → List (DataW H) → Bool := fun _ ds => decide (uptoBulkAll ds ≤ 1048576)
def OpenSpec.upto (s : _root_.Go.ChangeSpec) : _root_.Go.OpenSpec := { _root_.Go.OpenSpec.ofChange s with cond := some uptoSmall }

/-- 'wharfagelaw22.NetAll', WHERE WHAT IT READS IS OF BULK AT MOST 1048576: true; the input reads as it did. -/
def netAllUptoRow : OpenClaim := { program := "ytnocfhnandedoab", sum := "6cd8ee053213966ba399fa8dce29bf5aa21dba4e5e21291f8365faf90f206171", func := "wharfage/wharfagelaw22.NetAll", spec := "netAll", apart := false, narrowed := true }
def NetAllUptoSaid : Prop := netAllUptoRow.holds Try.pinned (OpenSpec.upto netAllSpec)

/-- 'wharfagelaw16.Caches', WHERE WHAT IT READS IS OF BULK AT MOST 1048576: true; the input reads as it did. -/
def cachesUptoRow : OpenClaim := { program := "ytnocfhnandedoab", sum := "6cd8ee053213966ba399fa8dce29bf5aa21dba4e5e21291f8365faf90f206171", func := "wharfage/wharfagelaw16.Caches", spec := "caches", unfollowed := true, recurses := true, apart := false, narrowed := true }
def CachesUptoSaid : Prop := cachesUptoRow.holds Try.pinned (OpenSpec.upto cachesSpec)

/-- 'wharfagelaw16.CacheRow', WHERE WHAT IT READS IS OF BULK AT MOST 1048576: true; the input reads as it did. -/
def cacheRowUptoRow : OpenClaim := { program := "ytnocfhnandedoab", sum := "6cd8ee053213966ba399fa8dce29bf5aa21dba4e5e21291f8365faf90f206171", func := "wharfage/wharfagelaw16.CacheRow", spec := "cacheRow", unfollowed := true, recurses := true, apart := false, narrowed := true }
def CacheRowUptoSaid : Prop := cacheRowUptoRow.holds Try.pinned (OpenSpec.upto cacheRowSpec)

/-- 'wharfagelaw16.CacheForms', WHERE WHAT IT READS IS OF BULK AT MOST 1048576: true; the input reads as it did. -/
def cacheFormsUptoRow : OpenClaim := { program := "ytnocfhnandedoab", sum := "6cd8ee053213966ba399fa8dce29bf5aa21dba4e5e21291f8365faf90f206171", func := "wharfage/wharfagelaw16.CacheForms", spec := "cacheForms", unfollowed := true, recurses := true, apart := false, narrowed := true }
def CacheFormsUptoSaid : Prop := cacheFormsUptoRow.holds Try.pinned (OpenSpec.upto cacheFormsSpec)

/-- 'wharfagelaw16.CacheSweeps', WHERE WHAT IT READS IS OF BULK AT MOST 1048576: true; the input reads as it did. -/
def cacheSweepsUptoRow : OpenClaim := { program := "ytnocfhnandedoab", sum := "6cd8ee053213966ba399fa8dce29bf5aa21dba4e5e21291f8365faf90f206171", func := "wharfage/wharfagelaw16.CacheSweeps", spec := "cacheSweeps", unfollowed := true, recurses := true, apart := false, narrowed := true }
def CacheSweepsUptoSaid : Prop := cacheSweepsUptoRow.holds Try.pinned (OpenSpec.upto cacheSweepsSpec)

/-- 'wharfagelaw16.CacheDrops', WHERE WHAT IT READS IS OF BULK AT MOST 1048576: true; the input reads as it did. -/
def cacheDropsUptoRow : OpenClaim := { program := "ytnocfhnandedoab", sum := "6cd8ee053213966ba399fa8dce29bf5aa21dba4e5e21291f8365faf90f206171", func := "wharfage/wharfagelaw16.CacheDrops", spec := "cacheDrops", unfollowed := true, recurses := true, apart := false, narrowed := true }
def CacheDropsUptoSaid : Prop := cacheDropsUptoRow.holds Try.pinned (OpenSpec.upto cacheDropsSpec)

/-- 'wharfagelaw16.CacheTwice', WHERE WHAT IT READS IS OF BULK AT MOST 1048576: true; the input reads as it did. -/
def cacheTwiceUptoRow : OpenClaim := { program := "ytnocfhnandedoab", sum := "6cd8ee053213966ba399fa8dce29bf5aa21dba4e5e21291f8365faf90f206171", func := "wharfage/wharfagelaw16.CacheTwice", spec := "cacheTwice", unfollowed := true, recurses := true, apart := false, narrowed := true }
def CacheTwiceUptoSaid : Prop := cacheTwiceUptoRow.holds Try.pinned (OpenSpec.upto cacheTwiceSpec)

/-- 'wharfagelaw12.Views', WHERE WHAT IT READS IS OF BULK AT MOST 1048576: true; the input reads as it did. -/
def viewsUptoRow : OpenClaim := { program := "ytnocfhnandedoab", sum := "6cd8ee053213966ba399fa8dce29bf5aa21dba4e5e21291f8365faf90f206171", func := "wharfage/wharfagelaw12.Views", spec := "views", apart := false, narrowed := true }
def ViewsUptoSaid : Prop := viewsUptoRow.holds Try.pinned (OpenSpec.upto viewsSpec)

/-- 'wharfagelaw12.ViewStale', WHERE WHAT IT READS IS OF BULK AT MOST 1048576: true; the input reads as it did. -/
def viewStaleUptoRow : OpenClaim := { program := "ytnocfhnandedoab", sum := "6cd8ee053213966ba399fa8dce29bf5aa21dba4e5e21291f8365faf90f206171", func := "wharfage/wharfagelaw12.ViewStale", spec := "viewStale", apart := false, narrowed := true }
def ViewStaleUptoSaid : Prop := viewStaleUptoRow.holds Try.pinned (OpenSpec.upto viewStaleSpec)

/-- 'wharfagelaw12.ViewForms', WHERE WHAT IT READS IS OF BULK AT MOST 1048576: true; the input reads as it did. -/
def viewFormsUptoRow : OpenClaim := { program := "ytnocfhnandedoab", sum := "6cd8ee053213966ba399fa8dce29bf5aa21dba4e5e21291f8365faf90f206171", func := "wharfage/wharfagelaw12.ViewForms", spec := "viewForms", apart := false, narrowed := true }
def ViewFormsUptoSaid : Prop := viewFormsUptoRow.holds Try.pinned (OpenSpec.upto viewFormsSpec)

/-- 'wharfagelaw12.ViewRow', WHERE WHAT IT READS IS OF BULK AT MOST 1048576: true; the input reads as it did. -/
def viewRowUptoRow : OpenClaim := { program := "ytnocfhnandedoab", sum := "6cd8ee053213966ba399fa8dce29bf5aa21dba4e5e21291f8365faf90f206171", func := "wharfage/wharfagelaw12.ViewRow", spec := "viewRow", apart := false, narrowed := true }
def ViewRowUptoSaid : Prop := viewRowUptoRow.holds Try.pinned (OpenSpec.upto viewRowSpec)

/-- 'wharfagelaw12.ViewRound', WHERE WHAT IT READS IS OF BULK AT MOST 1048576: true; the input reads as it did. -/
def viewRoundUptoRow : OpenClaim := { program := "ytnocfhnandedoab", sum := "6cd8ee053213966ba399fa8dce29bf5aa21dba4e5e21291f8365faf90f206171", func := "wharfage/wharfagelaw12.ViewRound", spec := "viewRound", apart := false, narrowed := true }
def ViewRoundUptoSaid : Prop := viewRoundUptoRow.holds Try.pinned (OpenSpec.upto viewRoundSpec)

end Rows
end Go.Proofs.Ytnocfhnandedoab
