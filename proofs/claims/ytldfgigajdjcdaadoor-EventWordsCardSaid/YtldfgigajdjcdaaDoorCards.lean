/-
  DERIVED. GIVEN WITH THE SEED: THE CARDS: each row of YtldfgigajdjcdaaDoorRows.lean that lists a variable, with what it lists TIED to the program's text (the seventh form; the later family's looks); each row that meets fmt, with fmt's text TOLD by the authors' own Lean function (tested against real Go, not proved from fmt's source: count such statements apart). THE CARD IS WHAT COUNTS. Prove the row's statement (the work); the ties are given (YtldfgigajdjcdaaDoorTie.lean); close each card by the builder's one call (the guide's Derived/Test/ToyasCard.lean, 'card_holds'). Laid BY PROGRAM, IN A SANDBOX (cutbox-door.mjs). By AI agents, Wed Nov 11 2026. No macro, syntax, notation, axiom, sorry.
-/
import Derived.Test.YtldfgigajdjcdaaDoorRows
import GoSem.ClaimSeven
namespace Go.Proofs.YtldfgigajdjcdaaDoor
namespace Rows

/-- THE TIED CARD OF 'wharfagelaw18.Events'. -/
def eventsCard : Claim7 := { stood := { row := eventsRow, standIns := [], harness := (true, "824c3102cf1388c1558112a22fc1b1733d972335ab3dce796ebb20d28a9c6da2"), looks := false }, kinds := [], alts := [], laidByText := true, laidKinds := [.data, .data, .data], laidTests := true, laidLooks := .later }
def EventsCardSaid : Prop := Claim7.holds Tryd.pinned (.plain (OpenSpec.ofChange eventsSpec)) eventsCard

/-- THE TIED CARD OF 'wharfagelaw18.EventForms'. -/
def eventFormsCard : Claim7 := { stood := { row := eventFormsRow, standIns := [], harness := (true, "824c3102cf1388c1558112a22fc1b1733d972335ab3dce796ebb20d28a9c6da2"), looks := false }, kinds := [], alts := [], laidByText := true, laidKinds := [.data, .data, .data], laidTests := true, laidLooks := .later }
def EventFormsCardSaid : Prop := Claim7.holds Tryd.pinned (.plain (OpenSpec.ofChange eventFormsSpec)) eventFormsCard

/-- THE TIED CARD OF 'wharfagelaw18.EventWords'. -/
def eventWordsCard : Claim7 := { stood := { row := eventWordsRow, standIns := [], harness := (true, "824c3102cf1388c1558112a22fc1b1733d972335ab3dce796ebb20d28a9c6da2"), looks := false }, kinds := [], alts := [], laidByText := true, laidKinds := [.data, .data, .data], laidTests := true, laidLooks := .later }
def EventWordsCardSaid : Prop := Claim7.holds Tryd.pinned (.plain (OpenSpec.ofChange eventWordsSpec)) eventWordsCard

/-- THE SECOND FORM's CARD OF 'wharfagelaw18.Events'. -/
def eventsUptoCard : Claim7 := { stood := { row := eventsUptoRow, standIns := [], harness := (true, "824c3102cf1388c1558112a22fc1b1733d972335ab3dce796ebb20d28a9c6da2"), looks := false }, kinds := [], alts := [], laidByText := true, laidKinds := [.data, .data, .data], laidTests := true, laidLooks := .later }
def EventsUptoCardSaid : Prop := Claim7.holds Tryd.pinned (.plain (OpenSpec.upto eventsSpec)) eventsUptoCard

/-- THE SECOND FORM's CARD OF 'wharfagelaw18.EventForms'. -/
def eventFormsUptoCard : Claim7 := { stood := { row := eventFormsUptoRow, standIns := [], harness := (true, "824c3102cf1388c1558112a22fc1b1733d972335ab3dce796ebb20d28a9c6da2"), looks := false }, kinds := [], alts := [], laidByText := true, laidKinds := [.data, .data, .data], laidTests := true, laidLooks := .later }
def EventFormsUptoCardSaid : Prop := Claim7.holds Tryd.pinned (.plain (OpenSpec.upto eventFormsSpec)) eventFormsUptoCard

/-- THE SECOND FORM's CARD OF 'wharfagelaw18.EventWords'. -/
def eventWordsUptoCard : Claim7 := { stood := { row := eventWordsUptoRow, standIns := [], harness := (true, "824c3102cf1388c1558112a22fc1b1733d972335ab3dce796ebb20d28a9c6da2"), looks := false }, kinds := [], alts := [], laidByText := true, laidKinds := [.data, .data, .data], laidTests := true, laidLooks := .later }
def EventWordsUptoCardSaid : Prop := Claim7.holds Tryd.pinned (.plain (OpenSpec.upto eventWordsSpec)) eventWordsUptoCard
end Rows
end Go.Proofs.YtldfgigajdjcdaaDoor
