/-
  DERIVED. GIVEN WITH THE SEED: THE CARDS: each row of YtakbkdimknnopaaDoorRows.lean that lists a variable, with what it lists TIED to the program's text (the seventh form; the later family's looks); each row that meets fmt, with fmt's text TOLD by the authors' own Lean function (tested against real Go, not proved from fmt's source: count such statements apart). THE CARD IS WHAT COUNTS. Prove the row's statement (the work); the ties are given (YtakbkdimknnopaaDoorTie.lean); close each card by the builder's one call (the guide's Derived/Test/ToyasCard.lean, 'card_holds'). Laid BY PROGRAM, IN A SANDBOX (cutbox-door.mjs). By AI agents, Wed Nov 11 2026. No macro, syntax, notation, axiom, sorry.
-/
import Derived.Test.YtakbkdimknnopaaDoorRows
import GoSem.ClaimSeven
namespace Go.Proofs.YtakbkdimknnopaaDoor
namespace Rows

/-- THE TIED CARD OF 'tithelaw17.Y1Facts'. -/
def y1FactsCard : Claim7 := { stood := { row := y1FactsRow, standIns := [], harness := (true, "cf7847f0ba22397ae0cc6ba5b2138c0d6aedddd4979f1ed096842368a3c43b32"), looks := false }, kinds := [], alts := [], laidByText := true, laidKinds := [.data, .data, .data, .data, .data], laidTests := true, laidLooks := .later }
def Y1FactsCardSaid : Prop := Claim7.holds Tryd.pinned (.plain (OpenSpec.ofChange y1FactsSpec)) y1FactsCard

/-- THE TIED CARD OF 'tithelaw17.Y1Notes'. -/
def y1NotesCard : Claim7 := { stood := { row := y1NotesRow, standIns := [], harness := (true, "cf7847f0ba22397ae0cc6ba5b2138c0d6aedddd4979f1ed096842368a3c43b32"), looks := false }, kinds := [], alts := [], laidByText := true, laidKinds := [.data, .data, .data, .data, .data], laidTests := true, laidLooks := .later }
def Y1NotesCardSaid : Prop := Claim7.holds Tryd.pinned (.plain (OpenSpec.ofChange y1NotesSpec)) y1NotesCard

/-- THE TIED CARD OF 'tithelaw17.Y1Provs'. -/
def y1ProvsCard : Claim7 := { stood := { row := y1ProvsRow, standIns := [], harness := (true, "cf7847f0ba22397ae0cc6ba5b2138c0d6aedddd4979f1ed096842368a3c43b32"), looks := false }, kinds := [], alts := [], laidByText := true, laidKinds := [.sentinel, .sentinel, .data, .data, .data, .data, .data], laidTests := true, laidLooks := .later }
def Y1ProvsCardSaid : Prop := Claim7.holds Tryd.pinned (.plain (OpenSpec.ofChange y1ProvsSpec)) y1ProvsCard

/-- THE TIED CARD OF 'tithelaw17.Y1Source'. -/
def y1SourceCard : Claim7 := { stood := { row := y1SourceRow, standIns := [], harness := (true, "cf7847f0ba22397ae0cc6ba5b2138c0d6aedddd4979f1ed096842368a3c43b32"), looks := false }, kinds := [], alts := [], laidByText := true, laidKinds := [.sentinel, .sentinel, .data, .data, .data, .data, .data], laidTests := true, laidLooks := .later }
def Y1SourceCardSaid : Prop := Claim7.holds Tryd.pinned (.plain (OpenSpec.ofChange y1SourceSpec)) y1SourceCard

/-- THE SECOND FORM's CARD OF 'tithelaw17.Y1Facts'. -/
def y1FactsUptoCard : Claim7 := { stood := { row := y1FactsUptoRow, standIns := [], harness := (true, "cf7847f0ba22397ae0cc6ba5b2138c0d6aedddd4979f1ed096842368a3c43b32"), looks := false }, kinds := [], alts := [], laidByText := true, laidKinds := [.data, .data, .data, .data, .data], laidTests := true, laidLooks := .later }
def Y1FactsUptoCardSaid : Prop := Claim7.holds Tryd.pinned (.plain (OpenSpec.upto y1FactsSpec)) y1FactsUptoCard

/-- THE SECOND FORM's CARD OF 'tithelaw17.Y1Notes'. -/
def y1NotesUptoCard : Claim7 := { stood := { row := y1NotesUptoRow, standIns := [], harness := (true, "cf7847f0ba22397ae0cc6ba5b2138c0d6aedddd4979f1ed096842368a3c43b32"), looks := false }, kinds := [], alts := [], laidByText := true, laidKinds := [.data, .data, .data, .data, .data], laidTests := true, laidLooks := .later }
def Y1NotesUptoCardSaid : Prop := Claim7.holds Tryd.pinned (.plain (OpenSpec.upto y1NotesSpec)) y1NotesUptoCard

/-- THE SECOND FORM's CARD OF 'tithelaw17.Y1Provs'. -/
def y1ProvsUptoCard : Claim7 := { stood := { row := y1ProvsUptoRow, standIns := [], harness := (true, "cf7847f0ba22397ae0cc6ba5b2138c0d6aedddd4979f1ed096842368a3c43b32"), looks := false }, kinds := [], alts := [], laidByText := true, laidKinds := [.sentinel, .sentinel, .data, .data, .data, .data, .data], laidTests := true, laidLooks := .later }
def Y1ProvsUptoCardSaid : Prop := Claim7.holds Tryd.pinned (.plain (OpenSpec.upto y1ProvsSpec)) y1ProvsUptoCard

/-- THE SECOND FORM's CARD OF 'tithelaw17.Y1Source'. -/
def y1SourceUptoCard : Claim7 := { stood := { row := y1SourceUptoRow, standIns := [], harness := (true, "cf7847f0ba22397ae0cc6ba5b2138c0d6aedddd4979f1ed096842368a3c43b32"), looks := false }, kinds := [], alts := [], laidByText := true, laidKinds := [.sentinel, .sentinel, .data, .data, .data, .data, .data], laidTests := true, laidLooks := .later }
def Y1SourceUptoCardSaid : Prop := Claim7.holds Tryd.pinned (.plain (OpenSpec.upto y1SourceSpec)) y1SourceUptoCard
end Rows
end Go.Proofs.YtakbkdimknnopaaDoor
