/-
  DERIVED. GIVEN WITH THE SEED: THE PROGRAM's TIES (one call each: nine closed facts by the kernel) AND EACH ROW's TIE, after the 31st guide's Derived/Test/Toyas{Tie, Card}.lean. No idea stands in it: it is a product of the set-up. Laid BY PROGRAM, IN A SANDBOX (cutbox-door.mjs). By AI agents, Wed Nov 11 2026. No macro, syntax, notation, axiom, sorry.
-/
import Derived.Test.YtakbkdimknnopaaDoorRows
import Derived.LaidByTextLater
import Derived.SevenTiedAt
import Derived.LaidSub
import Derived.LaidOnce
namespace Go.Proofs.YtakbkdimknnopaaDoor
open Go
set_option maxRecDepth 100000
theorem seatTie1 : Tryd.prog.laidByTextLater [("tithe/api.ErrRange", Rows.laid_tithe_api_ErrRange), ("tithe/api.ErrZero", Rows.laid_tithe_api_ErrZero), ("tithe/y1.cpi", Rows.laid_tithe_y1_cpi), ("tithe/y1.factor", Rows.laid_tithe_y1_factor), ("tithe/y1.top", Rows.laid_tithe_y1_top), ("tithe/y1.rate", Rows.laid_tithe_y1_rate), ("tithe/y1.phase", Rows.laid_tithe_y1_phase)] [.sentinel, .sentinel, .data, .data, .data, .data, .data] true :=
  Program.laidByTextLater_by_one 72 8 7 (by kernel_rfl) (by kernel_rfl) (by kernel_rfl) (by kernel_rfl) (by kernel_rfl) (by kernel_rfl) (fun _ _ => by kernel_rfl)
theorem noOwnUnsafe : Tryd.pinned.checked.prog.headLifts.contains "ownunsafe" = false := by kernel_rfl
theorem tie : Tryd.prog.laidByTextLater [("tithe/y1.cpi", Rows.laid_tithe_y1_cpi), ("tithe/y1.factor", Rows.laid_tithe_y1_factor), ("tithe/y1.top", Rows.laid_tithe_y1_top), ("tithe/y1.rate", Rows.laid_tithe_y1_rate), ("tithe/y1.phase", Rows.laid_tithe_y1_phase)] [.data, .data, .data, .data, .data] true :=
  Program.laidByTextLater.sub seatTie1 ["tithe/y1.cpi", "tithe/y1.factor", "tithe/y1.top", "tithe/y1.rate", "tithe/y1.phase"] (by kernel_rfl) (by kernel_rfl)
theorem y1Facts_row_tie : Rows.y1FactsRow.laidByTextAt .later Tryd.pinned [.data, .data, .data, .data, .data] true :=
  OpenClaim.laidByTextAt_later rfl rfl tie noOwnUnsafe
theorem y1Notes_row_tie : Rows.y1NotesRow.laidByTextAt .later Tryd.pinned [.data, .data, .data, .data, .data] true :=
  OpenClaim.laidByTextAt_later rfl rfl tie noOwnUnsafe
theorem tie2 : Tryd.prog.laidByTextLater [("tithe/api.ErrRange", Rows.laid_tithe_api_ErrRange), ("tithe/api.ErrZero", Rows.laid_tithe_api_ErrZero), ("tithe/y1.cpi", Rows.laid_tithe_y1_cpi), ("tithe/y1.factor", Rows.laid_tithe_y1_factor), ("tithe/y1.top", Rows.laid_tithe_y1_top), ("tithe/y1.rate", Rows.laid_tithe_y1_rate), ("tithe/y1.phase", Rows.laid_tithe_y1_phase)] [.sentinel, .sentinel, .data, .data, .data, .data, .data] true :=
  Program.laidByTextLater.sub seatTie1 ["tithe/api.ErrRange", "tithe/api.ErrZero", "tithe/y1.cpi", "tithe/y1.factor", "tithe/y1.top", "tithe/y1.rate", "tithe/y1.phase"] (by kernel_rfl) (by kernel_rfl)
theorem y1Provs_row_tie : Rows.y1ProvsRow.laidByTextAt .later Tryd.pinned [.sentinel, .sentinel, .data, .data, .data, .data, .data] true :=
  OpenClaim.laidByTextAt_later rfl rfl tie2 noOwnUnsafe
theorem y1Source_row_tie : Rows.y1SourceRow.laidByTextAt .later Tryd.pinned [.sentinel, .sentinel, .data, .data, .data, .data, .data] true :=
  OpenClaim.laidByTextAt_later rfl rfl tie2 noOwnUnsafe
theorem y1FactsUpto_row_tie : Rows.y1FactsUptoRow.laidByTextAt .later Tryd.pinned [.data, .data, .data, .data, .data] true :=
  OpenClaim.laidByTextAt_later rfl rfl tie noOwnUnsafe
theorem y1NotesUpto_row_tie : Rows.y1NotesUptoRow.laidByTextAt .later Tryd.pinned [.data, .data, .data, .data, .data] true :=
  OpenClaim.laidByTextAt_later rfl rfl tie noOwnUnsafe
theorem y1ProvsUpto_row_tie : Rows.y1ProvsUptoRow.laidByTextAt .later Tryd.pinned [.sentinel, .sentinel, .data, .data, .data, .data, .data] true :=
  OpenClaim.laidByTextAt_later rfl rfl tie2 noOwnUnsafe
theorem y1SourceUpto_row_tie : Rows.y1SourceUptoRow.laidByTextAt .later Tryd.pinned [.sentinel, .sentinel, .data, .data, .data, .data, .data] true :=
  OpenClaim.laidByTextAt_later rfl rfl tie2 noOwnUnsafe
end Go.Proofs.YtakbkdimknnopaaDoor
