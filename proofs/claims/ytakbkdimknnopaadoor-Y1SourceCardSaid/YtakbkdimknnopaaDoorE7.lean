/- The rows with seven listed variables: the two sentinels stand first. -/
import Derived.Test.YtakbkdimknnopaaDoorE
import Derived.Deep.DeepWitnessRowRef
namespace Go.Proofs.YtakbkdimknnopaaDoor
open Go.RowKit Go.ChangeShapes Go.WideShapes Go.ChangeAt
def seven {H : Type} : List (String × DataW H) := ("tithe/api.ErrRange", Rows.laid_tithe_api_ErrRange) :: ("tithe/api.ErrZero", Rows.laid_tithe_api_ErrZero) :: five
theorem vars_of_seven {W : World} (h : laidMet Tryd.prog seven W) : Vars W := by
  have h1 := h.tail
  have h2 := h1.tail
  exact vars_of_five h2
noncomputable def low7 : Nat := (World.holding Tryd.prog default ⟨#[], #[], []⟩).heap.size
/-- A world for the witness: the variables and the two sentinels as laid. -/
noncomputable def laidWorld7 (os : Os) : World :=
  { World.holding Tryd.prog os ⟨#[.cells #[.string ⟨#[100, 105, 118, 105, 100, 101, 100, 32, 98, 121, 32, 122, 101, 114, 111]⟩] 117, .cells #[.string ⟨#[97, 32, 110, 117, 109, 98, 101, 114, 32, 98, 101, 121, 111, 110, 100, 32, 116, 104, 101, 32, 114, 97, 110, 103, 101]⟩] 117], #[], []⟩ with
    heap := ((laidHeap (World.holding Tryd.prog os ⟨#[.cells #[.string ⟨#[100, 105, 118, 105, 100, 101, 100, 32, 98, 121, 32, 122, 101, 114, 111]⟩] 117, .cells #[.string ⟨#[97, 32, 110, 117, 109, 98, 101, 114, 32, 98, 101, 121, 111, 110, 100, 32, 116, 104, 101, 32, 114, 97, 110, 103, 101]⟩] 117], #[], []⟩).heap).modify 5 (laidHeap.put #[.iface 98 (.pointer (some ⟨low7, 0, none⟩))])).modify 6 (laidHeap.put #[.iface 98 (.pointer (some ⟨low7 + 1, 0, none⟩))]) }

end Go.Proofs.YtakbkdimknnopaaDoor
