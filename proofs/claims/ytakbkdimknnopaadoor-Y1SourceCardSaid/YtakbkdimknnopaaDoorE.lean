/- What the listed variables give the walks; a world that holds them. -/
import Derived.Test.YtakbkdimknnopaaDoorCards
import Derived.Test.YtakbkdimknnopaaDoorTie
import Derived.Test.YtakbkdimknnopaaDoorD
import Derived.OpenShut
import Derived.Deep.DeepHandedRow
import Derived.Lib.LaidTab
import Derived.Stop.LaidErr
namespace Go.Proofs.YtakbkdimknnopaaDoor
open Go.RowKit Go.ChangeShapes Go.WideShapes Go.ChangeAt

theorem own : ownKnob Tryd.prog.godebug = none := by kernel_rfl

theorem g_cpi : Tryd.prog.globalNamed "tithe/y1.cpi" = some 4 := by kernel_rfl
theorem gt_cpi : (Tryd.prog.globals[4]?).map (·.type) = some 72 := by kernel_rfl
theorem g_factor : Tryd.prog.globalNamed "tithe/y1.factor" = some 0 := by kernel_rfl
theorem gt_factor : (Tryd.prog.globals[0]?).map (·.type) = some 65 := by kernel_rfl
theorem g_top : Tryd.prog.globalNamed "tithe/y1.top" = some 2 := by kernel_rfl
theorem gt_top : (Tryd.prog.globals[2]?).map (·.type) = some 77 := by kernel_rfl
theorem g_rate : Tryd.prog.globalNamed "tithe/y1.rate" = some 3 := by kernel_rfl
theorem gt_rate : (Tryd.prog.globals[3]?).map (·.type) = some 82 := by kernel_rfl
theorem g_phase : Tryd.prog.globalNamed "tithe/y1.phase" = some 1 := by kernel_rfl
theorem gt_phase : (Tryd.prog.globals[1]?).map (·.type) = some 72 := by kernel_rfl
theorem cells65 : Tryd.prog.cellsOf 65 = 2 := by kernel_rfl
theorem cells72 : Tryd.prog.cellsOf 72 = 1 := by kernel_rfl
theorem cells77 : Tryd.prog.cellsOf 77 = 6 := by kernel_rfl
theorem cells82 : Tryd.prog.cellsOf 82 = 4 := by kernel_rfl
theorem cells3 : Tryd.prog.cellsOf 3 = 1 := by kernel_rfl
def five {H : Type} : List (String × DataW H) := [("tithe/y1.cpi", Rows.laid_tithe_y1_cpi), ("tithe/y1.factor", Rows.laid_tithe_y1_factor), ("tithe/y1.top", Rows.laid_tithe_y1_top), ("tithe/y1.rate", Rows.laid_tithe_y1_rate), ("tithe/y1.phase", Rows.laid_tithe_y1_phase)]
theorem vars_of_five {W : World} (h : laidMet Tryd.prog five W) : Vars W := by
  have h1 := h.tail
  have h2 := h1.tail
  have h3 := h2.tail
  have h4 := h3.tail
  have t_cpi : Lib.TabIs Tryd.prog W "tithe/y1.cpi" .i64 [1000] := Lib.tabIs_of_head g_cpi gt_cpi Tryd.underlying72 Tryd.underlying3 cells3 cells72 h
  have t_factor : Lib.TabIs Tryd.prog W "tithe/y1.factor" .i64 [1, 1] := Lib.tabIs_of_head g_factor gt_factor Tryd.underlying65 Tryd.underlying3 cells3 cells65 h1
  have t_top : Lib.TabIs Tryd.prog W "tithe/y1.top" .i64 [10000, 40000, 90000, 18000, 70000, 150000] := Lib.tabIs_of_head g_top gt_top Tryd.underlying77 Tryd.underlying3 cells3 cells77 h2
  have t_rate : Lib.TabIs Tryd.prog W "tithe/y1.rate" .i64 [1000, 1500, 2800, 3500] := Lib.tabIs_of_head g_rate gt_rate Tryd.underlying82 Tryd.underlying3 cells3 cells82 h3
  have t_phase : Lib.TabIs Tryd.prog W "tithe/y1.phase" .i64 [60000] := Lib.tabIs_of_head g_phase gt_phase Tryd.underlying72 Tryd.underlying3 cells3 cells72 h4
  exact ⟨t_factor.cell g_factor 0 (by decide), t_factor.cell g_factor 1 (by decide), t_phase.cell g_phase 0 (by decide), t_top.cell g_top 0 (by decide), t_top.cell g_top 1 (by decide), t_top.cell g_top 2 (by decide), t_top.cell g_top 3 (by decide), t_top.cell g_top 4 (by decide), t_top.cell g_top 5 (by decide), t_rate.cell g_rate 0 (by decide), t_rate.cell g_rate 1 (by decide), t_rate.cell g_rate 2 (by decide), t_rate.cell g_rate 3 (by decide), t_cpi.cell g_cpi 0 (by decide)⟩

noncomputable def laidHeap (h : Array Obj) : Array Obj :=
  ((((h.modify 0 (put #[.int .i64 1, .int .i64 1])).modify 1 (put #[.int .i64 60000])).modify 2 (put #[.int .i64 10000, .int .i64 40000, .int .i64 90000, .int .i64 18000, .int .i64 70000, .int .i64 150000])).modify 3 (put #[.int .i64 1000, .int .i64 1500, .int .i64 2800, .int .i64 3500])).modify 4 (put #[.int .i64 1000])
where put (cs : Array Value) : Obj → Obj
  | .cells _ t frozen => .cells cs t frozen
  | o => o
/-- A world for the witness: the settled one, the variables holding what they are laid with. -/
noncomputable def laidWorld (os : Os) : World :=
  { World.holding Tryd.prog os ⟨#[], #[], []⟩ with heap := laidHeap (World.holding Tryd.prog os ⟨#[], #[], []⟩).heap }

end Go.Proofs.YtakbkdimknnopaaDoor
