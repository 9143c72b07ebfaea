/- titheref17.scale. -/
import Derived.Test.YtakbkdimknnopaaDoorS6
namespace Go.Proofs.YtakbkdimknnopaaDoor
open Go.RowKit

set_option maxRecDepth 100000 in
set_option maxHeartbeats 2000000 in
theorem scale41_false (id key : ByteArray) (w : World) : Calls Tryd.prog 41 #[.string id, .string key, .bool false] w fun e w' => ∃ v, e = .returned (.agg #[.string id, .string key, .int .i64 730485, .int .i64 730850, .int .i64 730454, .int .i64 0, .string ⟨#[]⟩, .int .i64 2, .int .i64 0, .int .i64 0, v, .string ⟨#[]⟩, .int .i64 0, .int .i64 0, .int .i64 0]) ∧ w'.ownsRow w.heap.size 49 4 v 4 (brks false) ∧ Below w.heap.size w w' := by
  go_enter Tryd.func41, Tryd.ntmps41
  go_wp2_with fail
  refine (rscale_false _).mono ?_
  rintro e w1 ⟨v, rfl, ho, hb⟩
  have hex : ∃ g cap, v = .slice (some ⟨g, 0, none⟩) 4 cap ∧ w.heap.size < g ∧ g < w1.heap.size := by
    rcases ho.2 with ⟨_, h⟩ | ⟨g, cap, _, h, h2, h3, _⟩
    · cases h
    · exact ⟨g, cap, h, by simp at h2; omega, (Array.getElem?_eq_some_iff.1 h3).1⟩
  obtain ⟨g, cap, hvv, hg, hg2⟩ := hex
  rw [hvv] at ho ⊢
  have h0 : w1.heap[w.heap.size]? = some (.cells #[.string ⟨#[]⟩, .string ⟨#[]⟩, .int .i64 0, .int .i64 0, .int .i64 0, .int .i64 0, .string ⟨#[]⟩, .int .i64 0, .int .i64 0, .int .i64 0, .slice none 0 0, .string ⟨#[]⟩, .int .i64 0, .int .i64 0, .int .i64 0] 55 (0, 0)) := (hb.block _ (by simp)).trans (heap_new _ _)
  have hl : w.heap.size < w1.heap.size := by have := hb.size; simp at this; omega
  have hcA0 : ∀ j, w1.cell? ⟨w.heap.size, j, none⟩ = (#[.string ⟨#[]⟩, .string ⟨#[]⟩, .int .i64 0, .int .i64 0, .int .i64 0, .int .i64 0, .string ⟨#[]⟩, .int .i64 0, .int .i64 0, .int .i64 0, .slice none 0 0, .string ⟨#[]⟩, .int .i64 0, .int .i64 0, .int .i64 0] : Array Value)[j]? := fun j => cell_of _ _ _ 55 h0 j
  have hf0 : ∀ j, w1.frozen? ⟨w.heap.size, j, none⟩ = false := fun j => frozen_of_row _ _ _ _ 55 h0
  have HH : Hid (w1.heap[w.heap.size]? = some (.cells #[.string ⟨#[]⟩, .string ⟨#[]⟩, .int .i64 0, .int .i64 0, .int .i64 0, .int .i64 0, .string ⟨#[]⟩, .int .i64 0, .int .i64 0, .int .i64 0, .slice none 0 0, .string ⟨#[]⟩, .int .i64 0, .int .i64 0, .int .i64 0] 55 (0, 0))) := h0
  have HB : Hid (Below w.heap.size w w1) := ((Below.refl _ _).alloc (Nat.le_refl _) _).trans (hb.mono (by simp))
  have HO : Hid (w1.ownsRow (w.heap.size + 1) 49 4 (.slice (some ⟨g, 0, none⟩) 4 cap) 4 (brks false)) := own_mono ho (by simp)
  clear h0 hb ho hvv
  go_wp2
  have hk0 := (heap_setCell_same _ w.heap.size 14 _ _ (.int .i64 0) (heap_setCell_same _ w.heap.size 13 _ _ (.int .i64 0) (heap_setCell_same _ w.heap.size 12 _ _ (.int .i64 0) (heap_setCell_same _ w.heap.size 11 _ _ (.string ⟨#[]⟩) (heap_setCell_same _ w.heap.size 10 _ _ (.slice (some ⟨g, 0, none⟩) 4 cap) (heap_setCell_same _ w.heap.size 9 _ _ (.int .i64 0) (heap_setCell_same _ w.heap.size 8 _ _ (.int .i64 0) (heap_setCell_same _ w.heap.size 7 _ _ (.int .i64 2) (heap_setCell_same _ w.heap.size 6 _ _ (.string ⟨#[]⟩) (heap_setCell_same _ w.heap.size 5 _ _ (.int .i64 0) (heap_setCell_same _ w.heap.size 4 _ _ (.int .i64 730454) (heap_setCell_same _ w.heap.size 3 _ _ (.int .i64 730850) (heap_setCell_same _ w.heap.size 2 _ _ (.int .i64 730485) (heap_setCell_same _ w.heap.size 1 _ _ (.string key) (heap_setCell_same _ w.heap.size 0 _ _ (.string id) HH.out)))))))))))))))
  simp only [List.setIfInBounds_toArray, List.set_cons_zero, List.set_cons_succ] at hk0
  have hk := fun o => (Below.heap_alloc _ o _ (by simp; omega)).trans hk0
  refine bodyPost_ret (v := .agg #[.string id, .string key, .int .i64 730485, .int .i64 730850, .int .i64 730454, .int .i64 0, .string ⟨#[]⟩, .int .i64 2, .int .i64 0, .int .i64 0, .slice (some ⟨g, 0, none⟩) 4 cap, .string ⟨#[]⟩, .int .i64 0, .int .i64 0, .int .i64 0]) (by exact results_cell_row rfl _ _ w.heap.size 55 _ (0, 0) _ rfl (hk _) Tryd.underlying55 rfl size55) rfl ⟨.slice (some ⟨g, 0, none⟩) 4 cap, rfl, ?_, ?_⟩
  · refine own_mono (base := w.heap.size + 1) (World.ownsRow.alloc ?_ _) (by omega)
    iterate 15 refine ownsRow_setCell_below ?_ (by simp) _
    exact HO.out
  · refine Below.alloc ?_ (by simp; omega) _
    iterate 15 refine Below.setCell ?_ (by simp) _
    exact HB.out

set_option maxRecDepth 100000 in
set_option maxHeartbeats 2000000 in
theorem scale41_true (id key : ByteArray) (w : World) : Calls Tryd.prog 41 #[.string id, .string key, .bool true] w fun e w' => ∃ v, e = .returned (.agg #[.string id, .string key, .int .i64 730485, .int .i64 730850, .int .i64 730454, .int .i64 0, .string ⟨#[]⟩, .int .i64 2, .int .i64 0, .int .i64 0, v, .string ⟨#[]⟩, .int .i64 0, .int .i64 0, .int .i64 0]) ∧ w'.ownsRow w.heap.size 49 4 v 4 (brks true) ∧ Below w.heap.size w w' := by
  go_enter Tryd.func41, Tryd.ntmps41
  go_wp2_with fail
  refine (rscale_true _).mono ?_
  rintro e w1 ⟨v, rfl, ho, hb⟩
  have hex : ∃ g cap, v = .slice (some ⟨g, 0, none⟩) 4 cap ∧ w.heap.size < g ∧ g < w1.heap.size := by
    rcases ho.2 with ⟨_, h⟩ | ⟨g, cap, _, h, h2, h3, _⟩
    · cases h
    · exact ⟨g, cap, h, by simp at h2; omega, (Array.getElem?_eq_some_iff.1 h3).1⟩
  obtain ⟨g, cap, hvv, hg, hg2⟩ := hex
  rw [hvv] at ho ⊢
  have h0 : w1.heap[w.heap.size]? = some (.cells #[.string ⟨#[]⟩, .string ⟨#[]⟩, .int .i64 0, .int .i64 0, .int .i64 0, .int .i64 0, .string ⟨#[]⟩, .int .i64 0, .int .i64 0, .int .i64 0, .slice none 0 0, .string ⟨#[]⟩, .int .i64 0, .int .i64 0, .int .i64 0] 55 (0, 0)) := (hb.block _ (by simp)).trans (heap_new _ _)
  have hl : w.heap.size < w1.heap.size := by have := hb.size; simp at this; omega
  have hcA0 : ∀ j, w1.cell? ⟨w.heap.size, j, none⟩ = (#[.string ⟨#[]⟩, .string ⟨#[]⟩, .int .i64 0, .int .i64 0, .int .i64 0, .int .i64 0, .string ⟨#[]⟩, .int .i64 0, .int .i64 0, .int .i64 0, .slice none 0 0, .string ⟨#[]⟩, .int .i64 0, .int .i64 0, .int .i64 0] : Array Value)[j]? := fun j => cell_of _ _ _ 55 h0 j
  have hf0 : ∀ j, w1.frozen? ⟨w.heap.size, j, none⟩ = false := fun j => frozen_of_row _ _ _ _ 55 h0
  have HH : Hid (w1.heap[w.heap.size]? = some (.cells #[.string ⟨#[]⟩, .string ⟨#[]⟩, .int .i64 0, .int .i64 0, .int .i64 0, .int .i64 0, .string ⟨#[]⟩, .int .i64 0, .int .i64 0, .int .i64 0, .slice none 0 0, .string ⟨#[]⟩, .int .i64 0, .int .i64 0, .int .i64 0] 55 (0, 0))) := h0
  have HB : Hid (Below w.heap.size w w1) := ((Below.refl _ _).alloc (Nat.le_refl _) _).trans (hb.mono (by simp))
  have HO : Hid (w1.ownsRow (w.heap.size + 1) 49 4 (.slice (some ⟨g, 0, none⟩) 4 cap) 4 (brks true)) := own_mono ho (by simp)
  clear h0 hb ho hvv
  go_wp2
  have hk0 := (heap_setCell_same _ w.heap.size 14 _ _ (.int .i64 0) (heap_setCell_same _ w.heap.size 13 _ _ (.int .i64 0) (heap_setCell_same _ w.heap.size 12 _ _ (.int .i64 0) (heap_setCell_same _ w.heap.size 11 _ _ (.string ⟨#[]⟩) (heap_setCell_same _ w.heap.size 10 _ _ (.slice (some ⟨g, 0, none⟩) 4 cap) (heap_setCell_same _ w.heap.size 9 _ _ (.int .i64 0) (heap_setCell_same _ w.heap.size 8 _ _ (.int .i64 0) (heap_setCell_same _ w.heap.size 7 _ _ (.int .i64 2) (heap_setCell_same _ w.heap.size 6 _ _ (.string ⟨#[]⟩) (heap_setCell_same _ w.heap.size 5 _ _ (.int .i64 0) (heap_setCell_same _ w.heap.size 4 _ _ (.int .i64 730454) (heap_setCell_same _ w.heap.size 3 _ _ (.int .i64 730850) (heap_setCell_same _ w.heap.size 2 _ _ (.int .i64 730485) (heap_setCell_same _ w.heap.size 1 _ _ (.string key) (heap_setCell_same _ w.heap.size 0 _ _ (.string id) HH.out)))))))))))))))
  simp only [List.setIfInBounds_toArray, List.set_cons_zero, List.set_cons_succ] at hk0
  have hk := fun o => (Below.heap_alloc _ o _ (by simp; omega)).trans hk0
  refine bodyPost_ret (v := .agg #[.string id, .string key, .int .i64 730485, .int .i64 730850, .int .i64 730454, .int .i64 0, .string ⟨#[]⟩, .int .i64 2, .int .i64 0, .int .i64 0, .slice (some ⟨g, 0, none⟩) 4 cap, .string ⟨#[]⟩, .int .i64 0, .int .i64 0, .int .i64 0]) (by exact results_cell_row rfl _ _ w.heap.size 55 _ (0, 0) _ rfl (hk _) Tryd.underlying55 rfl size55) rfl ⟨.slice (some ⟨g, 0, none⟩) 4 cap, rfl, ?_, ?_⟩
  · refine own_mono (base := w.heap.size + 1) (World.ownsRow.alloc ?_ _) (by omega)
    iterate 15 refine ownsRow_setCell_below ?_ (by simp) _
    exact HO.out
  · refine Below.alloc ?_ (by simp; omega) _
    iterate 15 refine Below.setCell ?_ (by simp) _
    exact HB.out

end Go.Proofs.YtakbkdimknnopaaDoor
