/- One provision: number, scale, rule of both packages. -/
import Derived.Test.YtakbkdimknnopaaDoorS5
namespace Go.Proofs.YtakbkdimknnopaaDoor
open Go.RowKit

theorem span_any (w : World) : Calls Tryd.prog 25 #[] w fun e w' => e = .returned (.agg #[.int .i64 730485, .int .i64 730850]) ∧ w' = w.alloc (.cells #[.int .i64 730485, .int .i64 730850] 46) := by
  go_enter Tryd.func25, Tryd.ntmps25
  go_wp2
  exact bodyPost_ret (v := .agg #[.int .i64 730485, .int .i64 730850]) (by simp [results, Tryd.results25, go_sem]) rfl ⟨rfl, rfl⟩
theorem size55 : (Tryd.prog.info? 55).map (·.size) = some 15 := by kernel_rfl

set_option maxRecDepth 100000 in
set_option maxHeartbeats 1000000 in
theorem number35 (id key : ByteArray) (n : Int) (w : World) : Calls Tryd.prog 35 #[.string id, .string key, .int .i64 n] w fun e w' => e = .returned (.agg #[.string id, .string key, .int .i64 730485, .int .i64 730850, .int .i64 730454, .int .i64 0, .string ⟨#[]⟩, .int .i64 1, .int .i64 n, .int .i64 1, .slice none 0 0, .string ⟨#[]⟩, .int .i64 0, .int .i64 0, .int .i64 0]) ∧ Below w.heap.size w w' := by
  go_enter Tryd.func35, Tryd.ntmps35
  go_wp2_with (first | (go_at_call 25; refine (span_any _).mono ?_; rintro e w' ⟨rfl, rfl⟩) | (go_at_call 34; refine (whole34 _ _).mono ?_; rintro e w' ⟨rfl, rfl⟩))
  exact bodyPost_ret (v := .agg #[.string id, .string key, .int .i64 730485, .int .i64 730850, .int .i64 730454, .int .i64 0, .string ⟨#[]⟩, .int .i64 1, .int .i64 n, .int .i64 1, .slice none 0 0, .string ⟨#[]⟩, .int .i64 0, .int .i64 0, .int .i64 0]) (by simp [results, Tryd.results35, go_sem]) rfl ⟨rfl, by (repeat (first | exact Below.refl _ _ | apply Below.alloc)) <;> (simp; try omega)⟩

set_option maxRecDepth 100000 in
set_option maxHeartbeats 1000000 in
theorem number40 (id key : ByteArray) (n : Int) (w : World) : Calls Tryd.prog 40 #[.string id, .string key, .int .i64 n] w fun e w' => e = .returned (.agg #[.string id, .string key, .int .i64 730485, .int .i64 730850, .int .i64 730454, .int .i64 0, .string ⟨#[]⟩, .int .i64 1, .int .i64 n, .int .i64 1, .slice none 0 0, .string ⟨#[]⟩, .int .i64 0, .int .i64 0, .int .i64 0]) ∧ Below w.heap.size w w' := by
  go_enter Tryd.func40, Tryd.ntmps40
  go_wp2_with (first | (go_at_call 25; refine (span_any _).mono ?_; rintro e w' ⟨rfl, rfl⟩) | (go_at_call 57; refine (whole57 _ _).mono ?_; rintro e w' ⟨rfl, rfl⟩))
  exact bodyPost_ret (v := .agg #[.string id, .string key, .int .i64 730485, .int .i64 730850, .int .i64 730454, .int .i64 0, .string ⟨#[]⟩, .int .i64 1, .int .i64 n, .int .i64 1, .slice none 0 0, .string ⟨#[]⟩, .int .i64 0, .int .i64 0, .int .i64 0]) (by simp [results, Tryd.results40, go_sem]) rfl ⟨rfl, by (repeat (first | exact Below.refl _ _ | apply Below.alloc)) <;> (simp; try omega)⟩

set_option maxRecDepth 100000 in
set_option maxHeartbeats 2000000 in
theorem scale38_false (id key : ByteArray) (w : World) (hv : Vars w) : Calls Tryd.prog 38 #[.string id, .string key, .bool false] w fun e w' => ∃ v, e = .returned (.agg #[.string id, .string key, .int .i64 730485, .int .i64 730850, .int .i64 730454, .int .i64 0, .string ⟨#[]⟩, .int .i64 2, .int .i64 0, .int .i64 0, v, .string ⟨#[]⟩, .int .i64 0, .int .i64 0, .int .i64 0]) ∧ w'.ownsRow w.heap.size 49 4 v 4 (brks false) ∧ Below w.heap.size w w' := by
  have hv2 : ∀ o1 o2, Vars ((w.alloc o1).alloc o2) := fun o1 o2 => hv.below (((Below.refl _ _).alloc (Nat.le_refl _) _).alloc (by simp) _)
  go_enter Tryd.func38, Tryd.ntmps38
  go_wp2_with (first | (go_at_call 25; refine (span_any _).mono ?_; rintro e w' ⟨rfl, rfl⟩) | fail)
  refine (scale_false _ (hv2 _ _)).mono ?_
  rintro e w1 ⟨v, rfl, ho, hb⟩
  have hex : ∃ g cap, v = .slice (some ⟨g, 0, none⟩) 4 cap ∧ w.heap.size < g := by
    rcases ho.2 with ⟨_, h⟩ | ⟨g, cap, _, h, h2, _⟩
    · cases h
    · exact ⟨g, cap, h, by simp at h2; omega⟩
  obtain ⟨g, cap, hvv, hg⟩ := hex
  rw [hvv] at ho ⊢
  have h0 : w1.heap[w.heap.size]? = some (.cells #[.string ⟨#[]⟩, .string ⟨#[]⟩, .int .i64 0, .int .i64 0, .int .i64 0, .int .i64 0, .string ⟨#[]⟩, .int .i64 0, .int .i64 0, .int .i64 0, .slice none 0 0, .string ⟨#[]⟩, .int .i64 0, .int .i64 0, .int .i64 0] 55 (0, 0)) := (hb.block _ (by simp <;> omega)).trans ((Below.heap_alloc _ _ _ (by simp)).trans (heap_new _ _))
  have hcA : ∀ j, w1.cell? ⟨w.heap.size, j, none⟩ = (#[.string ⟨#[]⟩, .string ⟨#[]⟩, .int .i64 0, .int .i64 0, .int .i64 0, .int .i64 0, .string ⟨#[]⟩, .int .i64 0, .int .i64 0, .int .i64 0, .slice none 0 0, .string ⟨#[]⟩, .int .i64 0, .int .i64 0, .int .i64 0] : Array Value)[j]? := fun j => cell_of w1 _ _ 55 h0 j
  have hf : ∀ j, w1.frozen? ⟨w.heap.size, j, none⟩ = false := fun j => frozen_of_row w1 _ _ _ 55 h0
  have HH : Hid (w1.heap[w.heap.size]? = some (.cells #[.string ⟨#[]⟩, .string ⟨#[]⟩, .int .i64 0, .int .i64 0, .int .i64 0, .int .i64 0, .string ⟨#[]⟩, .int .i64 0, .int .i64 0, .int .i64 0, .slice none 0 0, .string ⟨#[]⟩, .int .i64 0, .int .i64 0, .int .i64 0] 55 (0, 0))) := h0
  have HB : Hid (Below w.heap.size w w1) := (((Below.refl _ _).alloc (Nat.le_refl _) _).alloc (by simp) _).trans (hb.mono (by simp; omega))
  have HO : Hid (w1.ownsRow (w.heap.size + 1) 49 4 (.slice (some ⟨g, 0, none⟩) 4 cap) 4 (brks false)) := own_mono ho (by simp)
  clear h0 hb ho hv hv2 hvv
  go_wp2
  have hk := (heap_setCell_same _ w.heap.size 14 _ _ (.int .i64 0) (heap_setCell_same _ w.heap.size 13 _ _ (.int .i64 0) (heap_setCell_same _ w.heap.size 12 _ _ (.int .i64 0) (heap_setCell_same _ w.heap.size 11 _ _ (.string ⟨#[]⟩) (heap_setCell_same _ w.heap.size 10 _ _ (.slice (some ⟨g, 0, none⟩) 4 cap) (heap_setCell_same _ w.heap.size 9 _ _ (.int .i64 0) (heap_setCell_same _ w.heap.size 8 _ _ (.int .i64 0) (heap_setCell_same _ w.heap.size 7 _ _ (.int .i64 2) (heap_setCell_same _ w.heap.size 6 _ _ (.string ⟨#[]⟩) (heap_setCell_same _ w.heap.size 5 _ _ (.int .i64 0) (heap_setCell_same _ w.heap.size 4 _ _ (.int .i64 730454) (heap_setCell_same _ w.heap.size 3 _ _ (.int .i64 730850) (heap_setCell_same _ w.heap.size 2 _ _ (.int .i64 730485) (heap_setCell_same _ w.heap.size 1 _ _ (.string key) (heap_setCell_same _ w.heap.size 0 _ _ (.string id) HH.out)))))))))))))))
  simp only [List.setIfInBounds_toArray, List.set_cons_zero, List.set_cons_succ] at hk
  refine bodyPost_ret (v := .agg #[.string id, .string key, .int .i64 730485, .int .i64 730850, .int .i64 730454, .int .i64 0, .string ⟨#[]⟩, .int .i64 2, .int .i64 0, .int .i64 0, .slice (some ⟨g, 0, none⟩) 4 cap, .string ⟨#[]⟩, .int .i64 0, .int .i64 0, .int .i64 0]) (by exact results_cell_row rfl _ _ w.heap.size 55 _ (0, 0) _ rfl hk Tryd.underlying55 rfl size55) rfl ⟨.slice (some ⟨g, 0, none⟩) 4 cap, rfl, ?_, ?_⟩
  · refine own_mono (base := w.heap.size + 1) ?_ (by omega)
    iterate 15 refine ownsRow_setCell_below ?_ (by simp) _
    exact HO.out
  · iterate 15 refine Below.setCell ?_ (by simp) _
    exact HB.out

set_option maxRecDepth 100000 in
set_option maxHeartbeats 2000000 in
theorem scale38_true (id key : ByteArray) (w : World) (hv : Vars w) : Calls Tryd.prog 38 #[.string id, .string key, .bool true] w fun e w' => ∃ v, e = .returned (.agg #[.string id, .string key, .int .i64 730485, .int .i64 730850, .int .i64 730454, .int .i64 0, .string ⟨#[]⟩, .int .i64 2, .int .i64 0, .int .i64 0, v, .string ⟨#[]⟩, .int .i64 0, .int .i64 0, .int .i64 0]) ∧ w'.ownsRow w.heap.size 49 4 v 4 (brks true) ∧ Below w.heap.size w w' := by
  have hv2 : ∀ o1 o2, Vars ((w.alloc o1).alloc o2) := fun o1 o2 => hv.below (((Below.refl _ _).alloc (Nat.le_refl _) _).alloc (by simp) _)
  go_enter Tryd.func38, Tryd.ntmps38
  go_wp2_with (first | (go_at_call 25; refine (span_any _).mono ?_; rintro e w' ⟨rfl, rfl⟩) | fail)
  refine (scale_true _ (hv2 _ _)).mono ?_
  rintro e w1 ⟨v, rfl, ho, hb⟩
  have hex : ∃ g cap, v = .slice (some ⟨g, 0, none⟩) 4 cap ∧ w.heap.size < g := by
    rcases ho.2 with ⟨_, h⟩ | ⟨g, cap, _, h, h2, _⟩
    · cases h
    · exact ⟨g, cap, h, by simp at h2; omega⟩
  obtain ⟨g, cap, hvv, hg⟩ := hex
  rw [hvv] at ho ⊢
  have h0 : w1.heap[w.heap.size]? = some (.cells #[.string ⟨#[]⟩, .string ⟨#[]⟩, .int .i64 0, .int .i64 0, .int .i64 0, .int .i64 0, .string ⟨#[]⟩, .int .i64 0, .int .i64 0, .int .i64 0, .slice none 0 0, .string ⟨#[]⟩, .int .i64 0, .int .i64 0, .int .i64 0] 55 (0, 0)) := (hb.block _ (by simp <;> omega)).trans ((Below.heap_alloc _ _ _ (by simp)).trans (heap_new _ _))
  have hcA : ∀ j, w1.cell? ⟨w.heap.size, j, none⟩ = (#[.string ⟨#[]⟩, .string ⟨#[]⟩, .int .i64 0, .int .i64 0, .int .i64 0, .int .i64 0, .string ⟨#[]⟩, .int .i64 0, .int .i64 0, .int .i64 0, .slice none 0 0, .string ⟨#[]⟩, .int .i64 0, .int .i64 0, .int .i64 0] : Array Value)[j]? := fun j => cell_of w1 _ _ 55 h0 j
  have hf : ∀ j, w1.frozen? ⟨w.heap.size, j, none⟩ = false := fun j => frozen_of_row w1 _ _ _ 55 h0
  have HH : Hid (w1.heap[w.heap.size]? = some (.cells #[.string ⟨#[]⟩, .string ⟨#[]⟩, .int .i64 0, .int .i64 0, .int .i64 0, .int .i64 0, .string ⟨#[]⟩, .int .i64 0, .int .i64 0, .int .i64 0, .slice none 0 0, .string ⟨#[]⟩, .int .i64 0, .int .i64 0, .int .i64 0] 55 (0, 0))) := h0
  have HB : Hid (Below w.heap.size w w1) := (((Below.refl _ _).alloc (Nat.le_refl _) _).alloc (by simp) _).trans (hb.mono (by simp; omega))
  have HO : Hid (w1.ownsRow (w.heap.size + 1) 49 4 (.slice (some ⟨g, 0, none⟩) 4 cap) 4 (brks true)) := own_mono ho (by simp)
  clear h0 hb ho hv hv2 hvv
  go_wp2
  have hk := (heap_setCell_same _ w.heap.size 14 _ _ (.int .i64 0) (heap_setCell_same _ w.heap.size 13 _ _ (.int .i64 0) (heap_setCell_same _ w.heap.size 12 _ _ (.int .i64 0) (heap_setCell_same _ w.heap.size 11 _ _ (.string ⟨#[]⟩) (heap_setCell_same _ w.heap.size 10 _ _ (.slice (some ⟨g, 0, none⟩) 4 cap) (heap_setCell_same _ w.heap.size 9 _ _ (.int .i64 0) (heap_setCell_same _ w.heap.size 8 _ _ (.int .i64 0) (heap_setCell_same _ w.heap.size 7 _ _ (.int .i64 2) (heap_setCell_same _ w.heap.size 6 _ _ (.string ⟨#[]⟩) (heap_setCell_same _ w.heap.size 5 _ _ (.int .i64 0) (heap_setCell_same _ w.heap.size 4 _ _ (.int .i64 730454) (heap_setCell_same _ w.heap.size 3 _ _ (.int .i64 730850) (heap_setCell_same _ w.heap.size 2 _ _ (.int .i64 730485) (heap_setCell_same _ w.heap.size 1 _ _ (.string key) (heap_setCell_same _ w.heap.size 0 _ _ (.string id) HH.out)))))))))))))))
  simp only [List.setIfInBounds_toArray, List.set_cons_zero, List.set_cons_succ] at hk
  refine bodyPost_ret (v := .agg #[.string id, .string key, .int .i64 730485, .int .i64 730850, .int .i64 730454, .int .i64 0, .string ⟨#[]⟩, .int .i64 2, .int .i64 0, .int .i64 0, .slice (some ⟨g, 0, none⟩) 4 cap, .string ⟨#[]⟩, .int .i64 0, .int .i64 0, .int .i64 0]) (by exact results_cell_row rfl _ _ w.heap.size 55 _ (0, 0) _ rfl hk Tryd.underlying55 rfl size55) rfl ⟨.slice (some ⟨g, 0, none⟩) 4 cap, rfl, ?_, ?_⟩
  · refine own_mono (base := w.heap.size + 1) ?_ (by omega)
    iterate 15 refine ownsRow_setCell_below ?_ (by simp) _
    exact HO.out
  · iterate 15 refine Below.setCell ?_ (by simp) _
    exact HB.out

set_option maxRecDepth 100000 in
set_option maxHeartbeats 1000000 in
theorem rule39 (s text : ByteArray) (m a b : Int) (w : World) (h1 : ¬ 9223372036854775807 < 8 + s.size) (h2 : ¬ 9223372036854775807 < 5 + s.size) : Calls Tryd.prog 39 #[.string s, .string text, .agg #[.int .i64 m, .int .i64 a, .int .i64 b]] w fun e w' => e = .returned (.agg #[.string (⟨#[121, 49, 46, 108, 105, 110, 101, 46]⟩ ++ s), .string (⟨#[108, 105, 110, 101, 46]⟩ ++ s), .int .i64 730485, .int .i64 3652059, .int .i64 730454, .int .i64 0, .string ⟨#[]⟩, .int .i64 3, .int .i64 0, .int .i64 0, .slice none 0 0, .string text, .int .i64 m, .int .i64 a, .int .i64 b]) ∧ Below w.heap.size w w' := by
  go_enter Tryd.func39, Tryd.ntmps39
  go_wp2
  exact bodyPost_ret (v := .agg #[.string (⟨#[121, 49, 46, 108, 105, 110, 101, 46]⟩ ++ s), .string (⟨#[108, 105, 110, 101, 46]⟩ ++ s), .int .i64 730485, .int .i64 3652059, .int .i64 730454, .int .i64 0, .string ⟨#[]⟩, .int .i64 3, .int .i64 0, .int .i64 0, .slice none 0 0, .string text, .int .i64 m, .int .i64 a, .int .i64 b]) (by simp [results, Tryd.results39, go_sem]) rfl ⟨rfl, by (repeat (first | exact Below.refl _ _ | apply Below.alloc)) <;> (simp; try omega)⟩

set_option maxRecDepth 100000 in
set_option maxHeartbeats 1000000 in
theorem rule42_0 (id key text : ByteArray) (d : Int) (w : World) : Calls Tryd.prog 42 #[.string id, .string key, .string text, .int .i64 0, .int .i64 d] w fun e w' => e = .returned (.agg #[.string id, .string key, .int .i64 730485, .int .i64 3652059, .int .i64 730454, .int .i64 0, .string ⟨#[]⟩, .int .i64 3, .int .i64 0, .int .i64 0, .slice none 0 0, .string text, .int .i64 0, .int .i64 0, .int .i64 0]) ∧ Below w.heap.size w w' := by
  go_enter Tryd.func42, Tryd.ntmps42
  go_wp2
  exact bodyPost_ret (v := .agg #[.string id, .string key, .int .i64 730485, .int .i64 3652059, .int .i64 730454, .int .i64 0, .string ⟨#[]⟩, .int .i64 3, .int .i64 0, .int .i64 0, .slice none 0 0, .string text, .int .i64 0, .int .i64 0, .int .i64 0]) (by simp [results, Tryd.results42, go_sem]) rfl ⟨rfl, by (repeat (first | exact Below.refl _ _ | apply Below.alloc)) <;> (simp; try omega)⟩

set_option maxRecDepth 100000 in
set_option maxHeartbeats 1000000 in
theorem rule42_1 (id key text : ByteArray) (m d : Int) (w : World) (hm : 0 < m) : Calls Tryd.prog 42 #[.string id, .string key, .string text, .int .i64 m, .int .i64 d] w fun e w' => e = .returned (.agg #[.string id, .string key, .int .i64 730485, .int .i64 3652059, .int .i64 730454, .int .i64 0, .string ⟨#[]⟩, .int .i64 3, .int .i64 0, .int .i64 0, .slice none 0 0, .string text, .int .i64 m, .int .i64 1, .int .i64 d]) ∧ Below w.heap.size w w' := by
  go_enter Tryd.func42, Tryd.ntmps42
  go_wp2
  exact bodyPost_ret (v := .agg #[.string id, .string key, .int .i64 730485, .int .i64 3652059, .int .i64 730454, .int .i64 0, .string ⟨#[]⟩, .int .i64 3, .int .i64 0, .int .i64 0, .slice none 0 0, .string text, .int .i64 m, .int .i64 1, .int .i64 d]) (by simp [results, Tryd.results42, go_sem]) rfl ⟨rfl, by (repeat (first | exact Below.refl _ _ | apply Below.alloc)) <;> (simp; try omega)⟩

end Go.Proofs.YtakbkdimknnopaaDoor
