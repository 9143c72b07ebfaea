/- The notes of the year: y1.ten, y1.Notes. -/
import Derived.Test.YtakbkdimknnopaaDoorD
import Derived.Deep.MidRow
import Derived.Deep.CutRange
namespace Go.Proofs.YtakbkdimknnopaaDoor
open Go.RowKit

/-- The ten notes, cell by cell. -/
def noteCells : Array Value := #[.string ⟨#[121, 49, 46, 99, 112, 105]⟩, .int .i64 1000, .string ⟨#[121, 49, 46, 102, 97, 99, 116, 111, 114]⟩, .int .i64 2, .string ⟨#[121, 49, 46, 115, 116, 97, 110, 100, 97, 114, 100]⟩, .int .i64 11000, .string ⟨#[121, 49, 46, 116, 111, 112]⟩, .int .i64 378000, .string ⟨#[121, 49, 46, 114, 97, 116, 101]⟩, .int .i64 8800, .string ⟨#[121, 49, 46, 99, 114, 101, 100, 105, 116]⟩, .int .i64 1400, .string ⟨#[121, 49, 46, 112, 104, 97, 115, 101]⟩, .int .i64 60000, .string ⟨#[121, 49, 46, 102, 97, 99, 116, 115]⟩, .int .i64 460202, .string ⟨#[121, 49, 46, 112, 114, 111, 118, 105, 115, 105, 111, 110, 115]⟩, .int .i64 13, .string ⟨#[121, 49, 46, 97, 108, 108]⟩, .int .i64 13]
def sevenCells : Array Value := #[.string ⟨#[121, 49, 46, 99, 112, 105]⟩, .int .i64 1000, .string ⟨#[121, 49, 46, 102, 97, 99, 116, 111, 114]⟩, .int .i64 2, .string ⟨#[121, 49, 46, 115, 116, 97, 110, 100, 97, 114, 100]⟩, .int .i64 11000, .string ⟨#[121, 49, 46, 116, 111, 112]⟩, .int .i64 378000, .string ⟨#[121, 49, 46, 114, 97, 116, 101]⟩, .int .i64 8800, .string ⟨#[121, 49, 46, 99, 114, 101, 100, 105, 116]⟩, .int .i64 1400, .string ⟨#[121, 49, 46, 112, 104, 97, 115, 101]⟩, .int .i64 60000, .string ⟨#[]⟩, .int .i64 0, .string ⟨#[]⟩, .int .i64 0, .string ⟨#[]⟩, .int .i64 0]
def zeroCells : Array Value := #[.string ⟨#[]⟩, .int .i64 0, .string ⟨#[]⟩, .int .i64 0, .string ⟨#[]⟩, .int .i64 0, .string ⟨#[]⟩, .int .i64 0, .string ⟨#[]⟩, .int .i64 0, .string ⟨#[]⟩, .int .i64 0, .string ⟨#[]⟩, .int .i64 0, .string ⟨#[]⟩, .int .i64 0, .string ⟨#[]⟩, .int .i64 0, .string ⟨#[]⟩, .int .i64 0]
def sums : List Int := [0, 1000, 1002, 12002, 390002, 398802, 400202, 460202]
theorem Below.setRow {B : Nat} {a w : World} (h : Below B a w) {g : Nat} (hg : B ≤ g) (cs : Array Value) : Below B a (w.setRow g cs) :=
  h.trans ⟨rfl, rfl, rfl, by simp, fun k hk => setRow_other w g k cs (by omega)⟩
theorem und66 : Tryd.prog.underlying 66 = some (.array 10 37) := Tryd.underlying66
theorem size66 : (Tryd.prog.info? 66).map (·.size) = some noteCells.size := by kernel_rfl

set_option maxRecDepth 100000 in
set_option maxHeartbeats 4000000 in
theorem ten_any (w : World) (hv : Vars w) : Calls Tryd.prog 31 #[] w fun e w' => e = .returned (.agg noteCells) ∧ Below w.heap.size w w' := by
  have hz := hv.size
  have q00 : 0 < w.heap.size := by omega
  have q10 : 1 < w.heap.size := by omega
  have q11 : 1 < w.heap.size + 1 := by omega
  have q20 : 2 < w.heap.size := by omega
  have q21 : 2 < w.heap.size + 1 := by omega
  have q22 : 2 < w.heap.size + 1 + 1 := by omega
  have q30 : 3 < w.heap.size := by omega
  have q31 : 3 < w.heap.size + 1 := by omega
  have q32 : 3 < w.heap.size + 1 + 1 := by omega
  have q33 : 3 < w.heap.size + 1 + 1 + 1 := by omega
  have q40 : 4 < w.heap.size := by omega
  have q41 : 4 < w.heap.size + 1 := by omega
  have q42 : 4 < w.heap.size + 1 + 1 := by omega
  have q43 : 4 < w.heap.size + 1 + 1 + 1 := by omega
  have q44 : 4 < w.heap.size + 1 + 1 + 1 + 1 := by omega
  obtain ⟨f0, f1, p0, t0, t1, t2, t3, t4, t5, r0, r1, r2, r3, c0⟩ := hv
  have i0 := idxS0
  have i1 := idxS1
  have i2 := idxP0
  have i3 := idxP1
  go_enter Tryd.func31, Tryd.ntmps31
  go_wp2_with (first | (go_at_call 36; refine (pair36 _).mono ?_; rintro e w' ⟨rfl, rfl⟩) | (go_at_call 37; refine (pair37 _).mono ?_; rintro e w' ⟨rfl, rfl⟩))
  clear f0 f1 p0 t0 t1 t2 t3 t4 t5 r0 r1 r2 r3 c0 i0 i1 i2 i3 hz q00 q10 q11 q20 q21 q22 q30 q31 q32 q33 q40 q41 q42 q43 q44
  obtain ⟨W1, hW1⟩ : ∃ W1, W1 = ((((((((((((((((((w.alloc (.cells zeroCells 66)).alloc (.cells sevenCells 66)).alloc (.cells #[.int .i64 4000, .int .i64 7000] 65)).alloc (.cells #[.int .i64 4000, .int .i64 7000] 65)).alloc (.cells #[.int .i64 4000, .int .i64 7000] 65)).alloc (.cells #[.int .i64 4000, .int .i64 7000] 65)).alloc (.cells #[.int .i64 500, .int .i64 900] 65)).alloc (.cells #[.int .i64 500, .int .i64 900] 65)).alloc (.cells #[.int .i64 4000, .int .i64 7000] 65)).alloc (.cells #[.int .i64 4000, .int .i64 7000] 65)).alloc (.cells #[.int .i64 4000, .int .i64 7000] 65)).alloc (.cells #[.int .i64 4000, .int .i64 7000] 65)).alloc (.cells #[.int .i64 500, .int .i64 900] 65)).alloc (.cells #[.int .i64 500, .int .i64 900] 65)).alloc (.cells #[.int .i64 4000, .int .i64 7000] 65)).alloc (.cells #[.int .i64 4000, .int .i64 7000] 65)).alloc (.cells #[.int .i64 4000, .int .i64 7000] 65)).alloc (.cells #[.int .i64 4000, .int .i64 7000] 65)) := ⟨_, rfl⟩
  have hb : Below w.heap.size w W1 := by rw [hW1]; (repeat (first | exact Below.refl _ _ | apply Below.alloc)) <;> (simp; try omega)
  have h0 : W1.heap[w.heap.size]? = some (.cells zeroCells 66 (0, 0)) := by
    rw [hW1]
    repeat (first | exact heap_at _ _ _ (by simp) | rw [Below.heap_alloc _ _ _ (by simp; try omega)])
  have h1 : W1.heap[w.heap.size + 1]? = some (.cells sevenCells 66 (0, 0)) := by
    rw [hW1]
    repeat (first | exact heap_at _ _ _ (by simp) | rw [Below.heap_alloc _ _ _ (by simp; try omega)])
  unfold zeroCells sevenCells at hW1
  rw [← hW1]
  clear hW1
  have hf : ∀ j, W1.frozen? ⟨w.heap.size + 1, j, none⟩ = false := fun j => frozen_of_row W1 _ _ _ _ h1
  have hc0 : W1.cell? ⟨w.heap.size + 1, 1, none⟩ = some (.int .i64 1000) := cell_of_row W1 _ _ _ _ _ h1
  have hc1 : W1.cell? ⟨w.heap.size + 1, 3, none⟩ = some (.int .i64 2) := cell_of_row W1 _ _ _ _ _ h1
  have hc2 : W1.cell? ⟨w.heap.size + 1, 5, none⟩ = some (.int .i64 11000) := cell_of_row W1 _ _ _ _ _ h1
  have hc3 : W1.cell? ⟨w.heap.size + 1, 7, none⟩ = some (.int .i64 378000) := cell_of_row W1 _ _ _ _ _ h1
  have hc4 : W1.cell? ⟨w.heap.size + 1, 9, none⟩ = some (.int .i64 8800) := cell_of_row W1 _ _ _ _ _ h1
  have hc5 : W1.cell? ⟨w.heap.size + 1, 11, none⟩ = some (.int .i64 1400) := cell_of_row W1 _ _ _ _ _ h1
  have hc6 : W1.cell? ⟨w.heap.size + 1, 13, none⟩ = some (.int .i64 60000) := cell_of_row W1 _ _ _ _ _ h1
  have hc14 : W1.cell? ⟨w.heap.size + 1, 14, none⟩ = some (.string ⟨#[]⟩) := cell_of_row W1 _ _ _ _ _ h1
  have hc15 : W1.cell? ⟨w.heap.size + 1, 15, none⟩ = some (.int .i64 0) := cell_of_row W1 _ _ _ _ _ h1
  have hc16 : W1.cell? ⟨w.heap.size + 1, 16, none⟩ = some (.string ⟨#[]⟩) := cell_of_row W1 _ _ _ _ _ h1
  have hc17 : W1.cell? ⟨w.heap.size + 1, 17, none⟩ = some (.int .i64 0) := cell_of_row W1 _ _ _ _ _ h1
  have hc18 : W1.cell? ⟨w.heap.size + 1, 18, none⟩ = some (.string ⟨#[]⟩) := cell_of_row W1 _ _ _ _ _ h1
  have hc19 : W1.cell? ⟨w.heap.size + 1, 19, none⟩ = some (.int .i64 0) := cell_of_row W1 _ _ _ _ _ h1

  have H0 : Hid _ := h0
  have H1 : Hid _ := h1
  have HB : Hid _ := hb
  clear h0 h1 hb
  go_loop [2, 65] (fun t i => (∃ k : Nat, k < 7 ∧ i = .int .i64 k ∧ t = .int .i64 (sums.getD k 0)) ∨ i = .int .i64 7 ∧ t = .int .i64 460202) (fun _ i => 7 - (intOf i).toNat)
  case atStart => exact Or.inl ⟨0, by omega, rfl, rfl⟩
  case round =>
    rcases hrel with ⟨k, hk, rfl, rfl⟩ | ⟨rfl, rfl⟩
    · match k, hk with
      | 0, _ =>
        rw [show sums.getD 0 0 = 0 from rfl]
        go_wp2
        go_round
        case rel => exact Or.inl ⟨1, by omega, by go_num, rfl⟩
        case measure => simp [intOf]
      | 1, _ =>
        rw [show sums.getD 1 0 = 1000 from rfl]
        go_wp2
        go_round
        case rel => exact Or.inl ⟨2, by omega, by go_num, rfl⟩
        case measure => simp [intOf]
      | 2, _ =>
        rw [show sums.getD 2 0 = 1002 from rfl]
        go_wp2
        go_round
        case rel => exact Or.inl ⟨3, by omega, by go_num, rfl⟩
        case measure => simp [intOf]
      | 3, _ =>
        rw [show sums.getD 3 0 = 12002 from rfl]
        go_wp2
        go_round
        case rel => exact Or.inl ⟨4, by omega, by go_num, rfl⟩
        case measure => simp [intOf]
      | 4, _ =>
        rw [show sums.getD 4 0 = 390002 from rfl]
        go_wp2
        go_round
        case rel => exact Or.inl ⟨5, by omega, by go_num, rfl⟩
        case measure => simp [intOf]
      | 5, _ =>
        rw [show sums.getD 5 0 = 398802 from rfl]
        go_wp2
        go_round
        case rel => exact Or.inl ⟨6, by omega, by go_num, rfl⟩
        case measure => simp [intOf]
      | 6, _ =>
        rw [show sums.getD 6 0 = 400202 from rfl]
        go_wp2
        go_round
        case rel => exact Or.inr ⟨by go_num, rfl⟩
        case measure => simp [intOf]

    · go_upto_region 18 with (fail)
      obtain ⟨W2, hW2⟩ : ∃ W2, W2 = ((((((W1.setCell ⟨w.heap.size + 1, 14, none⟩ (.string ⟨#[121, 49, 46, 102, 97, 99, 116, 115]⟩)).setCell ⟨w.heap.size + 1, 15, none⟩ (.int .i64 460202)).setCell ⟨w.heap.size + 1, 16, none⟩ (.string ⟨#[121, 49, 46, 112, 114, 111, 118, 105, 115, 105, 111, 110, 115]⟩)).setCell ⟨w.heap.size + 1, 17, none⟩ (.int .i64 13)).setCell ⟨w.heap.size + 1, 18, none⟩ (.string ⟨#[121, 49, 46, 97, 108, 108]⟩)).setCell ⟨w.heap.size + 1, 19, none⟩ (.int .i64 13)) := ⟨_, rfl⟩
      have hk : W2.heap[w.heap.size + 1]? = some (.cells noteCells 66 (0, 0)) := by rw [hW2]; exact heap_setCell_same _ _ _ _ _ _ (heap_setCell_same _ _ _ _ _ _ (heap_setCell_same _ _ _ _ _ _ (heap_setCell_same _ _ _ _ _ _ (heap_setCell_same _ _ _ _ _ _ (heap_setCell_same _ _ _ _ _ _ H1.out)))))
      have hk0 : W2.heap[w.heap.size]? = some (.cells zeroCells 66 (0, 0)) := by
        rw [hW2]
        repeat rw [Below.heap_setCell _ _ _ _ (by simp)]
        exact H0.out
      have hbb : Below w.heap.size w (W2.setRow w.heap.size noteCells) := by
        refine Below.setRow ?_ (Nat.le_refl _) _
        rw [hW2]
        repeat refine Below.setCell ?_ (by simp) _
        exact HB.out
      rw [← hW2]
      clear hW2 hf hc0 hc1 hc2 hc3 hc4 hc5 hc6 hc14 hc15 hc16 hc17 hc18 hc19
      refine wp_region_lit ?_
      refine wpList_load_row rfl 66 (.tmp 1) rfl (w.heap.size + 1) rfl 66 noteCells (0, 0) _ hk und66 rfl size66 ?_
      refine wpList_store_row rfl 66 (.tmp 0) (.tmp 82) rfl w.heap.size noteCells rfl rfl 66 zeroCells hk0 size66 rfl (by kernel_rfl) ?_
      have HK0 : Hid _ := hk0
      have HBB : Hid _ := hbb
      clear hk hk0 hbb
      go_wp2
      exact bodyPost_ret (v := .agg noteCells) (by exact results_cell_row rfl _ _ w.heap.size 66 noteCells (0, 0) _ rfl (setRow_heap _ _ _ _ _ _ HK0.out) und66 rfl size66) rfl ⟨rfl, HBB.out⟩

end Go.Proofs.YtakbkdimknnopaaDoor
