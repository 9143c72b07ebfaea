/- Values and provisions compared. -/
import Derived.Test.YtakbkdimknnopaaDoorS4
namespace Go.Proofs.YtakbkdimknnopaaDoor
open Go.RowKit

/-- Two scales that SameBrackets finds alike, in this world and in every later one. -/
def Alike (w : World) (sa sb : Value) : Prop := ∀ w', Below w.heap.size w w' → Calls Tryd.prog 23 #[sa, sb] w' fun e w'' => e = .returned (.bool true) ∧ Below w'.heap.size w' w''
theorem Alike.later {w w' : World} {sa sb : Value} (h : Alike w sa sb) (hb : Below w.heap.size w w') : Alike w' sa sb := fun w'' hb' => h w'' (hb.trans (hb'.mono hb.size))
theorem same_nil (w : World) : Calls Tryd.prog 23 #[.slice none 0 0, .slice none 0 0] w fun e w' => e = .returned (.bool true) ∧ Below w.heap.size w w' := by
  go_enter Tryd.func23, Tryd.ntmps23
  go_wp2
  refine wp_loop_rounds 1 ?_
  rw [rounds_succ]
  go_wp2
  go_ret
  exact ⟨rfl, Below.refl _ _⟩
theorem alike_nil (w : World) : Alike w (.slice none 0 0) (.slice none 0 0) := fun w' _ => same_nil w'

set_option maxRecDepth 100000 in
set_option maxHeartbeats 1000000 in
theorem same_value (kind num den mode un ud : Int) (rule : ByteArray) (pa pb : Option Addr) (na ca nb cb : Nat) (w : World) (hab : Alike w (.slice pa na ca) (.slice pb nb cb)) :
    Calls Tryd.prog 58 #[.agg #[.int .i64 kind, .int .i64 num, .int .i64 den, .slice pa na ca, .string rule, .int .i64 mode, .int .i64 un, .int .i64 ud], .agg #[.int .i64 kind, .int .i64 num, .int .i64 den, .slice pb nb cb, .string rule, .int .i64 mode, .int .i64 un, .int .i64 ud]] w fun e w' => e = .returned (.bool true) ∧ Below w.heap.size w w' := by
  go_enter Tryd.func58, Tryd.ntmps58
  go_wp2_with fail
  refine (hab _ ?_).mono ?_
  · exact ((Below.refl _ _).alloc (Nat.le_refl _) _).alloc (by simp) _
  rintro e w1 ⟨rfl, hb⟩
  have hcA : ∀ j, w1.cell? ⟨w.heap.size, j, none⟩ = (#[.int .i64 kind, .int .i64 num, .int .i64 den, .slice pa na ca, .string rule, .int .i64 mode, .int .i64 un, .int .i64 ud] : Array Value)[j]? := fun j => cell_of w1 _ _ 53 ((hb.block _ (by simp <;> omega)).trans ((Below.heap_alloc _ _ _ (by simp)).trans (heap_new _ _))) j
  have hcB : ∀ j, w1.cell? ⟨w.heap.size + 1, j, none⟩ = (#[.int .i64 kind, .int .i64 num, .int .i64 den, .slice pb nb cb, .string rule, .int .i64 mode, .int .i64 un, .int .i64 ud] : Array Value)[j]? := fun j => cell_of w1 _ _ 53 ((hb.block _ (by simp <;> omega)).trans (heap_at _ _ _ (by simp))) j
  have hB : Below w.heap.size w w1 := (((Below.refl _ _).alloc (Nat.le_refl _) _).alloc (by simp) _).trans (hb.mono (by simp; omega))
  have hl : w.heap.size + 1 < w1.heap.size := by have := hb.size; simp at this; omega
  have HBW : Hid (Below w.heap.size w w1) := hB
  clear hb hB hab
  go_wp2_with fail
  refine (same_frac _ _ _).mono ?_
  rintro e w2 ⟨rfl, hb⟩
  replace hcA := fun j => (hb.cell (p := ⟨w.heap.size, j, none⟩) (by simp; omega)).trans (hcA j)
  replace hcB := fun j => (hb.cell (p := ⟨w.heap.size + 1, j, none⟩) (by simp; omega)).trans (hcB j)
  have HB2 : Hid (Below w.heap.size w w2) := HBW.out.trans (hb.mono HBW.out.size)
  clear hb
  go_wp2_with fail
  refine (same_round _ _ _ _).mono ?_
  rintro e w3 ⟨rfl, hb⟩
  have HB3 : Hid (Below w.heap.size w w3) := HB2.out.trans (hb.mono HB2.out.size)
  clear hb
  go_wp2
  go_ret
  exact ⟨rfl, HB3.out⟩
set_option maxRecDepth 100000 in
set_option maxHeartbeats 1000000 in
theorem same_prov (id key ov rule : ByteArray) (from' to' en re kind num den mode un ud : Int) (pa pb : Option Addr) (na ca nb cb : Nat) (w : World) (hab : Alike w (.slice pa na ca) (.slice pb nb cb)) :
    Calls Tryd.prog 43 #[.agg #[.string id, .string key, .int .i64 from', .int .i64 to', .int .i64 en, .int .i64 re, .string ov, .int .i64 kind, .int .i64 num, .int .i64 den, .slice pa na ca, .string rule, .int .i64 mode, .int .i64 un, .int .i64 ud], .agg #[.string id, .string key, .int .i64 from', .int .i64 to', .int .i64 en, .int .i64 re, .string ov, .int .i64 kind, .int .i64 num, .int .i64 den, .slice pb nb cb, .string rule, .int .i64 mode, .int .i64 un, .int .i64 ud]] w fun e w' => e = .returned (.bool true) ∧ Below w.heap.size w w' := by
  go_enter Tryd.func43, Tryd.ntmps43
  go_wp2_with fail
  refine (same_value _ _ _ _ _ _ _ _ _ _ _ _ _ _ (hab.later ?_)).mono ?_
  · exact ((Below.refl _ _).alloc (Nat.le_refl _) _).alloc (by simp) _
  rintro e w1 ⟨rfl, hb⟩
  have hcA : ∀ j, w1.cell? ⟨w.heap.size, j, none⟩ = (#[.string id, .string key, .int .i64 from', .int .i64 to', .int .i64 en, .int .i64 re, .string ov, .int .i64 kind, .int .i64 num, .int .i64 den, .slice pa na ca, .string rule, .int .i64 mode, .int .i64 un, .int .i64 ud] : Array Value)[j]? := fun j => cell_of w1 _ _ 55 ((hb.block _ (by simp <;> omega)).trans ((Below.heap_alloc _ _ _ (by simp)).trans (heap_new _ _))) j
  have hcB : ∀ j, w1.cell? ⟨w.heap.size + 1, j, none⟩ = (#[.string id, .string key, .int .i64 from', .int .i64 to', .int .i64 en, .int .i64 re, .string ov, .int .i64 kind, .int .i64 num, .int .i64 den, .slice pb nb cb, .string rule, .int .i64 mode, .int .i64 un, .int .i64 ud] : Array Value)[j]? := fun j => cell_of w1 _ _ 55 ((hb.block _ (by simp <;> omega)).trans (heap_at _ _ _ (by simp))) j
  have hB : Below w.heap.size w w1 := (((Below.refl _ _).alloc (Nat.le_refl _) _).alloc (by simp) _).trans (hb.mono (by simp; omega))
  have hl : w.heap.size + 1 < w1.heap.size := by have := hb.size; simp at this; omega
  have HBW : Hid (Below w.heap.size w w1) := hB
  clear hb hB hab
  go_wp2_with fail
  refine (same_span _ _ _).mono ?_
  rintro e w2 ⟨rfl, hb⟩
  replace hcA := fun j => (hb.cell (p := ⟨w.heap.size, j, none⟩) (by simp; omega)).trans (hcA j)
  replace hcB := fun j => (hb.cell (p := ⟨w.heap.size + 1, j, none⟩) (by simp; omega)).trans (hcB j)
  have HB2 : Hid (Below w.heap.size w w2) := HBW.out.trans (hb.mono HBW.out.size)
  clear hb
  go_wp2
  go_ret
  exact ⟨rfl, HB2.out⟩

end Go.Proofs.YtakbkdimknnopaaDoor
