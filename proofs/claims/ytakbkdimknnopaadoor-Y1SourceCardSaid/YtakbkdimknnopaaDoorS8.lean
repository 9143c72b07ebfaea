/- The reference's provisions. -/
import Derived.Test.YtakbkdimknnopaaDoorS7
import Derived.Great.BuildSlice
namespace Go.Proofs.YtakbkdimknnopaaDoor
open Go.RowKit

def row0 (_s : Value) : List Value := [.string ⟨#[121, 49, 46, 115, 116, 97, 110, 100, 97, 114, 100, 46, 115, 105, 110, 103, 108, 101]⟩, .string ⟨#[112, 46, 115, 116, 97, 110, 100, 97, 114, 100, 46, 115, 105, 110, 103, 108, 101]⟩, .int .i64 730485, .int .i64 730850, .int .i64 730454, .int .i64 0, .string ⟨#[]⟩, .int .i64 1, .int .i64 4000, .int .i64 1, .slice none 0 0, .string ⟨#[]⟩, .int .i64 0, .int .i64 0, .int .i64 0]
def row1 (_s : Value) : List Value := [.string ⟨#[121, 49, 46, 115, 116, 97, 110, 100, 97, 114, 100, 46, 106, 111, 105, 110, 116]⟩, .string ⟨#[112, 46, 115, 116, 97, 110, 100, 97, 114, 100, 46, 106, 111, 105, 110, 116]⟩, .int .i64 730485, .int .i64 730850, .int .i64 730454, .int .i64 0, .string ⟨#[]⟩, .int .i64 1, .int .i64 7000, .int .i64 1, .slice none 0 0, .string ⟨#[]⟩, .int .i64 0, .int .i64 0, .int .i64 0]
def row2 (_s : Value) : List Value := [.string ⟨#[121, 49, 46, 99, 114, 101, 100, 105, 116, 46, 115, 105, 110, 103, 108, 101]⟩, .string ⟨#[112, 46, 99, 114, 101, 100, 105, 116, 46, 115, 105, 110, 103, 108, 101]⟩, .int .i64 730485, .int .i64 730850, .int .i64 730454, .int .i64 0, .string ⟨#[]⟩, .int .i64 1, .int .i64 500, .int .i64 1, .slice none 0 0, .string ⟨#[]⟩, .int .i64 0, .int .i64 0, .int .i64 0]
def row3 (_s : Value) : List Value := [.string ⟨#[121, 49, 46, 99, 114, 101, 100, 105, 116, 46, 106, 111, 105, 110, 116]⟩, .string ⟨#[112, 46, 99, 114, 101, 100, 105, 116, 46, 106, 111, 105, 110, 116]⟩, .int .i64 730485, .int .i64 730850, .int .i64 730454, .int .i64 0, .string ⟨#[]⟩, .int .i64 1, .int .i64 900, .int .i64 1, .slice none 0 0, .string ⟨#[]⟩, .int .i64 0, .int .i64 0, .int .i64 0]
def row4 (_s : Value) : List Value := [.string ⟨#[121, 49, 46, 112, 104, 97, 115, 101]⟩, .string ⟨#[112, 46, 112, 104, 97, 115, 101]⟩, .int .i64 730485, .int .i64 730850, .int .i64 730454, .int .i64 0, .string ⟨#[]⟩, .int .i64 1, .int .i64 60000, .int .i64 1, .slice none 0 0, .string ⟨#[]⟩, .int .i64 0, .int .i64 0, .int .i64 0]
def row5 (s : Value) : List Value := [.string ⟨#[121, 49, 46, 115, 99, 97, 108, 101, 46, 115, 105, 110, 103, 108, 101]⟩, .string ⟨#[115, 46, 115, 105, 110, 103, 108, 101]⟩, .int .i64 730485, .int .i64 730850, .int .i64 730454, .int .i64 0, .string ⟨#[]⟩, .int .i64 2, .int .i64 0, .int .i64 0, s, .string ⟨#[]⟩, .int .i64 0, .int .i64 0, .int .i64 0]
def row6 (s : Value) : List Value := [.string ⟨#[121, 49, 46, 115, 99, 97, 108, 101, 46, 106, 111, 105, 110, 116]⟩, .string ⟨#[115, 46, 106, 111, 105, 110, 116]⟩, .int .i64 730485, .int .i64 730850, .int .i64 730454, .int .i64 0, .string ⟨#[]⟩, .int .i64 2, .int .i64 0, .int .i64 0, s, .string ⟨#[]⟩, .int .i64 0, .int .i64 0, .int .i64 0]
def row7 (_s : Value) : List Value := [.string ⟨#[121, 49, 46, 108, 105, 110, 101, 46, 105, 110, 99, 111, 109, 101]⟩, .string ⟨#[108, 105, 110, 101, 46, 105, 110, 99, 111, 109, 101]⟩, .int .i64 730485, .int .i64 3652059, .int .i64 730454, .int .i64 0, .string ⟨#[]⟩, .int .i64 3, .int .i64 0, .int .i64 0, .slice none 0 0, .string ⟨#[105, 110, 46, 119, 97, 103, 101, 115, 32, 43, 32, 105, 110, 46, 105, 110, 116, 101, 114, 101, 115, 116, 32, 43, 32, 105, 110, 46, 103, 97, 105, 110, 115]⟩, .int .i64 5, .int .i64 1, .int .i64 1]
def row8 (_s : Value) : List Value := [.string ⟨#[121, 49, 46, 108, 105, 110, 101, 46, 100, 101, 100, 117, 99, 116]⟩, .string ⟨#[108, 105, 110, 101, 46, 100, 101, 100, 117, 99, 116]⟩, .int .i64 730485, .int .i64 3652059, .int .i64 730454, .int .i64 0, .string ⟨#[]⟩, .int .i64 3, .int .i64 0, .int .i64 0, .slice none 0 0, .string ⟨#[109, 97, 120, 40, 105, 102, 32, 105, 110, 46, 106, 111, 105, 110, 116, 32, 61, 32, 49, 32, 116, 104, 101, 110, 32, 112, 46, 115, 116, 97, 110, 100, 97, 114, 100, 46, 106, 111, 105, 110, 116, 32, 101, 108, 115, 101, 32, 112, 46, 115, 116, 97, 110, 100, 97, 114, 100, 46, 115, 105, 110, 103, 108, 101, 44, 32, 105, 110, 46, 105, 116, 101, 109, 105, 122, 101, 100, 41]⟩, .int .i64 1, .int .i64 1, .int .i64 1]
def row9 (_s : Value) : List Value := [.string ⟨#[121, 49, 46, 108, 105, 110, 101, 46, 116, 97, 120, 97, 98, 108, 101]⟩, .string ⟨#[108, 105, 110, 101, 46, 116, 97, 120, 97, 98, 108, 101]⟩, .int .i64 730485, .int .i64 3652059, .int .i64 730454, .int .i64 0, .string ⟨#[]⟩, .int .i64 3, .int .i64 0, .int .i64 0, .slice none 0 0, .string ⟨#[109, 97, 120, 40, 108, 105, 110, 101, 46, 105, 110, 99, 111, 109, 101, 32, 45, 32, 108, 105, 110, 101, 46, 100, 101, 100, 117, 99, 116, 44, 32, 48, 41]⟩, .int .i64 0, .int .i64 0, .int .i64 0]
def row10 (_s : Value) : List Value := [.string ⟨#[121, 49, 46, 108, 105, 110, 101, 46, 116, 97, 120]⟩, .string ⟨#[108, 105, 110, 101, 46, 116, 97, 120]⟩, .int .i64 730485, .int .i64 3652059, .int .i64 730454, .int .i64 0, .string ⟨#[]⟩, .int .i64 3, .int .i64 0, .int .i64 0, .slice none 0 0, .string ⟨#[105, 102, 32, 105, 110, 46, 106, 111, 105, 110, 116, 32, 61, 32, 49, 32, 116, 104, 101, 110, 32, 116, 97, 120, 40, 115, 46, 106, 111, 105, 110, 116, 44, 32, 108, 105, 110, 101, 46, 116, 97, 120, 97, 98, 108, 101, 41, 32, 101, 108, 115, 101, 32, 116, 97, 120, 40, 115, 46, 115, 105, 110, 103, 108, 101, 44, 32, 108, 105, 110, 101, 46, 116, 97, 120, 97, 98, 108, 101, 41]⟩, .int .i64 6, .int .i64 1, .int .i64 100]
def row11 (_s : Value) : List Value := [.string ⟨#[121, 49, 46, 108, 105, 110, 101, 46, 99, 114, 101, 100, 105, 116]⟩, .string ⟨#[108, 105, 110, 101, 46, 99, 114, 101, 100, 105, 116]⟩, .int .i64 730485, .int .i64 3652059, .int .i64 730454, .int .i64 0, .string ⟨#[]⟩, .int .i64 3, .int .i64 0, .int .i64 0, .slice none 0 0, .string ⟨#[109, 97, 120, 40, 40, 105, 102, 32, 105, 110, 46, 106, 111, 105, 110, 116, 32, 61, 32, 49, 32, 116, 104, 101, 110, 32, 112, 46, 99, 114, 101, 100, 105, 116, 46, 106, 111, 105, 110, 116, 32, 101, 108, 115, 101, 32, 112, 46, 99, 114, 101, 100, 105, 116, 46, 115, 105, 110, 103, 108, 101, 41, 32, 45, 32, 53, 37, 32, 42, 32, 109, 97, 120, 40, 108, 105, 110, 101, 46, 105, 110, 99, 111, 109, 101, 32, 45, 32, 112, 46, 112, 104, 97, 115, 101, 44, 32, 48, 41, 44, 32, 48, 41]⟩, .int .i64 2, .int .i64 1, .int .i64 1]
def row12 (_s : Value) : List Value := [.string ⟨#[121, 49, 46, 108, 105, 110, 101, 46, 100, 117, 101]⟩, .string ⟨#[108, 105, 110, 101, 46, 100, 117, 101]⟩, .int .i64 730485, .int .i64 3652059, .int .i64 730454, .int .i64 0, .string ⟨#[]⟩, .int .i64 3, .int .i64 0, .int .i64 0, .slice none 0 0, .string ⟨#[109, 97, 120, 40, 108, 105, 110, 101, 46, 116, 97, 120, 32, 45, 32, 108, 105, 110, 101, 46, 99, 114, 101, 100, 105, 116, 44, 32, 48, 41, 32, 45, 32, 105, 110, 46, 119, 105, 116, 104, 104, 101, 108, 100]⟩, .int .i64 5, .int .i64 1, .int .i64 100]
def provsList (s1 s2 : Value) : List Value := row0 s1 ++ row1 s1 ++ row2 s1 ++ row3 s1 ++ row4 s1 ++ row5 s1 ++ row6 s2 ++ row7 s1 ++ row8 s1 ++ row9 s1 ++ row10 s1 ++ row11 s1 ++ row12 s1
/-- A call that answers a new slice of the thirteen provisions; the scales are in new memory. -/
def GivesP (w : World) (e : Ending) (w' : World) : Prop :=
  ∃ B g1 c1 g2 c2, e = .returned (.slice (some ⟨B, 0, none⟩) 13 13) ∧ w.heap.size ≤ B ∧ B < w'.heap.size ∧ w'.heap[B]? = some (.cells (provsList (.slice (some ⟨g1, 0, none⟩) 4 c1) (.slice (some ⟨g2, 0, none⟩) 4 c2)).toArray 55 (0, 0)) ∧
    w'.ownsRow w.heap.size 49 4 (.slice (some ⟨g1, 0, none⟩) 4 c1) 4 (brks false) ∧ w'.ownsRow w.heap.size 49 4 (.slice (some ⟨g2, 0, none⟩) 4 c2) 4 (brks true) ∧ Below w.heap.size w w'
theorem slice_of {w : World} {base : Nat} {v : Value} {xs : List Value} (h : w.ownsRow base 49 4 v 4 xs) : ∃ g c, v = .slice (some ⟨g, 0, none⟩) 4 c := by
  rcases h.2 with ⟨_, h⟩ | ⟨g, c, _, h, _⟩
  · cases h
  · exact ⟨g, c, h⟩
theorem scl38_false (id key : ByteArray) (w : World) (hv : Vars w) : Calls Tryd.prog 38 #[.string id, .string key, .bool false] w fun e w' => ∃ g c, e = .returned (.agg #[.string id, .string key, .int .i64 730485, .int .i64 730850, .int .i64 730454, .int .i64 0, .string ⟨#[]⟩, .int .i64 2, .int .i64 0, .int .i64 0, .slice (some ⟨g, 0, none⟩) 4 c, .string ⟨#[]⟩, .int .i64 0, .int .i64 0, .int .i64 0]) ∧ w'.ownsRow w.heap.size 49 4 (.slice (some ⟨g, 0, none⟩) 4 c) 4 (brks false) ∧ Below w.heap.size w w' :=
  (scale38_false id key w hv).mono fun e w' ⟨v, he, ho, hb⟩ => by
    obtain ⟨g, c, rfl⟩ := slice_of ho
    exact ⟨g, c, he, ho, hb⟩
theorem scl38_true (id key : ByteArray) (w : World) (hv : Vars w) : Calls Tryd.prog 38 #[.string id, .string key, .bool true] w fun e w' => ∃ g c, e = .returned (.agg #[.string id, .string key, .int .i64 730485, .int .i64 730850, .int .i64 730454, .int .i64 0, .string ⟨#[]⟩, .int .i64 2, .int .i64 0, .int .i64 0, .slice (some ⟨g, 0, none⟩) 4 c, .string ⟨#[]⟩, .int .i64 0, .int .i64 0, .int .i64 0]) ∧ w'.ownsRow w.heap.size 49 4 (.slice (some ⟨g, 0, none⟩) 4 c) 4 (brks true) ∧ Below w.heap.size w w' :=
  (scale38_true id key w hv).mono fun e w' ⟨v, he, ho, hb⟩ => by
    obtain ⟨g, c, rfl⟩ := slice_of ho
    exact ⟨g, c, he, ho, hb⟩
theorem scl41_false (id key : ByteArray) (w : World) : Calls Tryd.prog 41 #[.string id, .string key, .bool false] w fun e w' => ∃ g c, e = .returned (.agg #[.string id, .string key, .int .i64 730485, .int .i64 730850, .int .i64 730454, .int .i64 0, .string ⟨#[]⟩, .int .i64 2, .int .i64 0, .int .i64 0, .slice (some ⟨g, 0, none⟩) 4 c, .string ⟨#[]⟩, .int .i64 0, .int .i64 0, .int .i64 0]) ∧ w'.ownsRow w.heap.size 49 4 (.slice (some ⟨g, 0, none⟩) 4 c) 4 (brks false) ∧ Below w.heap.size w w' :=
  (scale41_false id key w).mono fun e w' ⟨v, he, ho, hb⟩ => by
    obtain ⟨g, c, rfl⟩ := slice_of ho
    exact ⟨g, c, he, ho, hb⟩
theorem scl41_true (id key : ByteArray) (w : World) : Calls Tryd.prog 41 #[.string id, .string key, .bool true] w fun e w' => ∃ g c, e = .returned (.agg #[.string id, .string key, .int .i64 730485, .int .i64 730850, .int .i64 730454, .int .i64 0, .string ⟨#[]⟩, .int .i64 2, .int .i64 0, .int .i64 0, .slice (some ⟨g, 0, none⟩) 4 c, .string ⟨#[]⟩, .int .i64 0, .int .i64 0, .int .i64 0]) ∧ w'.ownsRow w.heap.size 49 4 (.slice (some ⟨g, 0, none⟩) 4 c) 4 (brks true) ∧ Below w.heap.size w w' :=
  (scale41_true id key w).mono fun e w' ⟨v, he, ho, hb⟩ => by
    obtain ⟨g, c, rfl⟩ := slice_of ho
    exact ⟨g, c, he, ho, hb⟩
def zero55 : Array Value := #[.string ⟨#[]⟩, .string ⟨#[]⟩, .int .i64 0, .int .i64 0, .int .i64 0, .int .i64 0, .string ⟨#[]⟩, .int .i64 0, .int .i64 0, .int .i64 0, .slice none 0 0, .string ⟨#[]⟩, .int .i64 0, .int .i64 0, .int .i64 0]
theorem info55 : (Tryd.prog.info? 55).map (fun i => (i.zero, i.size, i.bytes)) = some (some (.agg zero55), 15, 168) := by kernel_rfl
set_option maxRecDepth 100000 in
set_option maxHeartbeats 4000000 in
theorem rprovs (w : World) : Calls Tryd.prog 20 #[] w (GivesP w) := by
  obtain ⟨i0, hi, hz0, hz1, hz2⟩ := info_parts info55
  have hb : Below w.heap.size w w := Below.refl _ _
  go_enter Tryd.func20, Tryd.ntmps20
  go_wp2_with (first | (go_at_call 40; ((with_reducible refine (number40 _ _ _ _).mono ?_); rintro e w2 ⟨rfl, hbk⟩); (try replace ho1 := own_below ho1 hbk); (try replace ho2 := own_below ho2 hbk); replace hb := hb.trans (hbk.mono hb.size); clear hbk) | (go_at_call 41; ((with_reducible refine (scl41_false _ _ _).mono ?_); rintro e w2 ⟨g1, c1, rfl, ho1, hbk⟩); replace ho1 := own_mono ho1 hb.size; replace hb := hb.trans (hbk.mono hb.size); clear hbk) | (go_at_call 41; ((with_reducible refine (scl41_true _ _ _).mono ?_); rintro e w2 ⟨g2, c2, rfl, ho2, hbk⟩); replace ho2 := own_mono ho2 hb.size; replace ho1 := own_below ho1 hbk; replace hb := hb.trans (hbk.mono hb.size); clear hbk) | (go_at_call 42; ((with_reducible refine (rule42_0 _ _ _ _ _).mono ?_); rintro e w2 ⟨rfl, hbk⟩); (try replace ho1 := own_below ho1 hbk); (try replace ho2 := own_below ho2 hbk); replace hb := hb.trans (hbk.mono hb.size); clear hbk) | (go_at_call 42; ((with_reducible refine (rule42_1 _ _ _ _ _ _ ?hm).mono ?_); (case hm => decide); rintro e w2 ⟨rfl, hbk⟩); (try replace ho1 := own_below ho1 hbk); (try replace ho2 := own_below ho2 hbk); replace hb := hb.trans (hbk.mono hb.size); clear hbk))
  refine wp_buildSlice 39 55 13 _ rfl (provsList (.slice (some ⟨g1, 0, none⟩) 4 c1) (.slice (some ⟨g2, 0, none⟩) 4 c2)).toArray i0 (.agg zero55) Tryd.underlying39 hi hz0 (by rw [hz1]; decide) (by rw [hz1]; decide) (by rw [hz1]; kernel_rfl) ?_
  have hsz := hb.size
  have R1 := ho1.alloc (.cells (provsList (.slice (some ⟨g1, 0, none⟩) 4 c1) (.slice (some ⟨g2, 0, none⟩) 4 c2)).toArray 55)
  have R2 := ho2.alloc (.cells (provsList (.slice (some ⟨g1, 0, none⟩) 4 c1) (.slice (some ⟨g2, 0, none⟩) 4 c2)).toArray 55)
  have R3 := hb.alloc hsz (.cells (provsList (.slice (some ⟨g1, 0, none⟩) 4 c1) (.slice (some ⟨g2, 0, none⟩) 4 c2)).toArray 55)
  have HR : Hid (_ ∧ _ ∧ _) := ⟨R1, R2, R3⟩
  clear R1 R2 R3 ho1 ho2 hb hi hz0
  simp only [Act.put, List.setIfInBounds_toArray, List.set_cons_zero, List.set_cons_succ]
  go_wp2
  go_ret
  exact ⟨_, g1, c1, g2, c2, rfl, hsz, by simp, heap_new _ _, HR.out⟩

end Go.Proofs.YtakbkdimknnopaaDoor
