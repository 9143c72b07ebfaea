/- The walk of Y1Provs. -/
import Derived.Test.YtakbkdimknnopaaDoorT1
import Derived.Deep.CutRange
namespace Go.Proofs.YtakbkdimknnopaaDoor
open Go.RowKit

/-- A row of four brackets. -/
def Row4 (w : World) (j : Bool) (g c : Nat) : Prop := 4 ≤ c ∧ c ≤ maxLen ∧ ∃ cur : Array Value, w.heap[g]? = some (.cells cur 49 (0, 0)) ∧ cur.size = c * 4 ∧ cur.toList.take 16 = brks j
theorem row4_of {w : World} {base g c : Nat} {j : Bool} (h : w.ownsRow base 49 4 (.slice (some ⟨g, 0, none⟩) 4 c) 4 (brks j)) : base ≤ g ∧ g < w.heap.size ∧ Row4 w j g c := by
  rcases h.2 with ⟨_, h⟩ | ⟨g', c', cur, he, hg, hh, hc1, hc2, hsz, hcur⟩
  · cases h
  cases he
  exact ⟨hg, (Array.getElem?_eq_some_iff.1 hh).1, hc1, hc2, cur, hh, hsz, hcur⟩
theorem Row4.block {w w' : World} {j : Bool} {g c : Nat} (h : Row4 w j g c) (hb : w'.heap[g]? = w.heap[g]?) : Row4 w' j g c := by
  obtain ⟨a, b, cur, hh, r⟩ := h
  exact ⟨a, b, cur, hb.trans hh, r⟩
def brkF (j : Bool) (i k : Nat) : Int := match (brks j).getD (k * 4 + i) (.int .i64 0) with | .int _ n => n | _ => 0
theorem brks_at (j : Bool) (k : Nat) (hk : k < 4) : (brks j)[k * 4]? = some (.int .i64 (brkF j 0 k)) ∧ (brks j)[k * 4 + 1]? = some (.int .i64 (brkF j 1 k)) ∧ (brks j)[k * 4 + 2]? = some (.int .i64 (brkF j 2 k)) ∧ (brks j)[k * 4 + 3]? = some (.int .i64 (brkF j 3 k)) := by
  cases j <;>
  match k, hk with
  | 0, _ => exact ⟨rfl, rfl, rfl, rfl⟩
  | 1, _ => exact ⟨rfl, rfl, rfl, rfl⟩
  | 2, _ => exact ⟨rfl, rfl, rfl, rfl⟩
  | 3, _ => exact ⟨rfl, rfl, rfl, rfl⟩
theorem Row4.at {w : World} {j : Bool} {g c : Nat} (h : Row4 w j g c) (k : Nat) (hk : k < 4) : w.cell? ⟨g, k * 4, none⟩ = some (.int .i64 (brkF j 0 k)) ∧ w.cell? ⟨g, k * 4 + 1, none⟩ = some (.int .i64 (brkF j 1 k)) ∧ w.cell? ⟨g, k * 4 + 2, none⟩ = some (.int .i64 (brkF j 2 k)) ∧ w.cell? ⟨g, k * 4 + 3, none⟩ = some (.int .i64 (brkF j 3 k)) := by
  obtain ⟨_, _, cur, hh, _, ht⟩ := h
  have hc : ∀ i, i < 16 → w.cell? ⟨g, i, none⟩ = (brks j)[i]? := fun i hi => by
    rw [cell_of w g cur 49 hh, ← ht, List.getElem?_take_of_lt hi, Array.getElem?_toList]
  obtain ⟨a, b, c, d⟩ := brks_at j k hk
  exact ⟨(hc _ (by omega)).trans a, (hc _ (by omega)).trans b, (hc _ (by omega)).trans c, (hc _ (by omega)).trans d⟩
theorem Row4.froz {w : World} {j : Bool} {g c : Nat} (h : Row4 w j g c) (i : Nat) : w.frozen? ⟨g, i, none⟩ = false := by
  obtain ⟨_, _, cur, hh, _, _⟩ := h
  exact frozen_of_row w g i cur 49 hh
theorem Row4.lt {w : World} {j : Bool} {g c : Nat} (h : Row4 w j g c) : g < w.heap.size := by
  obtain ⟨_, _, cur, hh, _⟩ := h
  exact (Array.getElem?_eq_some_iff.1 hh).1
theorem Row4.later {w w' : World} {j : Bool} {g c : Nat} (h : Row4 w j g c) (hb : Below w.heap.size w w') : Row4 w' j g c := h.block (hb.block g h.lt)
theorem Row4.alike {w : World} {j : Bool} {g c g' c' : Nat} (h : Row4 w j g c) (h' : Row4 w j g' c') : Alike w (.slice (some ⟨g, 0, none⟩) 4 c) (.slice (some ⟨g', 0, none⟩) 4 c') := fun w' hb =>
  same_brackets 4 c c' g g' (brkF j 0) (brkF j 1) (brkF j 2) (brkF j 3) w' (by omega) (h.later hb).lt (h'.later hb).lt (h.later hb).at (h'.later hb).at
/-- What a list of provisions holds. -/
def PRow (w : World) (B g1 c1 g2 c2 : Nat) : Prop := w.heap[B]? = some (.cells (provsList (.slice (some ⟨g1, 0, none⟩) 4 c1) (.slice (some ⟨g2, 0, none⟩) 4 c2)).toArray 55 (0, 0)) ∧ Row4 w false g1 c1 ∧ Row4 w true g2 c2
theorem PRow.block {w w' : World} {B g1 c1 g2 c2 : Nat} (h : PRow w B g1 c1 g2 c2) (hb : ∀ x, x = B ∨ x = g1 ∨ x = g2 → w'.heap[x]? = w.heap[x]?) : PRow w' B g1 c1 g2 c2 :=
  ⟨(hb B (Or.inl rfl)).trans h.1, h.2.1.block (hb g1 (Or.inr (Or.inl rfl))), h.2.2.block (hb g2 (Or.inr (Or.inr rfl)))⟩
theorem PRow.later {w w' : World} {B g1 c1 g2 c2 : Nat} (h : PRow w B g1 c1 g2 c2) (hb : Below w.heap.size w w') : PRow w' B g1 c1 g2 c2 :=
  ⟨(hb.block B (Array.getElem?_eq_some_iff.1 h.1).1).trans h.1, h.2.1.later hb, h.2.2.later hb⟩
theorem PRow.same {w : World} {B g1 c1 g2 c2 B' g1' c1' g2' c2' : Nat} (h : PRow w B g1 c1 g2 c2) (h' : PRow w B' g1' c1' g2' c2') :
    Calls Tryd.prog 21 #[.slice (some ⟨B, 0, none⟩) 13 13, .slice (some ⟨B', 0, none⟩) 13 13] w fun e w' => e = .returned (.bool true) ∧ Below w.heap.size w w' :=
  same_provs g1 c1 g2 c2 g1' c1' g2' c2' B B' w (h.2.1.alike h'.2.1) (h.2.2.alike h'.2.2) h.1 h'.1
theorem tmodn_bd (i : Int) (n : Int) (hn : 0 < n) : -n < i.tmod n ∧ i.tmod n < n :=
  ⟨Int.lt_tmod_of_pos i hn, Int.tmod_lt_of_pos i hn⟩

theorem heap_set (w : World) (b i : Nat) (v : Value) (x : Nat) (h : x ≠ b) : (w.setCell ⟨b, i, none⟩ v).heap[x]? = w.heap[x]? := Below.heap_setCell _ _ _ _ h
theorem heap_set4 (w : World) (b i0 i1 i2 i3 : Nat) (v0 v1 v2 v3 : Value) (x : Nat) (h : x ≠ b) : ((((w.setCell ⟨b, i0, none⟩ v0).setCell ⟨b, i1, none⟩ v1).setCell ⟨b, i2, none⟩ v2).setCell ⟨b, i3, none⟩ v3).heap[x]? = w.heap[x]? := by
  rw [heap_set _ _ _ _ _ h, heap_set _ _ _ _ _ h, heap_set _ _ _ _ _ h, heap_set _ _ _ _ _ h]
theorem below_set4 {B : Nat} {a w : World} (hb : Below B a w) (b i0 i1 i2 i3 : Nat) (v0 v1 v2 v3 : Value) (h : B ≤ b) : Below B a ((((w.setCell ⟨b, i0, none⟩ v0).setCell ⟨b, i1, none⟩ v1).setCell ⟨b, i2, none⟩ v2).setCell ⟨b, i3, none⟩ v3) :=
  (((hb.setCell h _).setCell h _).setCell h _).setCell h _
/-- A block of n cells of provisions. -/
def Blk (w : World) (b n : Nat) : Prop := ∃ cur : Array Value, w.heap[b]? = some (.cells cur 55 (0, 0)) ∧ cur.size = n
theorem Blk.set {w : World} {b n : Nat} (h : Blk w b n) (i : Nat) (v : Value) : Blk (w.setCell ⟨b, i, none⟩ v) b n := by
  obtain ⟨cur, hh, hs⟩ := h
  exact ⟨_, heap_setCell_same w b i cur 55 v hh, by simp [hs]⟩
theorem Blk.at {w : World} {b n : Nat} (h : Blk w b n) (i : Nat) (hi : i < n) : ∃ v, w.cell? ⟨b, i, none⟩ = some v := by
  obtain ⟨cur, hh, hs⟩ := h
  exact ⟨cur[i], by rw [cell_of w b cur 55 hh, Array.getElem?_eq_getElem (by omega)]⟩
theorem Blk.froz {w : World} {b n : Nat} (h : Blk w b n) (i : Nat) : w.frozen? ⟨b, i, none⟩ = false := by
  obtain ⟨cur, hh, hs⟩ := h
  exact frozen_of_row w b i cur 55 hh
theorem Blk.own {w : World} {b base : Nat} (h : Blk w b 195) (hb : base ≤ b) : ∃ xs, w.ownsRow base 55 15 (.slice (some ⟨b, 0, none⟩) 13 13) 13 xs := by
  obtain ⟨cur, hh, hs⟩ := h
  exact ⟨cur.toList.take (13 * 15), by rw [List.length_take, Array.length_toList, hs]; omega, Or.inr ⟨b, 13, cur, rfl, hb, hh, by omega, by unfold maxLen; omega, by rw [hs], rfl⟩⟩
theorem Blk.block {w w' : World} {b n : Nat} (h : Blk w b n) (hb : w'.heap[b]? = w.heap[b]?) : Blk w' b n := by
  obtain ⟨cur, hh, hs⟩ := h
  exact ⟨cur, hb.trans hh, hs⟩
theorem PRow.ne1 {w : World} {B g1 c1 g2 c2 : Nat} (h : PRow w B g1 c1 g2 c2) : B ≠ g1 := by
  rintro rfl
  obtain ⟨_, _, cur, hh, _⟩ := h.2.1
  have h9 := Option.some.inj (h.1.symm.trans hh)
  injection h9 with _ h8
  exact absurd h8 (by decide)
theorem PRow.ne2 {w : World} {B g1 c1 g2 c2 : Nat} (h : PRow w B g1 c1 g2 c2) : B ≠ g2 := by
  rintro rfl
  obtain ⟨_, _, cur, hh, _⟩ := h.2.2
  have h9 := Option.some.inj (h.1.symm.trans hh)
  injection h9 with _ h8
  exact absurd h8 (by decide)
theorem PRow.lt {w : World} {B g1 c1 g2 c2 : Nat} (h : PRow w B g1 c1 g2 c2) : ∀ x, x = B ∨ x = g1 ∨ x = g2 → x < w.heap.size := by
  rintro x (rfl | rfl | rfl)
  · exact (Array.getElem?_eq_some_iff.1 h.1).1
  · exact h.2.1.lt
  · exact h.2.2.lt
theorem PRow.blk {w : World} {B g1 c1 g2 c2 : Nat} (h : PRow w B g1 c1 g2 c2) : Blk w B 195 := ⟨_, h.1, by kernel_rfl⟩
theorem scale_at (g1 c1 g2 c2 a : Nat) (ha : a < 13) (h5 : a ≠ 5) (h6 : a ≠ 6) : (provsList (.slice (some ⟨g1, 0, none⟩) 4 c1) (.slice (some ⟨g2, 0, none⟩) 4 c2)).toArray[a * 15 + 10]? = some (.slice none 0 0) :=
  match a, ha, h5, h6 with
  | 0, _, _, _ => by kernel_rfl
  | 1, _, _, _ => by kernel_rfl
  | 2, _, _, _ => by kernel_rfl
  | 3, _, _, _ => by kernel_rfl
  | 4, _, _, _ => by kernel_rfl
  | 5, _, h5, h6 => absurd rfl h5
  | 6, _, h5, h6 => absurd rfl h6
  | 7, _, _, _ => by kernel_rfl
  | 8, _, _, _ => by kernel_rfl
  | 9, _, _, _ => by kernel_rfl
  | 10, _, _, _ => by kernel_rfl
  | 11, _, _, _ => by kernel_rfl
  | 12, _, _, _ => by kernel_rfl
theorem scale_at5 (g1 c1 g2 c2 : Nat) : (provsList (.slice (some ⟨g1, 0, none⟩) 4 c1) (.slice (some ⟨g2, 0, none⟩) 4 c2)).toArray[5 * 15 + 10]? = some (.slice (some ⟨g1, 0, none⟩) 4 c1) := by kernel_rfl
theorem scale_at6 (g1 c1 g2 c2 : Nat) : (provsList (.slice (some ⟨g1, 0, none⟩) 4 c1) (.slice (some ⟨g2, 0, none⟩) 4 c2)).toArray[6 * 15 + 10]? = some (.slice (some ⟨g2, 0, none⟩) 4 c2) := by kernel_rfl

theorem heap_set15 (w : World) (b i0 i1 i2 i3 i4 i5 i6 i7 i8 i9 i10 i11 i12 i13 i14 : Nat) (v0 v1 v2 v3 v4 v5 v6 v7 v8 v9 v10 v11 v12 v13 v14 : Value) (x : Nat) (h : x ≠ b) : (((((((((((((((w.setCell ⟨b, i0, none⟩ v0).setCell ⟨b, i1, none⟩ v1).setCell ⟨b, i2, none⟩ v2).setCell ⟨b, i3, none⟩ v3).setCell ⟨b, i4, none⟩ v4).setCell ⟨b, i5, none⟩ v5).setCell ⟨b, i6, none⟩ v6).setCell ⟨b, i7, none⟩ v7).setCell ⟨b, i8, none⟩ v8).setCell ⟨b, i9, none⟩ v9).setCell ⟨b, i10, none⟩ v10).setCell ⟨b, i11, none⟩ v11).setCell ⟨b, i12, none⟩ v12).setCell ⟨b, i13, none⟩ v13).setCell ⟨b, i14, none⟩ v14).heap[x]? = w.heap[x]? := by
  rw [heap_set _ _ _ _ _ h, heap_set _ _ _ _ _ h, heap_set _ _ _ _ _ h, heap_set _ _ _ _ _ h, heap_set _ _ _ _ _ h, heap_set _ _ _ _ _ h, heap_set _ _ _ _ _ h, heap_set _ _ _ _ _ h, heap_set _ _ _ _ _ h, heap_set _ _ _ _ _ h, heap_set _ _ _ _ _ h, heap_set _ _ _ _ _ h, heap_set _ _ _ _ _ h, heap_set _ _ _ _ _ h, heap_set _ _ _ _ _ h]

set_option maxRecDepth 100000 in
set_option maxHeartbeats 4000000 in
theorem law_provs (i k : Int) (w : World) (hv : Vars w) :
    Calls Tryd.prog 5 #[.int .i64 i, .int .i64 k] w fun e w' => e = .returned (.bool true) ∧ Below w.heap.size w w' := by
  obtain ⟨b1, b2⟩ := tmodn_bd i 13 (by omega)
  obtain ⟨b3, b4⟩ := tmodn_bd k 4 (by omega)
  go_enter Tryd.func5, Tryd.ntmps5
  go_wp2_with fail
  refine (first_any _ hv).mono ?_
  rintro e w1 ⟨rfl, hb⟩
  go_wp2_with fail
  refine (yprovs _ (hv.below hb)).mono ?_
  rintro e w2 ⟨B1, g1, c1, g2, c2, rfl, hB1, hB1l, hh1, ho1, ho2, hb2⟩
  obtain ⟨p1, p2, r1⟩ := row4_of ho1
  obtain ⟨p3, p4, r2⟩ := row4_of ho2
  have hP1 : PRow w2 B1 g1 c1 g2 c2 := ⟨hh1, r1, r2⟩
  have wB1 : w.heap.size ≤ B1 := Nat.le_trans hb.size hB1
  have wg1 : w.heap.size ≤ g1 := Nat.le_trans hb.size p1
  have wg2 : w.heap.size ≤ g2 := Nat.le_trans hb.size p3
  replace hb := hb.trans (hb2.mono hb.size)
  clear hh1 ho1 ho2 r1 r2 hb2 hB1 p1 p3
  go_wp2_with fail
  refine (rprovs _).mono ?_
  rintro e w3 ⟨B2, h1, d1, h2, d2, rfl, hB2, hB2l, hh2, ho1, ho2, hb2⟩
  obtain ⟨q1, q2, r1⟩ := row4_of ho1
  obtain ⟨q3, q4, r2⟩ := row4_of ho2
  have hP2 : PRow w3 B2 h1 d1 h2 d2 := ⟨hh2, r1, r2⟩
  replace hP1 := hP1.later hb2
  have nn1 : (∀ x, x = B2 ∨ x = h1 ∨ x = h2 → x ≠ B1 ∧ x ≠ g1 ∧ x ≠ g2 ∧ x < w3.heap.size) ∧ B1 < w3.heap.size ∧ g1 < w3.heap.size ∧ g2 < w3.heap.size := by
    have := hb2.size
    exact ⟨by intro x hx; omega, by omega, by omega, by omega⟩
  have HN1 : Hid ((∀ x, x = B2 ∨ x = h1 ∨ x = h2 → x ≠ B1 ∧ x ≠ g1 ∧ x ≠ g2 ∧ x < w3.heap.size) ∧ B1 < w3.heap.size ∧ g1 < w3.heap.size ∧ g2 < w3.heap.size) := nn1
  replace hb := hb.trans (hb2.mono hb.size)
  clear hh2 ho1 ho2 r1 r2 hb2 hB2 q1 q3 nn1 p2 p4 hB1l hB2l q2 q4
  go_wp2_with fail
  refine (hP1.same hP2).mono ?_
  rintro e w4 ⟨rfl, hb2⟩
  replace hP1 := hP1.later hb2
  replace hP2 := hP2.later hb2
  have s34 := hb2.size
  replace hb := hb.trans (hb2.mono hb.size)
  clear hb2
  go_wp2_with fail
  refine (scale_false _ (hv.below hb)).mono ?_
  rintro e w5 ⟨v, rfl, ho, hb2⟩
  obtain ⟨o1, e1, rfl⟩ := slice_of ho
  obtain ⟨t1, t2, hO1⟩ := row4_of ho
  replace hP1 := hP1.later hb2
  replace hP2 := hP2.later hb2
  have s45 := hb2.size
  have wo1 : w.heap.size ≤ o1 := Nat.le_trans hb.size t1
  replace hb := hb.trans (hb2.mono hb.size)
  clear hb2 ho
  go_wp2_with fail
  refine (scale_true _ (hv.below hb)).mono ?_
  rintro e w6 ⟨v, rfl, ho, hb2⟩
  obtain ⟨o2, e2, rfl⟩ := slice_of ho
  obtain ⟨u1, u2, hO2⟩ := row4_of ho
  replace hO1 := hO1.later hb2
  replace hP1 := hP1.later hb2
  replace hP2 := hP2.later hb2
  have s56 := hb2.size
  have wo2 : w.heap.size ≤ o2 := Nat.le_trans hb.size u1
  replace hb := hb.trans (hb2.mono hb.size)
  clear hb2 ho
  go_wp2_with fail
  refine (rscale_false _).mono ?_
  rintro e w7 ⟨v, rfl, ho, hb2⟩
  obtain ⟨x1, f1, rfl⟩ := slice_of ho
  obtain ⟨_, _, hX⟩ := row4_of ho
  replace hO1 := hO1.later hb2
  replace hO2 := hO2.later hb2
  replace hP1 := hP1.later hb2
  replace hP2 := hP2.later hb2
  replace hb := hb.trans (hb2.mono hb.size)
  clear hb2 ho
  go_wp2_with fail
  refine (hO1.alike hX w7 (Below.refl _ _)).mono ?_
  rintro e w8 ⟨rfl, hb2⟩
  replace hO1 := hO1.later hb2
  replace hO2 := hO2.later hb2
  replace hP1 := hP1.later hb2
  replace hP2 := hP2.later hb2
  replace hb := hb.trans (hb2.mono hb.size)
  clear hb2 hX
  go_wp2_with fail
  refine (rscale_true _).mono ?_
  rintro e w9 ⟨v, rfl, ho, hb2⟩
  obtain ⟨x2, f2, rfl⟩ := slice_of ho
  obtain ⟨_, _, hX⟩ := row4_of ho
  replace hO1 := hO1.later hb2
  replace hO2 := hO2.later hb2
  replace hP1 := hP1.later hb2
  replace hP2 := hP2.later hb2
  replace hb := hb.trans (hb2.mono hb.size)
  clear hb2 ho
  go_wp2_with fail
  refine (hO2.alike hX w9 (Below.refl _ _)).mono ?_
  rintro e w10 ⟨rfl, hb2⟩
  replace hO1 := hO1.later hb2
  replace hO2 := hO2.later hb2
  replace hP1 := hP1.later hb2
  replace hP2 := hP2.later hb2
  replace hb := hb.trans (hb2.mono hb.size)
  clear hb2 hX
  go_upto_region 13 with (go_at_call 25; refine (span_any _).mono ?_; rintro e w' ⟨rfl, rfl⟩)
  have hal : Below w10.heap.size w10 ((w10.alloc (.cells #[.int .i64 730485, .int .i64 730850] 46)).alloc (.cells #[.int .i64 730485, .int .i64 730850] 46)) := ((Below.refl _ _).alloc (Nat.le_refl _) _).alloc (by simp) _
  replace hO1 := hO1.later hal
  replace hO2 := hO2.later hal
  replace hP1 := hP1.later hal
  replace hP2 := hP2.later hal
  replace hb := hb.trans (hal.mono hb.size)
  obtain ⟨W, hW⟩ : ∃ W, W = ((w10.alloc (.cells #[.int .i64 730485, .int .i64 730850] 46)).alloc (.cells #[.int .i64 730485, .int .i64 730850] 46)) := ⟨_, rfl⟩
  rw [← hW] at hO1 hO2 hP1 hP2 hb ⊢
  clear hW hal
  obtain ⟨a, ha⟩ : ∃ a : Nat, (i.tmod 13 + 13) % 13 = (a : Int) := ⟨((i.tmod 13 + 13) % 13).toNat, by omega⟩
  obtain ⟨q, hq⟩ : ∃ q : Nat, (k.tmod 4 + 4) % 4 = (q : Int) := ⟨((k.tmod 4 + 4) % 4).toNat, by omega⟩
  have ha13 : a < 13 := by omega
  have hq4 : q < 4 := by omega
  rw [ha, hq]
  clear ha hq b1 b2 b3 b4
  have nO : o1 ≠ o2 ∧ o1 ≠ B1 ∧ o1 ≠ g1 ∧ o1 ≠ g2 ∧ (∀ x, x = B2 ∨ x = h1 ∨ x = h2 → x ≠ B1 ∧ x ≠ g1 ∧ x ≠ g2 ∧ x ≠ o1 ∧ x ≠ o2) ∧ o2 ≠ B1 ∧ o2 ≠ g1 ∧ o2 ≠ g2 := by
    have hq := HN1.out
    obtain ⟨m1, m2, m3, m4⟩ := hq
    refine ⟨by omega, by omega, by omega, by omega, fun x hx => ?_, by omega, by omega, by omega⟩
    obtain ⟨n1, n2, n3, n4⟩ := m1 x hx
    exact ⟨n1, n2, n3, by omega, by omega⟩
  clear HN1 s34 s45 s56 t1 t2 u1 u2
  have NO : Hid (_ ∧ _) := nO
  clear nO
  obtain ⟨k0, k1, k2, k3⟩ := hO1.at q hq4
  have z0 := hO1.froz (q * 4)
  have z1 := hO1.froz (q * 4 + 1)
  have z2 := hO1.froz (q * 4 + 2)
  have z3 := hO1.froz (q * 4 + 3)
  go_upto_region 14 with (fail)
  obtain ⟨W1, hW1⟩ : ∃ W1, W1 = ((((W.setCell ⟨o1, q * 4, none⟩ (.int .i64 0)).setCell ⟨o1, q * 4 + 1, none⟩ (.int .i64 0)).setCell ⟨o1, q * 4 + 2, none⟩ (.int .i64 0)).setCell ⟨o1, q * 4 + 3, none⟩ (.int .i64 0)) := ⟨_, rfl⟩
  rw [← hW1]
  have e1f : ∀ x, x ≠ o1 → W1.heap[x]? = W.heap[x]? := fun x hx => by rw [hW1]; exact heap_set4 _ _ _ _ _ _ _ _ _ _ x hx
  replace hb : Below w.heap.size w W1 := by rw [hW1]; exact below_set4 hb _ _ _ _ _ _ _ _ _ wo1
  have hq := NO.out
  obtain ⟨n1, n2, n3, n4, n5, n6, n7, n8⟩ := hq
  replace hO2 := hO2.block (e1f o2 (Ne.symm n1))
  replace hP1 := hP1.block (w' := W1) (by rintro x (rfl | rfl | rfl) <;> exact e1f _ (by omega))
  replace hP2 := hP2.block (w' := W1) (fun x hx => e1f _ (n5 x hx).2.2.2.1)
  clear e1f hW1 hO1 k0 k1 k2 k3 z0 z1 z2 z3 n1 n2 n3 n4 n5 n6 n7 n8
  obtain ⟨p, hp⟩ : ∃ p : Nat, (3 : Int) - (q : Int) = (p : Int) := ⟨(3 - (q : Int)).toNat, by omega⟩
  have hp4 : p < 4 := by omega
  obtain ⟨k0, k1, k2, k3⟩ := hO2.at p hp4
  have z0 := hO2.froz (p * 4)
  have z1 := hO2.froz (p * 4 + 1)
  have z2 := hO2.froz (p * 4 + 2)
  have z3 := hO2.froz (p * 4 + 3)
  go_upto_region 15 with (fail)
  obtain ⟨W2, hW2⟩ : ∃ W2, W2 = ((((W1.setCell ⟨o2, p * 4, none⟩ (.int .i64 0)).setCell ⟨o2, p * 4 + 1, none⟩ (.int .i64 0)).setCell ⟨o2, p * 4 + 2, none⟩ (.int .i64 0)).setCell ⟨o2, p * 4 + 3, none⟩ (.int .i64 0)) := ⟨_, rfl⟩
  rw [← hW2]
  have e1f : ∀ x, x ≠ o2 → W2.heap[x]? = W1.heap[x]? := fun x hx => by rw [hW2]; exact heap_set4 _ _ _ _ _ _ _ _ _ _ x hx
  replace hb : Below w.heap.size w W2 := by rw [hW2]; exact below_set4 hb _ _ _ _ _ _ _ _ _ wo2
  have hq := NO.out
  obtain ⟨n1, n2, n3, n4, n5, n6, n7, n8⟩ := hq
  replace hP1 := hP1.block (w' := W2) (by rintro x (rfl | rfl | rfl) <;> exact e1f _ (by omega))
  replace hP2 := hP2.block (w' := W2) (fun x hx => e1f _ (n5 x hx).2.2.2.2)
  have NP : Hid (∀ x, x = B2 ∨ x = h1 ∨ x = h2 → x ≠ B1 ∧ x ≠ g1 ∧ x ≠ g2) := fun x hx => ⟨(n5 x hx).1, (n5 x hx).2.1, (n5 x hx).2.2.1⟩
  clear e1f hW2 hO2 k0 k1 k2 k3 z0 z1 z2 z3 n1 n2 n3 n4 n5 n6 n7 n8 hp hp4 NO
  have cB := hP1.1
  rcases (by omega : a = 5 ∨ a = 6 ∨ (a ≠ 5 ∧ a ≠ 6)) with h5 | h6 | ⟨h5, h6⟩
  · have ca : W2.cell? ⟨B1, a * 15 + 10, none⟩ = some (.slice (some ⟨g1, 0, none⟩) 4 c1) := by rw [cell_of W2 B1 _ 55 hP1.1, h5]; exact scale_at5 _ _ _ _
    have hlt : ((q : Int) < 4) = True := by rw [eq_iff_iff]; exact ⟨fun _ => trivial, fun _ => by omega⟩
    clear cB h5
    have hBk := hP1.blk
    have NB : Hid (B1 ≠ g1) := hP1.ne1
    obtain ⟨k0, k1, k2, k3⟩ := hP1.2.1.at q hq4
    have z0 := hP1.2.1.froz (q * 4)
    have z1 := hP1.2.1.froz (q * 4 + 1)
    have z2 := hP1.2.1.froz (q * 4 + 2)
    have z3 := hP1.2.1.froz (q * 4 + 3)
    go_upto_region 17 with (fail)
    obtain ⟨W3, hW3⟩ : ∃ W3, W3 = ((((W2.setCell ⟨g1, q * 4, none⟩ (.int .i64 9)).setCell ⟨g1, q * 4 + 1, none⟩ (.int .i64 1)).setCell ⟨g1, q * 4 + 2, none⟩ (.int .i64 0)).setCell ⟨g1, q * 4 + 3, none⟩ (.int .i64 0)) := ⟨_, rfl⟩
    rw [← hW3]
    have e1f : ∀ x, x ≠ g1 → W3.heap[x]? = W2.heap[x]? := fun x hx => by rw [hW3]; exact heap_set4 _ _ _ _ _ _ _ _ _ _ x hx
    replace hb : Below w.heap.size w W3 := by rw [hW3]; exact below_set4 hb _ _ _ _ _ _ _ _ _ wg1
    replace hBk : Blk W3 B1 195 := hBk.block (e1f B1 NB.out)
    replace hP2 := hP2.block (w' := W3) (fun x hx => e1f _ (NP.out x hx).2.1)
    clear e1f hW3 k0 k1 k2 k3 z0 z1 z2 z3 ca hP1 NB hlt
    obtain ⟨v0, k0⟩ := hBk.at (a * 15) (by omega)
    have z0 := hBk.froz (a * 15)
    obtain ⟨v1, k1⟩ := hBk.at (a * 15 + 1) (by omega)
    have z1 := hBk.froz (a * 15 + 1)
    obtain ⟨v2, k2⟩ := hBk.at (a * 15 + 2) (by omega)
    have z2 := hBk.froz (a * 15 + 2)
    obtain ⟨v3, k3⟩ := hBk.at (a * 15 + 3) (by omega)
    have z3 := hBk.froz (a * 15 + 3)
    obtain ⟨v4, k4⟩ := hBk.at (a * 15 + 4) (by omega)
    have z4 := hBk.froz (a * 15 + 4)
    obtain ⟨v5, k5⟩ := hBk.at (a * 15 + 5) (by omega)
    have z5 := hBk.froz (a * 15 + 5)
    obtain ⟨v6, k6⟩ := hBk.at (a * 15 + 6) (by omega)
    have z6 := hBk.froz (a * 15 + 6)
    obtain ⟨v7, k7⟩ := hBk.at (a * 15 + 7) (by omega)
    have z7 := hBk.froz (a * 15 + 7)
    obtain ⟨v8, k8⟩ := hBk.at (a * 15 + 8) (by omega)
    have z8 := hBk.froz (a * 15 + 8)
    obtain ⟨v9, k9⟩ := hBk.at (a * 15 + 9) (by omega)
    have z9 := hBk.froz (a * 15 + 9)
    obtain ⟨v10, k10⟩ := hBk.at (a * 15 + 10) (by omega)
    have z10 := hBk.froz (a * 15 + 10)
    obtain ⟨v11, k11⟩ := hBk.at (a * 15 + 11) (by omega)
    have z11 := hBk.froz (a * 15 + 11)
    obtain ⟨v12, k12⟩ := hBk.at (a * 15 + 12) (by omega)
    have z12 := hBk.froz (a * 15 + 12)
    obtain ⟨v13, k13⟩ := hBk.at (a * 15 + 13) (by omega)
    have z13 := hBk.froz (a * 15 + 13)
    obtain ⟨v14, k14⟩ := hBk.at (a * 15 + 14) (by omega)
    have z14 := hBk.froz (a * 15 + 14)
    go_upto_region 18 with (fail)
    obtain ⟨W4, hW4⟩ : ∃ W4, W4 = (((((((((((((((W3.setCell ⟨B1, a * 15, none⟩ (.string ⟨#[111, 118, 101, 114]⟩)).setCell ⟨B1, a * 15 + 1, none⟩ (.string ⟨#[]⟩)).setCell ⟨B1, a * 15 + 2, none⟩ (.int .i64 0)).setCell ⟨B1, a * 15 + 3, none⟩ (.int .i64 0)).setCell ⟨B1, a * 15 + 4, none⟩ (.int .i64 0)).setCell ⟨B1, a * 15 + 5, none⟩ (.int .i64 0)).setCell ⟨B1, a * 15 + 6, none⟩ (.string ⟨#[]⟩)).setCell ⟨B1, a * 15 + 7, none⟩ (.int .i64 0)).setCell ⟨B1, a * 15 + 8, none⟩ (.int .i64 0)).setCell ⟨B1, a * 15 + 9, none⟩ (.int .i64 0)).setCell ⟨B1, a * 15 + 10, none⟩ (.slice none 0 0)).setCell ⟨B1, a * 15 + 11, none⟩ (.string ⟨#[]⟩)).setCell ⟨B1, a * 15 + 12, none⟩ (.int .i64 0)).setCell ⟨B1, a * 15 + 13, none⟩ (.int .i64 0)).setCell ⟨B1, a * 15 + 14, none⟩ (.int .i64 0)) := ⟨_, rfl⟩
    rw [← hW4]
    have HB4 : Hid (Below w.heap.size w W4) := by rw [hW4]; exact (((((((((((((((hb.setCell wB1 _).setCell wB1 _).setCell wB1 _).setCell wB1 _).setCell wB1 _).setCell wB1 _).setCell wB1 _).setCell wB1 _).setCell wB1 _).setCell wB1 _).setCell wB1 _).setCell wB1 _).setCell wB1 _).setCell wB1 _).setCell wB1 _)
    have e1f : ∀ x, x ≠ B1 → W4.heap[x]? = W3.heap[x]? := fun x hx => by rw [hW4]; exact heap_set15 _ _ _ _ _ _ _ _ _ _ _ _ _ _ _ _ _ _ _ _ _ _ _ _ _ _ _ _ _ _ _ _  x hx
    replace hBk : Blk W4 B1 195 := by rw [hW4]; exact (((((((((((((((hBk.set _ _).set _ _).set _ _).set _ _).set _ _).set _ _).set _ _).set _ _).set _ _).set _ _).set _ _).set _ _).set _ _).set _ _).set _ _)
    have hP4 : PRow W4 B2 h1 d1 h2 d2 := hP2.block (fun x hx => e1f x (NP.out x hx).1)
    have hlt := hP4.lt
    obtain ⟨xs, hown⟩ := hBk.own (base := w.heap.size) wB1
    have hz := HB4.out.size
    obtain ⟨i0, hi, hz0, hz1, hz2⟩ := info_parts info55
    have HP4 : Hid (PRow W4 B2 h1 d1 h2 d2) := hP4
    have HLT : Hid (∀ x, x = B2 ∨ x = h1 ∨ x = h2 → x < W4.heap.size) := hlt
    clear k0 z0 k1 z1 k2 z2 k3 z3 k4 z4 k5 z5 k6 z6 k7 z7 k8 z8 k9 z9 k10 z10 k11 z11 k12 z12 k13 z13 k14 z14 hW4 hb e1f hP2 hP4 hlt hBk
    clear v0 v1 v2 v3 v4 v5 v6 v7 v8 v9 v10 v11 v12 v13 v14
    go_wp2_with (at_builtin; refine wpList_append_own _ rfl _ _ 39 rfl w.heap.size 55 i0 (.agg zero55) 15 168 Tryd.underlying39 hi hz0 hz1 hz2 rfl (by decide) _ 13 xs rfl (hown.alloc _) ⟨W4.heap.size, 0, none⟩ 1 1 zero55.toList rfl rfl ?c1 ?c2 ?c3 ?c4 ?c5 ?_)
    case c1 => exact World.news_of_block (cs := zero55) (t := 55) (fr := (0, 0)) (heap_at _ _ _ (by simp))
    case c2 => simp [Value.oneCell', zero55]
    case c3 => unfold maxLen; omega
    case c4 => omega
    case c5 => simp; omega
    intro v' W5 hown5 hgrow _
    have hb5 : Below w.heap.size w W5 := (HB4.out.alloc hz _).grown hgrow (by simp; omega) (fun j hj => by cases hj; exact wB1)
    have hP5 : PRow W5 B2 h1 d1 h2 d2 := HP4.out.block (fun x hx => by
      have l1 := HLT.out x hx
      have l2 := (NP.out x hx).1
      rw [hgrow.block x (by simp; omega) (by simp [Value.ownBlock]; omega), Below.heap_alloc _ _ _ (by omega)])
    have hex : ∃ g3 cap3, v' = .slice (some ⟨g3, 0, none⟩) 14 cap3 := by
      rcases hown5.2 with ⟨_, h⟩ | ⟨g3, cap3, _, h, _⟩
      · cases h
      · exact ⟨g3, cap3, h⟩
    obtain ⟨g3, cap3, hv3⟩ := hex
    rw [hv3]
    have HV5 : Hid (Vars W5) := hv.below hb5
    have HB5 : Hid (Below w.heap.size w W5) := hb5
    have HP5 : Hid (PRow W5 B2 h1 d1 h2 d2) := hP5
    have HLT5 : Hid (∀ x, x = B2 ∨ x = h1 ∨ x = h2 → x < W5.heap.size) := hP5.lt
    clear hv3 hown5 hgrow hown hb5 hP5 HB4 HP4 HLT hz i0 hi hz0 hz1 hz2
    go_wp2_with fail
    refine (names13 _).mono ?_
    rintro e W6 ⟨Ba, rfl, hBa1, hBa2, hBa3, hb6⟩
    rw [show nameList.length = 7 from rfl]
    have HB6 : Hid (Below w.heap.size w W6) := HB5.out.trans (hb6.mono HB5.out.size)
    have HP6 : Hid (PRow W6 B2 h1 d1 h2 d2) := HP5.out.later hb6
    have kq : W6.cell? ⟨Ba, q, none⟩ = some (.string (nameList.getD q ByteArray.empty)) := (cell_of W6 Ba _ _ hBa3 q).trans (txts_at _ _ (by simp [nameList]; omega))
    have zq : W6.frozen? ⟨Ba, q, none⟩ = false := frozen_of_row W6 Ba q _ 9 hBa3
    have wBa : w.heap.size ≤ Ba := Nat.le_trans HB5.out.size hBa1
    generalize nameList.getD q ByteArray.empty = nq at kq
    clear hBa2 hBa3 hb6
    go_wp2_with fail
    obtain ⟨W7, hW7⟩ : ∃ W7, W7 = (W6.setCell ⟨Ba, q, none⟩ (.string ⟨#[111, 118, 101, 114]⟩)) := ⟨_, rfl⟩
    rw [← hW7]
    have hb7 : Below w.heap.size w W7 := by rw [hW7]; exact HB6.out.setCell wBa _
    have hP7 : PRow W7 B2 h1 d1 h2 d2 := HP6.out.block (fun x hx => by
      have l1 := HLT5.out x hx
      rw [hW7]; exact heap_set _ _ _ _ _ (by omega))
    clear hW7 kq zq HB6 HP6 HB5 HP5 HLT5 hBa1
    refine (yprovs _ (hv.below hb7)).mono ?_
    rintro e W8 ⟨B3, g4, c4, g5, c5, rfl, hB3, hB3l, hh3, ho1, ho2, hb2⟩
    obtain ⟨_, _, r1⟩ := row4_of ho1
    obtain ⟨_, _, r2⟩ := row4_of ho2
    have hP3 : PRow W8 B3 g4 c4 g5 c5 := ⟨hh3, r1, r2⟩
    have hP8 : PRow W8 B2 h1 d1 h2 d2 := hP7.later hb2
    replace hb := hb7.trans (hb2.mono hb7.size)
    clear hh3 ho1 ho2 r1 r2 hb2 hB3 hB3l hP7 hb7
    go_wp2_with fail
    refine (hP3.same hP8).mono ?_
    rintro e W9 ⟨rfl, hb2⟩
    replace hb := hb.trans (hb2.mono hb.size)
    clear hb2 hP3 hP8
    go_wp2_with fail
    refine (scale_false _ (hv.below hb)).mono ?_
    rintro e W10 ⟨v, rfl, ho, hb2⟩
    obtain ⟨o3, e3, rfl⟩ := slice_of ho
    obtain ⟨_, _, hO⟩ := row4_of ho
    replace hb := hb.trans (hb2.mono hb.size)
    clear hb2 ho
    go_wp2_with fail
    refine (rscale_false _).mono ?_
    rintro e W11 ⟨v, rfl, ho, hb2⟩
    obtain ⟨o4, e4, rfl⟩ := slice_of ho
    obtain ⟨_, _, hX⟩ := row4_of ho
    replace hO := hO.later hb2
    replace hb := hb.trans (hb2.mono hb.size)
    clear hb2 ho
    go_wp2_with fail
    refine (hO.alike hX W11 (Below.refl _ _)).mono ?_
    rintro e W12 ⟨rfl, hb2⟩
    replace hb := hb.trans (hb2.mono hb.size)
    clear hb2 hX hO
    go_wp2_with fail
    refine (scale_true _ (hv.below hb)).mono ?_
    rintro e W13 ⟨v, rfl, ho, hb2⟩
    obtain ⟨o5, e5, rfl⟩ := slice_of ho
    obtain ⟨_, _, hO⟩ := row4_of ho
    replace hb := hb.trans (hb2.mono hb.size)
    clear hb2 ho
    go_wp2_with fail
    refine (rscale_true _).mono ?_
    rintro e W14 ⟨v, rfl, ho, hb2⟩
    obtain ⟨o6, e6, rfl⟩ := slice_of ho
    obtain ⟨_, _, hX⟩ := row4_of ho
    replace hO := hO.later hb2
    replace hb := hb.trans (hb2.mono hb.size)
    clear hb2 ho
    go_wp2_with fail
    refine (hO.alike hX W14 (Below.refl _ _)).mono ?_
    rintro e W15 ⟨rfl, hb2⟩
    replace hb := hb.trans (hb2.mono hb.size)
    clear hb2 hX hO
    go_wp2_with fail
    refine (names13 _).mono ?_
    rintro e W16 ⟨Bc, rfl, _, hBc2, hBc3, hb6⟩
    replace hb := hb.trans (hb6.mono hb.size)
    clear hb6
    go_wp2_with fail
    refine (names14 _).mono ?_
    rintro e W17 ⟨Bd, rfl, _, hBd2, hBd3, hb7⟩
    replace hb := hb.trans (hb7.mono hb.size)
    have hc : W17.heap[Bc]? = _ := (hb7.block Bc hBc2).trans hBc3
    clear hb7 hBc2 hBc3 hBd2
    go_wp2_with fail
    refine (same_texts 7 7 7 Bc Bd (fun k => nameList.getD k ByteArray.empty) W17 (by omega) (fun k hk => (cell_of W17 Bc _ _ hc k).trans (txts_at _ _ hk)) (fun k hk => (cell_of W17 Bd _ _ hBd3 k).trans (txts_at _ _ hk))).mono ?_
    rintro e W18 ⟨rfl, m, rfl⟩
    replace hb := below_drewN hb m
    clear hc hBd3
    go_wp2
    go_ret
    exact ⟨rfl, hb⟩
  · have ca : W2.cell? ⟨B1, a * 15 + 10, none⟩ = some (.slice (some ⟨g2, 0, none⟩) 4 c2) := by rw [cell_of W2 B1 _ 55 hP1.1, h6]; exact scale_at6 _ _ _ _
    have hlt : ((q : Int) < 4) = True := by rw [eq_iff_iff]; exact ⟨fun _ => trivial, fun _ => by omega⟩
    clear cB h6
    have hBk := hP1.blk
    have NB : Hid (B1 ≠ g2) := hP1.ne2
    obtain ⟨k0, k1, k2, k3⟩ := hP1.2.2.at q hq4
    have z0 := hP1.2.2.froz (q * 4)
    have z1 := hP1.2.2.froz (q * 4 + 1)
    have z2 := hP1.2.2.froz (q * 4 + 2)
    have z3 := hP1.2.2.froz (q * 4 + 3)
    go_upto_region 17 with (fail)
    obtain ⟨W3, hW3⟩ : ∃ W3, W3 = ((((W2.setCell ⟨g2, q * 4, none⟩ (.int .i64 9)).setCell ⟨g2, q * 4 + 1, none⟩ (.int .i64 1)).setCell ⟨g2, q * 4 + 2, none⟩ (.int .i64 0)).setCell ⟨g2, q * 4 + 3, none⟩ (.int .i64 0)) := ⟨_, rfl⟩
    rw [← hW3]
    have e1f : ∀ x, x ≠ g2 → W3.heap[x]? = W2.heap[x]? := fun x hx => by rw [hW3]; exact heap_set4 _ _ _ _ _ _ _ _ _ _ x hx
    replace hb : Below w.heap.size w W3 := by rw [hW3]; exact below_set4 hb _ _ _ _ _ _ _ _ _ wg2
    replace hBk : Blk W3 B1 195 := hBk.block (e1f B1 NB.out)
    replace hP2 := hP2.block (w' := W3) (fun x hx => e1f _ (NP.out x hx).2.2)
    clear e1f hW3 k0 k1 k2 k3 z0 z1 z2 z3 ca hP1 NB hlt
    obtain ⟨v0, k0⟩ := hBk.at (a * 15) (by omega)
    have z0 := hBk.froz (a * 15)
    obtain ⟨v1, k1⟩ := hBk.at (a * 15 + 1) (by omega)
    have z1 := hBk.froz (a * 15 + 1)
    obtain ⟨v2, k2⟩ := hBk.at (a * 15 + 2) (by omega)
    have z2 := hBk.froz (a * 15 + 2)
    obtain ⟨v3, k3⟩ := hBk.at (a * 15 + 3) (by omega)
    have z3 := hBk.froz (a * 15 + 3)
    obtain ⟨v4, k4⟩ := hBk.at (a * 15 + 4) (by omega)
    have z4 := hBk.froz (a * 15 + 4)
    obtain ⟨v5, k5⟩ := hBk.at (a * 15 + 5) (by omega)
    have z5 := hBk.froz (a * 15 + 5)
    obtain ⟨v6, k6⟩ := hBk.at (a * 15 + 6) (by omega)
    have z6 := hBk.froz (a * 15 + 6)
    obtain ⟨v7, k7⟩ := hBk.at (a * 15 + 7) (by omega)
    have z7 := hBk.froz (a * 15 + 7)
    obtain ⟨v8, k8⟩ := hBk.at (a * 15 + 8) (by omega)
    have z8 := hBk.froz (a * 15 + 8)
    obtain ⟨v9, k9⟩ := hBk.at (a * 15 + 9) (by omega)
    have z9 := hBk.froz (a * 15 + 9)
    obtain ⟨v10, k10⟩ := hBk.at (a * 15 + 10) (by omega)
    have z10 := hBk.froz (a * 15 + 10)
    obtain ⟨v11, k11⟩ := hBk.at (a * 15 + 11) (by omega)
    have z11 := hBk.froz (a * 15 + 11)
    obtain ⟨v12, k12⟩ := hBk.at (a * 15 + 12) (by omega)
    have z12 := hBk.froz (a * 15 + 12)
    obtain ⟨v13, k13⟩ := hBk.at (a * 15 + 13) (by omega)
    have z13 := hBk.froz (a * 15 + 13)
    obtain ⟨v14, k14⟩ := hBk.at (a * 15 + 14) (by omega)
    have z14 := hBk.froz (a * 15 + 14)
    go_upto_region 18 with (fail)
    obtain ⟨W4, hW4⟩ : ∃ W4, W4 = (((((((((((((((W3.setCell ⟨B1, a * 15, none⟩ (.string ⟨#[111, 118, 101, 114]⟩)).setCell ⟨B1, a * 15 + 1, none⟩ (.string ⟨#[]⟩)).setCell ⟨B1, a * 15 + 2, none⟩ (.int .i64 0)).setCell ⟨B1, a * 15 + 3, none⟩ (.int .i64 0)).setCell ⟨B1, a * 15 + 4, none⟩ (.int .i64 0)).setCell ⟨B1, a * 15 + 5, none⟩ (.int .i64 0)).setCell ⟨B1, a * 15 + 6, none⟩ (.string ⟨#[]⟩)).setCell ⟨B1, a * 15 + 7, none⟩ (.int .i64 0)).setCell ⟨B1, a * 15 + 8, none⟩ (.int .i64 0)).setCell ⟨B1, a * 15 + 9, none⟩ (.int .i64 0)).setCell ⟨B1, a * 15 + 10, none⟩ (.slice none 0 0)).setCell ⟨B1, a * 15 + 11, none⟩ (.string ⟨#[]⟩)).setCell ⟨B1, a * 15 + 12, none⟩ (.int .i64 0)).setCell ⟨B1, a * 15 + 13, none⟩ (.int .i64 0)).setCell ⟨B1, a * 15 + 14, none⟩ (.int .i64 0)) := ⟨_, rfl⟩
    rw [← hW4]
    have HB4 : Hid (Below w.heap.size w W4) := by rw [hW4]; exact (((((((((((((((hb.setCell wB1 _).setCell wB1 _).setCell wB1 _).setCell wB1 _).setCell wB1 _).setCell wB1 _).setCell wB1 _).setCell wB1 _).setCell wB1 _).setCell wB1 _).setCell wB1 _).setCell wB1 _).setCell wB1 _).setCell wB1 _).setCell wB1 _)
    have e1f : ∀ x, x ≠ B1 → W4.heap[x]? = W3.heap[x]? := fun x hx => by rw [hW4]; exact heap_set15 _ _ _ _ _ _ _ _ _ _ _ _ _ _ _ _ _ _ _ _ _ _ _ _ _ _ _ _ _ _ _ _  x hx
    replace hBk : Blk W4 B1 195 := by rw [hW4]; exact (((((((((((((((hBk.set _ _).set _ _).set _ _).set _ _).set _ _).set _ _).set _ _).set _ _).set _ _).set _ _).set _ _).set _ _).set _ _).set _ _).set _ _)
    have hP4 : PRow W4 B2 h1 d1 h2 d2 := hP2.block (fun x hx => e1f x (NP.out x hx).1)
    have hlt := hP4.lt
    obtain ⟨xs, hown⟩ := hBk.own (base := w.heap.size) wB1
    have hz := HB4.out.size
    obtain ⟨i0, hi, hz0, hz1, hz2⟩ := info_parts info55
    have HP4 : Hid (PRow W4 B2 h1 d1 h2 d2) := hP4
    have HLT : Hid (∀ x, x = B2 ∨ x = h1 ∨ x = h2 → x < W4.heap.size) := hlt
    clear k0 z0 k1 z1 k2 z2 k3 z3 k4 z4 k5 z5 k6 z6 k7 z7 k8 z8 k9 z9 k10 z10 k11 z11 k12 z12 k13 z13 k14 z14 hW4 hb e1f hP2 hP4 hlt hBk
    clear v0 v1 v2 v3 v4 v5 v6 v7 v8 v9 v10 v11 v12 v13 v14
    go_wp2_with (at_builtin; refine wpList_append_own _ rfl _ _ 39 rfl w.heap.size 55 i0 (.agg zero55) 15 168 Tryd.underlying39 hi hz0 hz1 hz2 rfl (by decide) _ 13 xs rfl (hown.alloc _) ⟨W4.heap.size, 0, none⟩ 1 1 zero55.toList rfl rfl ?c1 ?c2 ?c3 ?c4 ?c5 ?_)
    case c1 => exact World.news_of_block (cs := zero55) (t := 55) (fr := (0, 0)) (heap_at _ _ _ (by simp))
    case c2 => simp [Value.oneCell', zero55]
    case c3 => unfold maxLen; omega
    case c4 => omega
    case c5 => simp; omega
    intro v' W5 hown5 hgrow _
    have hb5 : Below w.heap.size w W5 := (HB4.out.alloc hz _).grown hgrow (by simp; omega) (fun j hj => by cases hj; exact wB1)
    have hP5 : PRow W5 B2 h1 d1 h2 d2 := HP4.out.block (fun x hx => by
      have l1 := HLT.out x hx
      have l2 := (NP.out x hx).1
      rw [hgrow.block x (by simp; omega) (by simp [Value.ownBlock]; omega), Below.heap_alloc _ _ _ (by omega)])
    have hex : ∃ g3 cap3, v' = .slice (some ⟨g3, 0, none⟩) 14 cap3 := by
      rcases hown5.2 with ⟨_, h⟩ | ⟨g3, cap3, _, h, _⟩
      · cases h
      · exact ⟨g3, cap3, h⟩
    obtain ⟨g3, cap3, hv3⟩ := hex
    rw [hv3]
    have HV5 : Hid (Vars W5) := hv.below hb5
    have HB5 : Hid (Below w.heap.size w W5) := hb5
    have HP5 : Hid (PRow W5 B2 h1 d1 h2 d2) := hP5
    have HLT5 : Hid (∀ x, x = B2 ∨ x = h1 ∨ x = h2 → x < W5.heap.size) := hP5.lt
    clear hv3 hown5 hgrow hown hb5 hP5 HB4 HP4 HLT hz i0 hi hz0 hz1 hz2
    go_wp2_with fail
    refine (names13 _).mono ?_
    rintro e W6 ⟨Ba, rfl, hBa1, hBa2, hBa3, hb6⟩
    rw [show nameList.length = 7 from rfl]
    have HB6 : Hid (Below w.heap.size w W6) := HB5.out.trans (hb6.mono HB5.out.size)
    have HP6 : Hid (PRow W6 B2 h1 d1 h2 d2) := HP5.out.later hb6
    have kq : W6.cell? ⟨Ba, q, none⟩ = some (.string (nameList.getD q ByteArray.empty)) := (cell_of W6 Ba _ _ hBa3 q).trans (txts_at _ _ (by simp [nameList]; omega))
    have zq : W6.frozen? ⟨Ba, q, none⟩ = false := frozen_of_row W6 Ba q _ 9 hBa3
    have wBa : w.heap.size ≤ Ba := Nat.le_trans HB5.out.size hBa1
    generalize nameList.getD q ByteArray.empty = nq at kq
    clear hBa2 hBa3 hb6
    go_wp2_with fail
    obtain ⟨W7, hW7⟩ : ∃ W7, W7 = (W6.setCell ⟨Ba, q, none⟩ (.string ⟨#[111, 118, 101, 114]⟩)) := ⟨_, rfl⟩
    rw [← hW7]
    have hb7 : Below w.heap.size w W7 := by rw [hW7]; exact HB6.out.setCell wBa _
    have hP7 : PRow W7 B2 h1 d1 h2 d2 := HP6.out.block (fun x hx => by
      have l1 := HLT5.out x hx
      rw [hW7]; exact heap_set _ _ _ _ _ (by omega))
    clear hW7 kq zq HB6 HP6 HB5 HP5 HLT5 hBa1
    refine (yprovs _ (hv.below hb7)).mono ?_
    rintro e W8 ⟨B3, g4, c4, g5, c5, rfl, hB3, hB3l, hh3, ho1, ho2, hb2⟩
    obtain ⟨_, _, r1⟩ := row4_of ho1
    obtain ⟨_, _, r2⟩ := row4_of ho2
    have hP3 : PRow W8 B3 g4 c4 g5 c5 := ⟨hh3, r1, r2⟩
    have hP8 : PRow W8 B2 h1 d1 h2 d2 := hP7.later hb2
    replace hb := hb7.trans (hb2.mono hb7.size)
    clear hh3 ho1 ho2 r1 r2 hb2 hB3 hB3l hP7 hb7
    go_wp2_with fail
    refine (hP3.same hP8).mono ?_
    rintro e W9 ⟨rfl, hb2⟩
    replace hb := hb.trans (hb2.mono hb.size)
    clear hb2 hP3 hP8
    go_wp2_with fail
    refine (scale_false _ (hv.below hb)).mono ?_
    rintro e W10 ⟨v, rfl, ho, hb2⟩
    obtain ⟨o3, e3, rfl⟩ := slice_of ho
    obtain ⟨_, _, hO⟩ := row4_of ho
    replace hb := hb.trans (hb2.mono hb.size)
    clear hb2 ho
    go_wp2_with fail
    refine (rscale_false _).mono ?_
    rintro e W11 ⟨v, rfl, ho, hb2⟩
    obtain ⟨o4, e4, rfl⟩ := slice_of ho
    obtain ⟨_, _, hX⟩ := row4_of ho
    replace hO := hO.later hb2
    replace hb := hb.trans (hb2.mono hb.size)
    clear hb2 ho
    go_wp2_with fail
    refine (hO.alike hX W11 (Below.refl _ _)).mono ?_
    rintro e W12 ⟨rfl, hb2⟩
    replace hb := hb.trans (hb2.mono hb.size)
    clear hb2 hX hO
    go_wp2_with fail
    refine (scale_true _ (hv.below hb)).mono ?_
    rintro e W13 ⟨v, rfl, ho, hb2⟩
    obtain ⟨o5, e5, rfl⟩ := slice_of ho
    obtain ⟨_, _, hO⟩ := row4_of ho
    replace hb := hb.trans (hb2.mono hb.size)
    clear hb2 ho
    go_wp2_with fail
    refine (rscale_true _).mono ?_
    rintro e W14 ⟨v, rfl, ho, hb2⟩
    obtain ⟨o6, e6, rfl⟩ := slice_of ho
    obtain ⟨_, _, hX⟩ := row4_of ho
    replace hO := hO.later hb2
    replace hb := hb.trans (hb2.mono hb.size)
    clear hb2 ho
    go_wp2_with fail
    refine (hO.alike hX W14 (Below.refl _ _)).mono ?_
    rintro e W15 ⟨rfl, hb2⟩
    replace hb := hb.trans (hb2.mono hb.size)
    clear hb2 hX hO
    go_wp2_with fail
    refine (names13 _).mono ?_
    rintro e W16 ⟨Bc, rfl, _, hBc2, hBc3, hb6⟩
    replace hb := hb.trans (hb6.mono hb.size)
    clear hb6
    go_wp2_with fail
    refine (names14 _).mono ?_
    rintro e W17 ⟨Bd, rfl, _, hBd2, hBd3, hb7⟩
    replace hb := hb.trans (hb7.mono hb.size)
    have hc : W17.heap[Bc]? = _ := (hb7.block Bc hBc2).trans hBc3
    clear hb7 hBc2 hBc3 hBd2
    go_wp2_with fail
    refine (same_texts 7 7 7 Bc Bd (fun k => nameList.getD k ByteArray.empty) W17 (by omega) (fun k hk => (cell_of W17 Bc _ _ hc k).trans (txts_at _ _ hk)) (fun k hk => (cell_of W17 Bd _ _ hBd3 k).trans (txts_at _ _ hk))).mono ?_
    rintro e W18 ⟨rfl, m, rfl⟩
    replace hb := below_drewN hb m
    clear hc hBd3
    go_wp2
    go_ret
    exact ⟨rfl, hb⟩
  · have ca : W2.cell? ⟨B1, a * 15 + 10, none⟩ = some (.slice none 0 0) := by rw [cell_of W2 B1 _ 55 hP1.1]; exact scale_at _ _ _ _ a ha13 h5 h6
    have hlt : ((q : Int) < 0) = False := by rw [eq_iff_iff]; exact ⟨fun _ => by omega, fun h => h.elim⟩
    have hBk := hP1.blk
    clear cB h5 h6
    go_upto_region 17 with (fail)
    obtain ⟨W3, hW3⟩ : ∃ W3, W3 = W2 := ⟨_, rfl⟩
    rw [← hW3] at hBk hb hP2 ⊢
    clear hW3 ca hP1 hlt
    obtain ⟨v0, k0⟩ := hBk.at (a * 15) (by omega)
    have z0 := hBk.froz (a * 15)
    obtain ⟨v1, k1⟩ := hBk.at (a * 15 + 1) (by omega)
    have z1 := hBk.froz (a * 15 + 1)
    obtain ⟨v2, k2⟩ := hBk.at (a * 15 + 2) (by omega)
    have z2 := hBk.froz (a * 15 + 2)
    obtain ⟨v3, k3⟩ := hBk.at (a * 15 + 3) (by omega)
    have z3 := hBk.froz (a * 15 + 3)
    obtain ⟨v4, k4⟩ := hBk.at (a * 15 + 4) (by omega)
    have z4 := hBk.froz (a * 15 + 4)
    obtain ⟨v5, k5⟩ := hBk.at (a * 15 + 5) (by omega)
    have z5 := hBk.froz (a * 15 + 5)
    obtain ⟨v6, k6⟩ := hBk.at (a * 15 + 6) (by omega)
    have z6 := hBk.froz (a * 15 + 6)
    obtain ⟨v7, k7⟩ := hBk.at (a * 15 + 7) (by omega)
    have z7 := hBk.froz (a * 15 + 7)
    obtain ⟨v8, k8⟩ := hBk.at (a * 15 + 8) (by omega)
    have z8 := hBk.froz (a * 15 + 8)
    obtain ⟨v9, k9⟩ := hBk.at (a * 15 + 9) (by omega)
    have z9 := hBk.froz (a * 15 + 9)
    obtain ⟨v10, k10⟩ := hBk.at (a * 15 + 10) (by omega)
    have z10 := hBk.froz (a * 15 + 10)
    obtain ⟨v11, k11⟩ := hBk.at (a * 15 + 11) (by omega)
    have z11 := hBk.froz (a * 15 + 11)
    obtain ⟨v12, k12⟩ := hBk.at (a * 15 + 12) (by omega)
    have z12 := hBk.froz (a * 15 + 12)
    obtain ⟨v13, k13⟩ := hBk.at (a * 15 + 13) (by omega)
    have z13 := hBk.froz (a * 15 + 13)
    obtain ⟨v14, k14⟩ := hBk.at (a * 15 + 14) (by omega)
    have z14 := hBk.froz (a * 15 + 14)
    go_upto_region 18 with (fail)
    obtain ⟨W4, hW4⟩ : ∃ W4, W4 = (((((((((((((((W3.setCell ⟨B1, a * 15, none⟩ (.string ⟨#[111, 118, 101, 114]⟩)).setCell ⟨B1, a * 15 + 1, none⟩ (.string ⟨#[]⟩)).setCell ⟨B1, a * 15 + 2, none⟩ (.int .i64 0)).setCell ⟨B1, a * 15 + 3, none⟩ (.int .i64 0)).setCell ⟨B1, a * 15 + 4, none⟩ (.int .i64 0)).setCell ⟨B1, a * 15 + 5, none⟩ (.int .i64 0)).setCell ⟨B1, a * 15 + 6, none⟩ (.string ⟨#[]⟩)).setCell ⟨B1, a * 15 + 7, none⟩ (.int .i64 0)).setCell ⟨B1, a * 15 + 8, none⟩ (.int .i64 0)).setCell ⟨B1, a * 15 + 9, none⟩ (.int .i64 0)).setCell ⟨B1, a * 15 + 10, none⟩ (.slice none 0 0)).setCell ⟨B1, a * 15 + 11, none⟩ (.string ⟨#[]⟩)).setCell ⟨B1, a * 15 + 12, none⟩ (.int .i64 0)).setCell ⟨B1, a * 15 + 13, none⟩ (.int .i64 0)).setCell ⟨B1, a * 15 + 14, none⟩ (.int .i64 0)) := ⟨_, rfl⟩
    rw [← hW4]
    have HB4 : Hid (Below w.heap.size w W4) := by rw [hW4]; exact (((((((((((((((hb.setCell wB1 _).setCell wB1 _).setCell wB1 _).setCell wB1 _).setCell wB1 _).setCell wB1 _).setCell wB1 _).setCell wB1 _).setCell wB1 _).setCell wB1 _).setCell wB1 _).setCell wB1 _).setCell wB1 _).setCell wB1 _).setCell wB1 _)
    have e1f : ∀ x, x ≠ B1 → W4.heap[x]? = W3.heap[x]? := fun x hx => by rw [hW4]; exact heap_set15 _ _ _ _ _ _ _ _ _ _ _ _ _ _ _ _ _ _ _ _ _ _ _ _ _ _ _ _ _ _ _ _  x hx
    replace hBk : Blk W4 B1 195 := by rw [hW4]; exact (((((((((((((((hBk.set _ _).set _ _).set _ _).set _ _).set _ _).set _ _).set _ _).set _ _).set _ _).set _ _).set _ _).set _ _).set _ _).set _ _).set _ _)
    have hP4 : PRow W4 B2 h1 d1 h2 d2 := hP2.block (fun x hx => e1f x (NP.out x hx).1)
    have hlt := hP4.lt
    obtain ⟨xs, hown⟩ := hBk.own (base := w.heap.size) wB1
    have hz := HB4.out.size
    obtain ⟨i0, hi, hz0, hz1, hz2⟩ := info_parts info55
    have HP4 : Hid (PRow W4 B2 h1 d1 h2 d2) := hP4
    have HLT : Hid (∀ x, x = B2 ∨ x = h1 ∨ x = h2 → x < W4.heap.size) := hlt
    clear k0 z0 k1 z1 k2 z2 k3 z3 k4 z4 k5 z5 k6 z6 k7 z7 k8 z8 k9 z9 k10 z10 k11 z11 k12 z12 k13 z13 k14 z14 hW4 hb e1f hP2 hP4 hlt hBk
    clear v0 v1 v2 v3 v4 v5 v6 v7 v8 v9 v10 v11 v12 v13 v14
    go_wp2_with (at_builtin; refine wpList_append_own _ rfl _ _ 39 rfl w.heap.size 55 i0 (.agg zero55) 15 168 Tryd.underlying39 hi hz0 hz1 hz2 rfl (by decide) _ 13 xs rfl (hown.alloc _) ⟨W4.heap.size, 0, none⟩ 1 1 zero55.toList rfl rfl ?c1 ?c2 ?c3 ?c4 ?c5 ?_)
    case c1 => exact World.news_of_block (cs := zero55) (t := 55) (fr := (0, 0)) (heap_at _ _ _ (by simp))
    case c2 => simp [Value.oneCell', zero55]
    case c3 => unfold maxLen; omega
    case c4 => omega
    case c5 => simp; omega
    intro v' W5 hown5 hgrow _
    have hb5 : Below w.heap.size w W5 := (HB4.out.alloc hz _).grown hgrow (by simp; omega) (fun j hj => by cases hj; exact wB1)
    have hP5 : PRow W5 B2 h1 d1 h2 d2 := HP4.out.block (fun x hx => by
      have l1 := HLT.out x hx
      have l2 := (NP.out x hx).1
      rw [hgrow.block x (by simp; omega) (by simp [Value.ownBlock]; omega), Below.heap_alloc _ _ _ (by omega)])
    have hex : ∃ g3 cap3, v' = .slice (some ⟨g3, 0, none⟩) 14 cap3 := by
      rcases hown5.2 with ⟨_, h⟩ | ⟨g3, cap3, _, h, _⟩
      · cases h
      · exact ⟨g3, cap3, h⟩
    obtain ⟨g3, cap3, hv3⟩ := hex
    rw [hv3]
    have HV5 : Hid (Vars W5) := hv.below hb5
    have HB5 : Hid (Below w.heap.size w W5) := hb5
    have HP5 : Hid (PRow W5 B2 h1 d1 h2 d2) := hP5
    have HLT5 : Hid (∀ x, x = B2 ∨ x = h1 ∨ x = h2 → x < W5.heap.size) := hP5.lt
    clear hv3 hown5 hgrow hown hb5 hP5 HB4 HP4 HLT hz i0 hi hz0 hz1 hz2
    go_wp2_with fail
    refine (names13 _).mono ?_
    rintro e W6 ⟨Ba, rfl, hBa1, hBa2, hBa3, hb6⟩
    rw [show nameList.length = 7 from rfl]
    have HB6 : Hid (Below w.heap.size w W6) := HB5.out.trans (hb6.mono HB5.out.size)
    have HP6 : Hid (PRow W6 B2 h1 d1 h2 d2) := HP5.out.later hb6
    have kq : W6.cell? ⟨Ba, q, none⟩ = some (.string (nameList.getD q ByteArray.empty)) := (cell_of W6 Ba _ _ hBa3 q).trans (txts_at _ _ (by simp [nameList]; omega))
    have zq : W6.frozen? ⟨Ba, q, none⟩ = false := frozen_of_row W6 Ba q _ 9 hBa3
    have wBa : w.heap.size ≤ Ba := Nat.le_trans HB5.out.size hBa1
    generalize nameList.getD q ByteArray.empty = nq at kq
    clear hBa2 hBa3 hb6
    go_wp2_with fail
    obtain ⟨W7, hW7⟩ : ∃ W7, W7 = (W6.setCell ⟨Ba, q, none⟩ (.string ⟨#[111, 118, 101, 114]⟩)) := ⟨_, rfl⟩
    rw [← hW7]
    have hb7 : Below w.heap.size w W7 := by rw [hW7]; exact HB6.out.setCell wBa _
    have hP7 : PRow W7 B2 h1 d1 h2 d2 := HP6.out.block (fun x hx => by
      have l1 := HLT5.out x hx
      rw [hW7]; exact heap_set _ _ _ _ _ (by omega))
    clear hW7 kq zq HB6 HP6 HB5 HP5 HLT5 hBa1
    refine (yprovs _ (hv.below hb7)).mono ?_
    rintro e W8 ⟨B3, g4, c4, g5, c5, rfl, hB3, hB3l, hh3, ho1, ho2, hb2⟩
    obtain ⟨_, _, r1⟩ := row4_of ho1
    obtain ⟨_, _, r2⟩ := row4_of ho2
    have hP3 : PRow W8 B3 g4 c4 g5 c5 := ⟨hh3, r1, r2⟩
    have hP8 : PRow W8 B2 h1 d1 h2 d2 := hP7.later hb2
    replace hb := hb7.trans (hb2.mono hb7.size)
    clear hh3 ho1 ho2 r1 r2 hb2 hB3 hB3l hP7 hb7
    go_wp2_with fail
    refine (hP3.same hP8).mono ?_
    rintro e W9 ⟨rfl, hb2⟩
    replace hb := hb.trans (hb2.mono hb.size)
    clear hb2 hP3 hP8
    go_wp2_with fail
    refine (scale_false _ (hv.below hb)).mono ?_
    rintro e W10 ⟨v, rfl, ho, hb2⟩
    obtain ⟨o3, e3, rfl⟩ := slice_of ho
    obtain ⟨_, _, hO⟩ := row4_of ho
    replace hb := hb.trans (hb2.mono hb.size)
    clear hb2 ho
    go_wp2_with fail
    refine (rscale_false _).mono ?_
    rintro e W11 ⟨v, rfl, ho, hb2⟩
    obtain ⟨o4, e4, rfl⟩ := slice_of ho
    obtain ⟨_, _, hX⟩ := row4_of ho
    replace hO := hO.later hb2
    replace hb := hb.trans (hb2.mono hb.size)
    clear hb2 ho
    go_wp2_with fail
    refine (hO.alike hX W11 (Below.refl _ _)).mono ?_
    rintro e W12 ⟨rfl, hb2⟩
    replace hb := hb.trans (hb2.mono hb.size)
    clear hb2 hX hO
    go_wp2_with fail
    refine (scale_true _ (hv.below hb)).mono ?_
    rintro e W13 ⟨v, rfl, ho, hb2⟩
    obtain ⟨o5, e5, rfl⟩ := slice_of ho
    obtain ⟨_, _, hO⟩ := row4_of ho
    replace hb := hb.trans (hb2.mono hb.size)
    clear hb2 ho
    go_wp2_with fail
    refine (rscale_true _).mono ?_
    rintro e W14 ⟨v, rfl, ho, hb2⟩
    obtain ⟨o6, e6, rfl⟩ := slice_of ho
    obtain ⟨_, _, hX⟩ := row4_of ho
    replace hO := hO.later hb2
    replace hb := hb.trans (hb2.mono hb.size)
    clear hb2 ho
    go_wp2_with fail
    refine (hO.alike hX W14 (Below.refl _ _)).mono ?_
    rintro e W15 ⟨rfl, hb2⟩
    replace hb := hb.trans (hb2.mono hb.size)
    clear hb2 hX hO
    go_wp2_with fail
    refine (names13 _).mono ?_
    rintro e W16 ⟨Bc, rfl, _, hBc2, hBc3, hb6⟩
    replace hb := hb.trans (hb6.mono hb.size)
    clear hb6
    go_wp2_with fail
    refine (names14 _).mono ?_
    rintro e W17 ⟨Bd, rfl, _, hBd2, hBd3, hb7⟩
    replace hb := hb.trans (hb7.mono hb.size)
    have hc : W17.heap[Bc]? = _ := (hb7.block Bc hBc2).trans hBc3
    clear hb7 hBc2 hBc3 hBd2
    go_wp2_with fail
    refine (same_texts 7 7 7 Bc Bd (fun k => nameList.getD k ByteArray.empty) W17 (by omega) (fun k hk => (cell_of W17 Bc _ _ hc k).trans (txts_at _ _ hk)) (fun k hk => (cell_of W17 Bd _ _ hBd3 k).trans (txts_at _ _ hk))).mono ?_
    rintro e W18 ⟨rfl, m, rfl⟩
    replace hb := below_drewN hb m
    clear hc hBd3
    go_wp2
    go_ret
    exact ⟨rfl, hb⟩

end Go.Proofs.YtakbkdimknnopaaDoor
