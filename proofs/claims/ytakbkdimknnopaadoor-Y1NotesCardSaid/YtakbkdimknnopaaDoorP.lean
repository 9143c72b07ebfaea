/- Lists of notes compared; the walk of Y1Notes. -/
import Derived.Test.YtakbkdimknnopaaDoorO
namespace Go.Proofs.YtakbkdimknnopaaDoor
open Go.RowKit

set_option maxRecDepth 100000 in
theorem same_notes (n ca cb Ba Bb : Nat) (f : Nat → ByteArray) (g : Nat → Int) (w : World) (hn : n ≤ 1000)
    (ha : ∀ k, k < n → w.cell? ⟨Ba, k * 2, none⟩ = some (.string (f k)) ∧ w.cell? ⟨Ba, k * 2 + 1, none⟩ = some (.int .i64 (g k)))
    (hb : ∀ k, k < n → w.cell? ⟨Bb, k * 2, none⟩ = some (.string (f k)) ∧ w.cell? ⟨Bb, k * 2 + 1, none⟩ = some (.int .i64 (g k))) :
    Calls Tryd.prog 18 #[.slice (some ⟨Ba, 0, none⟩) n ca, .slice (some ⟨Bb, 0, none⟩) n cb] w fun e w' => e = .returned (.bool true) ∧ ∃ m, w' = w.drewN m := by
  have HA : Hid _ := ha
  have HB : Hid _ := hb
  clear ha hb
  go_enter Tryd.func18, Tryd.ntmps18
  go_wp2
  go_loopw [5] (fun i wr => ∃ k m : Nat, k ≤ n ∧ i = .int .i64 k ∧ wr = w.drewN m) (fun i _ => n - (intOf i).toNat)
  case atStart => exact ⟨0, 0, Nat.zero_le _, rfl, rfl⟩
  case round =>
    obtain ⟨k, m, hk, rfl, rfl⟩ := hrel
    by_cases hlt : k < n
    · have h0 : (0 : Int) ≤ (k : Int) := by omega
      have h1 : (k : Int) < (n : Int) := by omega
      obtain ⟨ca0, ca1⟩ := HA.out k hlt
      obtain ⟨cb0, cb1⟩ := HB.out k hlt
      generalize f k = s at *
      generalize g k = x at *
      go_wp2
      go_quiet (fail)
      go_wp2
      go_roundw
      case rel => exact ⟨k + 1, _, by omega, by go_num, rfl⟩
      case measure => simp [intOf]; omega
    · go_wp2
      go_ret
      exact ⟨rfl, m, rfl⟩

/-- What is left of a row of ten notes: its place and its cells. -/
def Notes10 (w : World) (g cap : Nat) : Prop :=
  10 ≤ cap ∧ cap ≤ maxLen ∧ ∃ cur : Array Value, w.heap[g]? = some (.cells cur 37 (0, 0)) ∧ cur.size = cap * 2 ∧ ∀ k, k < 10 → cur[k * 2]? = some (.string (noteS k)) ∧ cur[k * 2 + 1]? = some (.int .i64 (noteV k))
theorem noteCells_at (k : Nat) (hk : k < 10) : noteCells.toList[k * 2]? = some (.string (noteS k)) ∧ noteCells.toList[k * 2 + 1]? = some (.int .i64 (noteV k)) := by
  match k, hk with
  | 0, _ => exact ⟨rfl, rfl⟩
  | 1, _ => exact ⟨rfl, rfl⟩
  | 2, _ => exact ⟨rfl, rfl⟩
  | 3, _ => exact ⟨rfl, rfl⟩
  | 4, _ => exact ⟨rfl, rfl⟩
  | 5, _ => exact ⟨rfl, rfl⟩
  | 6, _ => exact ⟨rfl, rfl⟩
  | 7, _ => exact ⟨rfl, rfl⟩
  | 8, _ => exact ⟨rfl, rfl⟩
  | 9, _ => exact ⟨rfl, rfl⟩
theorem notes_of {w : World} {base : Nat} {v : Value} (h : w.ownsRow base 37 2 v 10 noteCells.toList) : ∃ g cap, v = .slice (some ⟨g, 0, none⟩) 10 cap ∧ base ≤ g ∧ g < w.heap.size ∧ Notes10 w g cap := by
  obtain ⟨_, hv⟩ := h
  rcases hv with ⟨_, h⟩ | ⟨g, cap, cur, rfl, hg, hh, hc1, hc2, hsz, hcur⟩
  · cases h
  refine ⟨g, cap, rfl, hg, (Array.getElem?_eq_some_iff.1 hh).1, hc1, hc2, cur, hh, hsz, fun k hk => ?_⟩
  obtain ⟨a, b⟩ := noteCells_at k hk
  rw [← hcur, List.getElem?_take_of_lt (by omega), Array.getElem?_toList] at a b
  exact ⟨a, b⟩
theorem Notes10.at {w : World} {g cap : Nat} (h : Notes10 w g cap) (k : Nat) (hk : k < 10) : w.cell? ⟨g, k * 2, none⟩ = some (.string (noteS k)) ∧ w.cell? ⟨g, k * 2 + 1, none⟩ = some (.int .i64 (noteV k)) := by
  obtain ⟨_, _, cur, hh, _, hc⟩ := h
  rw [cell_of w g cur 37 hh, cell_of w g cur 37 hh]
  exact hc k hk
theorem Notes10.froz {w : World} {g cap : Nat} (h : Notes10 w g cap) (j : Nat) : w.frozen? ⟨g, j, none⟩ = false := by
  obtain ⟨_, _, cur, hh, _, hc⟩ := h
  exact frozen_of_row w g j cur 37 hh
theorem Notes10.block {w w' : World} {g cap : Nat} (h : Notes10 w g cap) (hb : w'.heap[g]? = w.heap[g]?) : Notes10 w' g cap := by
  obtain ⟨a, b, cur, hh, r⟩ := h
  exact ⟨a, b, cur, hb.trans hh, r⟩
/-- Behind two stores the row is still one of ten elements. -/
theorem Notes10.owned {w : World} {g cap base : Nat} (h : Notes10 w g cap) (hb : base ≤ g) (i j : Nat) (x y : Value) : ∃ xs, ((w.setCell ⟨g, i, none⟩ x).setCell ⟨g, j, none⟩ y).ownsRow base 37 2 (.slice (some ⟨g, 0, none⟩) 10 cap) 10 xs := by
  obtain ⟨h1, h2, cur, hh, hs, _⟩ := h
  have hk := heap_setCell_same _ g j _ _ y (heap_setCell_same w g i cur 37 x hh)
  refine ⟨(((cur.setIfInBounds i x).setIfInBounds j y).toList.take (10 * 2)), ?_, Or.inr ⟨g, cap, _, rfl, hb, hk, h1, h2, by simp [hs], rfl⟩⟩
  rw [List.length_take, Array.length_toList, Array.size_setIfInBounds, Array.size_setIfInBounds, hs]
  omega
theorem tmod_bd (i : Int) : -9 ≤ i.tmod 10 ∧ i.tmod 10 ≤ 9 := by
  have h1 := Int.lt_tmod_of_pos i (show (0 : Int) < 10 by decide)
  have h2 := Int.tmod_lt_of_pos i (show (0 : Int) < 10 by decide)
  omega
set_option maxRecDepth 100000 in
set_option maxHeartbeats 1000000 in
theorem law_notes (i : Int) (w : World) (hv : Vars w) :
    Calls Tryd.prog 4 #[.int .i64 i] w fun e w' => e = .returned (.bool true) ∧ Below w.heap.size w w' := by
  obtain ⟨i0, hi, hz0, hz1, hz2⟩ := info_parts info37
  obtain ⟨b1, b2⟩ := tmod_bd i
  have b3 : 0 ≤ i.tmod 10 % 10 := by omega
  have b4 : i.tmod 10 % 10 < 10 := by omega
  go_enter Tryd.func4, Tryd.ntmps4
  go_wp2_with fail
  refine (first_any _ hv).mono ?_
  rintro e w1 ⟨rfl, hb⟩
  have hv1 := hv.below hb
  go_wp2_with fail
  refine (ynotes _ hv1).mono ?_
  rintro e w2 ⟨v, rfl, ho, hb2⟩
  obtain ⟨g, cap, rfl, hg, hgl, hN⟩ := notes_of ho
  have hbg : w.heap.size ≤ g := Nat.le_trans hb.size hg
  replace hb := hb.trans (hb2.mono hb.size)
  replace hv1 := hv.below hb
  clear hb2 ho hg
  go_wp2_with fail
  refine (rnotes _).mono ?_
  rintro e w3 ⟨v, rfl, ho, hb2⟩
  obtain ⟨g2, cap2, rfl, hg2, hgl2, hN2⟩ := notes_of ho
  have hne : g ≠ g2 := by omega
  replace hN := hN.block (hb2.block g hgl)
  replace hgl := Nat.lt_of_lt_of_le hgl hb2.size
  replace hb := hb.trans (hb2.mono hb.size)
  clear hb2 ho hg2 hv1
  go_wp2_with fail
  refine (same_notes 10 cap cap2 g g2 noteS noteV w3 (by omega) hN.at hN2.at).mono ?_
  rintro e w4 ⟨rfl, m, rfl⟩
  replace hb := below_drewN hb m
  have hN4 : Notes10 (w3.drewN m) g cap := hN.block rfl
  have hN5 : Notes10 (w3.drewN m) g2 cap2 := hN2.block rfl
  have hl4 : g < (w3.drewN m).heap.size := hgl
  have hl5 : g2 < (w3.drewN m).heap.size := hgl2
  clear hN hN2 hgl hgl2
  generalize w3.drewN m = w4 at *
  obtain ⟨c0, c1⟩ := hN4.at (i.tmod 10 % 10).toNat (by omega)
  have fz := hN4.froz
  obtain ⟨xs, hown⟩ := hN4.owned hbg ((i.tmod 10 % 10).toNat * 2) ((i.tmod 10 % 10).toNat * 2 + 1) (.string ⟨#[111, 118, 101, 114]⟩) (.int .i64 (-1))
  have hz := hb.size
  generalize noteS (i.tmod 10 % 10).toNat = z0 at *
  generalize noteV (i.tmod 10 % 10).toNat = z1 at *
  have H4 : Hid (Below w.heap.size w w4) := hb
  have HN5 : Hid (Notes10 w4 g2 cap2) := hN5
  have HV : Hid (Vars w) := hv
  clear hb hN5 hN4 hv
  go_wp2_with (at_builtin; refine wpList_append_own _ rfl _ _ 33 rfl w.heap.size 37 i0 (.agg #[.string ⟨#[]⟩, .int .i64 0]) 2 24 Tryd.underlying33 hi hz0 hz1 hz2 rfl (by decide) _ 10 xs rfl (hown.alloc _) ⟨w4.heap.size, 0, none⟩ 1 1 [.string ⟨#[109, 111, 114, 101]⟩, .int .i64 0] rfl rfl ?c1 ?c2 ?c3 ?c4 ?c5 ?_)
  case c1 => exact World.news_of_block (cs := #[.string ⟨#[109, 111, 114, 101]⟩, .int .i64 0]) (t := 37) (fr := (0, 0)) (heap_at _ _ _ (by simp))
  case c2 => simp [Value.oneCell']
  case c3 => unfold maxLen; omega
  case c4 => omega
  case c5 => simp; omega
  intro v' w5 hown5 hgrow _
  have hb5 : Below w.heap.size w w5 := (((H4.out.setCell hbg _).setCell hbg _).alloc (by simp; omega) _).grown hgrow (by simp; omega) (fun j hj => by cases hj; exact hbg)
  have hN6 : Notes10 w5 g2 cap2 := by
    refine HN5.out.block ?_
    rw [hgrow.block g2 (by simp; omega) (by simp [Value.ownBlock]; omega), Below.heap_alloc _ _ _ (by simp; omega), Below.heap_setCell _ _ _ _ (by simp; omega), Below.heap_setCell _ _ _ _ (by simp; omega)]
  have hl6 : g2 < w5.heap.size := Nat.lt_of_lt_of_le hl5 (Nat.le_trans (by simp) hgrow.size)
  have hex : ∃ g3 cap3, v' = .slice (some ⟨g3, 0, none⟩) 11 cap3 := by
    rcases hown5.2 with ⟨_, h⟩ | ⟨g3, cap3, _, h, _⟩
    · cases h
    · exact ⟨g3, cap3, h⟩
  obtain ⟨g3, cap3, hv3⟩ := hex
  rw [hv3]
  have HV5 : Hid (Vars w5) := HV.out.below hb5
  have HB5 : Hid (Below w.heap.size w w5) := hb5
  have HN6 : Hid (Notes10 w5 g2 cap2) := hN6
  clear hv3 hown5 hgrow hown c0 c1 fz hb5 hN6
  go_wp2_with fail
  refine (ynotes _ HV5.out).mono ?_
  rintro e w6 ⟨v6, rfl, ho6, hb6⟩
  obtain ⟨g6, cap6, rfl, hg6, hgl6, hN7⟩ := notes_of ho6
  have hN8 : Notes10 w6 g2 cap2 := HN6.out.block (hb6.block g2 hl6)
  have HB6 : Hid (Below w.heap.size w w6) := HB5.out.trans (hb6.mono HB5.out.size)
  clear ho6 hb6
  go_wp2_with fail
  refine (same_notes 10 cap6 cap2 g6 g2 noteS noteV w6 (by omega) hN7.at hN8.at).mono ?_
  rintro e w7 ⟨rfl, m7, rfl⟩
  clear hN7 hN8
  go_wp2
  go_ret
  exact ⟨rfl, below_drewN HB6.out m7⟩

end Go.Proofs.YtakbkdimknnopaaDoor
