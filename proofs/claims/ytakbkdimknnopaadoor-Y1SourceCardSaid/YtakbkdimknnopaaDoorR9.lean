/- The walk of Y1Source. -/
import Derived.Test.YtakbkdimknnopaaDoorQ9
import Derived.Test.YtakbkdimknnopaaDoorR1
namespace Go.Proofs.YtakbkdimknnopaaDoor
open Go.RowKit
theorem Row4.cells {w : World} {j : Bool} {g c : Nat} (h : Row4 w j g c) : ∀ k, k < 16 → w.cell? ⟨g, k, none⟩ = (brks j)[k]? := by
  obtain ⟨_, _, cur, hh, _, ht⟩ := h
  exact fun i hi => by rw [cell_of w g cur 49 hh, ← ht, List.getElem?_take_of_lt hi, Array.getElem?_toList]
def Tab (l : List Int) : Prop := (∀ m, m < 9 → (l.take m).sum + factV l m = (l.take (m + 1)).sum ∧ 0 ≤ (l.take m).sum ∧ (l.take m).sum ≤ 1000000 ∧ 0 ≤ factV l m ∧ factV l m ≤ 1000000 ∧ (factB l m = false → factV l m = 0)) ∧ (l.take 9).sum = l.sum ∧ sumB l = true
instance (l : List Int) : Decidable (Tab l) := by unfold Tab; infer_instance
set_option maxRecDepth 100000 in
theorem tab_all (k : Nat) (hk : k < 7) : Tab (nums (nameList.getD k ByteArray.empty)) :=
  match k, hk with
  | 0, _ => (show Tab (nums ⟨#[99, 112, 105]⟩) from by rw [nums0]; decide)
  | 1, _ => (show Tab (nums ⟨#[102, 97, 99, 116, 111, 114]⟩) from by rw [nums1]; decide)
  | 2, _ => (show Tab (nums ⟨#[115, 116, 97, 110, 100, 97, 114, 100]⟩) from by rw [nums2]; decide)
  | 3, _ => (show Tab (nums ⟨#[116, 111, 112]⟩) from by rw [nums3]; decide)
  | 4, _ => (show Tab (nums ⟨#[114, 97, 116, 101]⟩) from by rw [nums4]; decide)
  | 5, _ => (show Tab (nums ⟨#[99, 114, 101, 100, 105, 116]⟩) from by rw [nums5]; decide)
  | 6, _ => (show Tab (nums ⟨#[112, 104, 97, 115, 101]⟩) from by rw [nums6]; decide)

set_option maxRecDepth 100000 in
set_option maxHeartbeats 8000000 in
theorem source_0 (i : Int) (w : World) (hv : Vars w) (ha : (i.tmod 13 + 13) % 13 = (0 : Int)) :
    Calls Tryd.prog 6 #[.int .i64 i] w fun e w' => e = .returned (.bool true) ∧ Below w.heap.size w w' := by
  obtain ⟨b1, b2⟩ := tmodn_bd i 13 (by omega)
  go_enter Tryd.func6, Tryd.ntmps6
  go_wp2_with fail
  refine (first_any _ hv).mono ?_
  rintro e w1 ⟨rfl, hb⟩
  go_wp2_with fail
  refine (yprovs _ (hv.below hb)).mono ?_
  rintro e W ⟨B1, g1, c1, g2, c2, rfl, hB1, hB1l, hh1, ho1, ho2, hb2⟩
  obtain ⟨p1, p2, r1⟩ := row4_of ho1
  obtain ⟨p3, p4, r2⟩ := row4_of ho2
  have hP1 : PRow W B1 g1 c1 g2 c2 := ⟨hh1, r1, r2⟩
  replace hb := hb.trans (hb2.mono hb.size)
  clear hh1 ho1 ho2 r1 r2 hb2 hB1 p1 p3 p2 p4 hB1l
  go_upto_region 5 with (fail)
  · have hx : (i.tmod 13 + 13) % 13 = (0 : Int) := ha
    have k0 : W.cell? ⟨B1, 0, none⟩ = some (.string ⟨#[121, 49, 46, 115, 116, 97, 110, 100, 97, 114, 100, 46, 115, 105, 110, 103, 108, 101]⟩) := (cell_of W B1 _ 55 hP1.1 0).trans (by kernel_rfl)
    have k1 : W.cell? ⟨B1, 1, none⟩ = some (.string ⟨#[112, 46, 115, 116, 97, 110, 100, 97, 114, 100, 46, 115, 105, 110, 103, 108, 101]⟩) := (cell_of W B1 _ 55 hP1.1 1).trans (by kernel_rfl)
    have k2 : W.cell? ⟨B1, 2, none⟩ = some (.int .i64 730485) := (cell_of W B1 _ 55 hP1.1 2).trans (by kernel_rfl)
    have k3 : W.cell? ⟨B1, 3, none⟩ = some (.int .i64 730850) := (cell_of W B1 _ 55 hP1.1 3).trans (by kernel_rfl)
    have k4 : W.cell? ⟨B1, 4, none⟩ = some (.int .i64 730454) := (cell_of W B1 _ 55 hP1.1 4).trans (by kernel_rfl)
    have k5 : W.cell? ⟨B1, 5, none⟩ = some (.int .i64 0) := (cell_of W B1 _ 55 hP1.1 5).trans (by kernel_rfl)
    have k6 : W.cell? ⟨B1, 6, none⟩ = some (.string ⟨#[]⟩) := (cell_of W B1 _ 55 hP1.1 6).trans (by kernel_rfl)
    have k7 : W.cell? ⟨B1, 7, none⟩ = some (.int .i64 1) := (cell_of W B1 _ 55 hP1.1 7).trans (by kernel_rfl)
    have k8 : W.cell? ⟨B1, 8, none⟩ = some (.int .i64 4000) := (cell_of W B1 _ 55 hP1.1 8).trans (by kernel_rfl)
    have k9 : W.cell? ⟨B1, 9, none⟩ = some (.int .i64 1) := (cell_of W B1 _ 55 hP1.1 9).trans (by kernel_rfl)
    have k10 : W.cell? ⟨B1, 10, none⟩ = some (.slice none 0 0) := (cell_of W B1 _ 55 hP1.1 10).trans (by kernel_rfl)
    have k11 : W.cell? ⟨B1, 11, none⟩ = some (.string ⟨#[]⟩) := (cell_of W B1 _ 55 hP1.1 11).trans (by kernel_rfl)
    have k12 : W.cell? ⟨B1, 12, none⟩ = some (.int .i64 0) := (cell_of W B1 _ 55 hP1.1 12).trans (by kernel_rfl)
    have k13 : W.cell? ⟨B1, 13, none⟩ = some (.int .i64 0) := (cell_of W B1 _ 55 hP1.1 13).trans (by kernel_rfl)
    have k14 : W.cell? ⟨B1, 14, none⟩ = some (.int .i64 0) := (cell_of W B1 _ 55 hP1.1 14).trans (by kernel_rfl)
    have hBs : B1 < W.heap.size := (Array.getElem?_eq_some_iff.1 hP1.1).1
    have HP1 : Hid (PRow W B1 g1 c1 g2 c2) := hP1
    have HB : Hid (Below w.heap.size w W) := hb
    have HV : Hid (Vars w) := hv
    have HS : Hid (w.heap.size ≤ W.heap.size) := hb.size
    clear ha hP1 hb hv
    go_upto_region 8 with (fail)
    obtain ⟨X, hX⟩ : ∃ X, X = (W.alloc (.cells #[.string ⟨#[121, 49, 46, 115, 116, 97, 110, 100, 97, 114, 100, 46, 115, 105, 110, 103, 108, 101]⟩, .string ⟨#[112, 46, 115, 116, 97, 110, 100, 97, 114, 100, 46, 115, 105, 110, 103, 108, 101]⟩, .int .i64 730485, .int .i64 730850, .int .i64 730454, .int .i64 0, .string ⟨#[]⟩, .int .i64 1, .int .i64 4000, .int .i64 1, .slice none 0 0, .string ⟨#[]⟩, .int .i64 0, .int .i64 0, .int .i64 0] 55)) := ⟨_, rfl⟩
    rw [← hX]
    have x1 : X.cell? ⟨W.heap.size, 1, none⟩ = some (.string ⟨#[112, 46, 115, 116, 97, 110, 100, 97, 114, 100, 46, 115, 105, 110, 103, 108, 101]⟩) := by rw [hX]; simp
    have x8 : X.cell? ⟨W.heap.size, 8, none⟩ = some (.int .i64 4000) := by rw [hX]; simp
    have x9 : X.cell? ⟨W.heap.size, 9, none⟩ = some (.int .i64 1) := by rw [hX]; simp
    have xs : W.heap.size + 1 ≤ X.heap.size := by rw [hX]; simp
    have xb : Below W.heap.size W X := by rw [hX]; exact (Below.refl _ _).alloc (Nat.le_refl _) _
    clear hX
    go_region_held3 (fun w' => w'.cell? ⟨W.heap.size, 1, none⟩ = some (.string ⟨#[112, 46, 115, 116, 97, 110, 100, 97, 114, 100, 46, 115, 105, 110, 103, 108, 101]⟩) ∧ w'.cell? ⟨W.heap.size, 8, none⟩ = some (.int .i64 4000) ∧ w'.cell? ⟨W.heap.size, 9, none⟩ = some (.int .i64 1) ∧ W.heap.size + 1 ≤ w'.heap.size ∧ Below W.heap.size W w')
      (first
        | (refine ⟨?_, ?_, ?_, ?_, ?_⟩ <;> (first | assumption | exact xb.drew | exact xb | (simp; done)))
        | (go_split_ands
           have hsz' := Below.size ‹Below W.heap.size W _›
           refine ⟨?_, ?_, ?_, ?_, ?_⟩
           iterate 3 (· exact (hbk.cell (by first | omega | (simp; omega))).trans (by assumption))
           · exact Nat.le_trans ‹W.heap.size + 1 ≤ _› hbk.size
           · exact Below.trans ‹Below W.heap.size W _› (hbk.mono hsz'))
        | fail)
      ((go_at_call 26; refine (fact26_0 _ (HV.out.below (HB.out.trans (Below.mono (B := W.heap.size) (by go_split_ands; assumption) HS.out)))).mono ?_; rintro e w2 ⟨rfl, hbk⟩))
    all_goals
      go_split_ands
      go_wp2
      go_ret
      exact ⟨rfl, HB.out.trans (Below.mono (B := W.heap.size) (by assumption) HS.out)⟩

set_option maxRecDepth 100000 in
set_option maxHeartbeats 8000000 in
theorem source_1 (i : Int) (w : World) (hv : Vars w) (ha : (i.tmod 13 + 13) % 13 = (1 : Int)) :
    Calls Tryd.prog 6 #[.int .i64 i] w fun e w' => e = .returned (.bool true) ∧ Below w.heap.size w w' := by
  obtain ⟨b1, b2⟩ := tmodn_bd i 13 (by omega)
  go_enter Tryd.func6, Tryd.ntmps6
  go_wp2_with fail
  refine (first_any _ hv).mono ?_
  rintro e w1 ⟨rfl, hb⟩
  go_wp2_with fail
  refine (yprovs _ (hv.below hb)).mono ?_
  rintro e W ⟨B1, g1, c1, g2, c2, rfl, hB1, hB1l, hh1, ho1, ho2, hb2⟩
  obtain ⟨p1, p2, r1⟩ := row4_of ho1
  obtain ⟨p3, p4, r2⟩ := row4_of ho2
  have hP1 : PRow W B1 g1 c1 g2 c2 := ⟨hh1, r1, r2⟩
  replace hb := hb.trans (hb2.mono hb.size)
  clear hh1 ho1 ho2 r1 r2 hb2 hB1 p1 p3 p2 p4 hB1l
  go_upto_region 5 with (fail)
  · have hx : (i.tmod 13 + 13) % 13 = (1 : Int) := ha
    have k0 : W.cell? ⟨B1, 15, none⟩ = some (.string ⟨#[121, 49, 46, 115, 116, 97, 110, 100, 97, 114, 100, 46, 106, 111, 105, 110, 116]⟩) := (cell_of W B1 _ 55 hP1.1 15).trans (by kernel_rfl)
    have k1 : W.cell? ⟨B1, 16, none⟩ = some (.string ⟨#[112, 46, 115, 116, 97, 110, 100, 97, 114, 100, 46, 106, 111, 105, 110, 116]⟩) := (cell_of W B1 _ 55 hP1.1 16).trans (by kernel_rfl)
    have k2 : W.cell? ⟨B1, 17, none⟩ = some (.int .i64 730485) := (cell_of W B1 _ 55 hP1.1 17).trans (by kernel_rfl)
    have k3 : W.cell? ⟨B1, 18, none⟩ = some (.int .i64 730850) := (cell_of W B1 _ 55 hP1.1 18).trans (by kernel_rfl)
    have k4 : W.cell? ⟨B1, 19, none⟩ = some (.int .i64 730454) := (cell_of W B1 _ 55 hP1.1 19).trans (by kernel_rfl)
    have k5 : W.cell? ⟨B1, 20, none⟩ = some (.int .i64 0) := (cell_of W B1 _ 55 hP1.1 20).trans (by kernel_rfl)
    have k6 : W.cell? ⟨B1, 21, none⟩ = some (.string ⟨#[]⟩) := (cell_of W B1 _ 55 hP1.1 21).trans (by kernel_rfl)
    have k7 : W.cell? ⟨B1, 22, none⟩ = some (.int .i64 1) := (cell_of W B1 _ 55 hP1.1 22).trans (by kernel_rfl)
    have k8 : W.cell? ⟨B1, 23, none⟩ = some (.int .i64 7000) := (cell_of W B1 _ 55 hP1.1 23).trans (by kernel_rfl)
    have k9 : W.cell? ⟨B1, 24, none⟩ = some (.int .i64 1) := (cell_of W B1 _ 55 hP1.1 24).trans (by kernel_rfl)
    have k10 : W.cell? ⟨B1, 25, none⟩ = some (.slice none 0 0) := (cell_of W B1 _ 55 hP1.1 25).trans (by kernel_rfl)
    have k11 : W.cell? ⟨B1, 26, none⟩ = some (.string ⟨#[]⟩) := (cell_of W B1 _ 55 hP1.1 26).trans (by kernel_rfl)
    have k12 : W.cell? ⟨B1, 27, none⟩ = some (.int .i64 0) := (cell_of W B1 _ 55 hP1.1 27).trans (by kernel_rfl)
    have k13 : W.cell? ⟨B1, 28, none⟩ = some (.int .i64 0) := (cell_of W B1 _ 55 hP1.1 28).trans (by kernel_rfl)
    have k14 : W.cell? ⟨B1, 29, none⟩ = some (.int .i64 0) := (cell_of W B1 _ 55 hP1.1 29).trans (by kernel_rfl)
    have hBs : B1 < W.heap.size := (Array.getElem?_eq_some_iff.1 hP1.1).1
    have HP1 : Hid (PRow W B1 g1 c1 g2 c2) := hP1
    have HB : Hid (Below w.heap.size w W) := hb
    have HV : Hid (Vars w) := hv
    have HS : Hid (w.heap.size ≤ W.heap.size) := hb.size
    clear ha hP1 hb hv
    go_upto_region 8 with (fail)
    obtain ⟨X, hX⟩ : ∃ X, X = (W.alloc (.cells #[.string ⟨#[121, 49, 46, 115, 116, 97, 110, 100, 97, 114, 100, 46, 106, 111, 105, 110, 116]⟩, .string ⟨#[112, 46, 115, 116, 97, 110, 100, 97, 114, 100, 46, 106, 111, 105, 110, 116]⟩, .int .i64 730485, .int .i64 730850, .int .i64 730454, .int .i64 0, .string ⟨#[]⟩, .int .i64 1, .int .i64 7000, .int .i64 1, .slice none 0 0, .string ⟨#[]⟩, .int .i64 0, .int .i64 0, .int .i64 0] 55)) := ⟨_, rfl⟩
    rw [← hX]
    have x1 : X.cell? ⟨W.heap.size, 1, none⟩ = some (.string ⟨#[112, 46, 115, 116, 97, 110, 100, 97, 114, 100, 46, 106, 111, 105, 110, 116]⟩) := by rw [hX]; simp
    have x8 : X.cell? ⟨W.heap.size, 8, none⟩ = some (.int .i64 7000) := by rw [hX]; simp
    have x9 : X.cell? ⟨W.heap.size, 9, none⟩ = some (.int .i64 1) := by rw [hX]; simp
    have xs : W.heap.size + 1 ≤ X.heap.size := by rw [hX]; simp
    have xb : Below W.heap.size W X := by rw [hX]; exact (Below.refl _ _).alloc (Nat.le_refl _) _
    clear hX
    go_region_held3 (fun w' => w'.cell? ⟨W.heap.size, 1, none⟩ = some (.string ⟨#[112, 46, 115, 116, 97, 110, 100, 97, 114, 100, 46, 106, 111, 105, 110, 116]⟩) ∧ w'.cell? ⟨W.heap.size, 8, none⟩ = some (.int .i64 7000) ∧ w'.cell? ⟨W.heap.size, 9, none⟩ = some (.int .i64 1) ∧ W.heap.size + 1 ≤ w'.heap.size ∧ Below W.heap.size W w')
      (first
        | (refine ⟨?_, ?_, ?_, ?_, ?_⟩ <;> (first | assumption | exact xb.drew | exact xb | (simp; done)))
        | (go_split_ands
           have hsz' := Below.size ‹Below W.heap.size W _›
           refine ⟨?_, ?_, ?_, ?_, ?_⟩
           iterate 3 (· exact (hbk.cell (by first | omega | (simp; omega))).trans (by assumption))
           · exact Nat.le_trans ‹W.heap.size + 1 ≤ _› hbk.size
           · exact Below.trans ‹Below W.heap.size W _› (hbk.mono hsz'))
        | fail)
      ((go_at_call 26; refine (fact26_1 _ (HV.out.below (HB.out.trans (Below.mono (B := W.heap.size) (by go_split_ands; assumption) HS.out)))).mono ?_; rintro e w2 ⟨rfl, hbk⟩))
    all_goals
      go_split_ands
      go_wp2
      go_ret
      exact ⟨rfl, HB.out.trans (Below.mono (B := W.heap.size) (by assumption) HS.out)⟩

set_option maxRecDepth 100000 in
set_option maxHeartbeats 8000000 in
theorem source_2 (i : Int) (w : World) (hv : Vars w) (ha : (i.tmod 13 + 13) % 13 = (2 : Int)) :
    Calls Tryd.prog 6 #[.int .i64 i] w fun e w' => e = .returned (.bool true) ∧ Below w.heap.size w w' := by
  obtain ⟨b1, b2⟩ := tmodn_bd i 13 (by omega)
  go_enter Tryd.func6, Tryd.ntmps6
  go_wp2_with fail
  refine (first_any _ hv).mono ?_
  rintro e w1 ⟨rfl, hb⟩
  go_wp2_with fail
  refine (yprovs _ (hv.below hb)).mono ?_
  rintro e W ⟨B1, g1, c1, g2, c2, rfl, hB1, hB1l, hh1, ho1, ho2, hb2⟩
  obtain ⟨p1, p2, r1⟩ := row4_of ho1
  obtain ⟨p3, p4, r2⟩ := row4_of ho2
  have hP1 : PRow W B1 g1 c1 g2 c2 := ⟨hh1, r1, r2⟩
  replace hb := hb.trans (hb2.mono hb.size)
  clear hh1 ho1 ho2 r1 r2 hb2 hB1 p1 p3 p2 p4 hB1l
  go_upto_region 5 with (fail)
  · have hx : (i.tmod 13 + 13) % 13 = (2 : Int) := ha
    have k0 : W.cell? ⟨B1, 30, none⟩ = some (.string ⟨#[121, 49, 46, 99, 114, 101, 100, 105, 116, 46, 115, 105, 110, 103, 108, 101]⟩) := (cell_of W B1 _ 55 hP1.1 30).trans (by kernel_rfl)
    have k1 : W.cell? ⟨B1, 31, none⟩ = some (.string ⟨#[112, 46, 99, 114, 101, 100, 105, 116, 46, 115, 105, 110, 103, 108, 101]⟩) := (cell_of W B1 _ 55 hP1.1 31).trans (by kernel_rfl)
    have k2 : W.cell? ⟨B1, 32, none⟩ = some (.int .i64 730485) := (cell_of W B1 _ 55 hP1.1 32).trans (by kernel_rfl)
    have k3 : W.cell? ⟨B1, 33, none⟩ = some (.int .i64 730850) := (cell_of W B1 _ 55 hP1.1 33).trans (by kernel_rfl)
    have k4 : W.cell? ⟨B1, 34, none⟩ = some (.int .i64 730454) := (cell_of W B1 _ 55 hP1.1 34).trans (by kernel_rfl)
    have k5 : W.cell? ⟨B1, 35, none⟩ = some (.int .i64 0) := (cell_of W B1 _ 55 hP1.1 35).trans (by kernel_rfl)
    have k6 : W.cell? ⟨B1, 36, none⟩ = some (.string ⟨#[]⟩) := (cell_of W B1 _ 55 hP1.1 36).trans (by kernel_rfl)
    have k7 : W.cell? ⟨B1, 37, none⟩ = some (.int .i64 1) := (cell_of W B1 _ 55 hP1.1 37).trans (by kernel_rfl)
    have k8 : W.cell? ⟨B1, 38, none⟩ = some (.int .i64 500) := (cell_of W B1 _ 55 hP1.1 38).trans (by kernel_rfl)
    have k9 : W.cell? ⟨B1, 39, none⟩ = some (.int .i64 1) := (cell_of W B1 _ 55 hP1.1 39).trans (by kernel_rfl)
    have k10 : W.cell? ⟨B1, 40, none⟩ = some (.slice none 0 0) := (cell_of W B1 _ 55 hP1.1 40).trans (by kernel_rfl)
    have k11 : W.cell? ⟨B1, 41, none⟩ = some (.string ⟨#[]⟩) := (cell_of W B1 _ 55 hP1.1 41).trans (by kernel_rfl)
    have k12 : W.cell? ⟨B1, 42, none⟩ = some (.int .i64 0) := (cell_of W B1 _ 55 hP1.1 42).trans (by kernel_rfl)
    have k13 : W.cell? ⟨B1, 43, none⟩ = some (.int .i64 0) := (cell_of W B1 _ 55 hP1.1 43).trans (by kernel_rfl)
    have k14 : W.cell? ⟨B1, 44, none⟩ = some (.int .i64 0) := (cell_of W B1 _ 55 hP1.1 44).trans (by kernel_rfl)
    have hBs : B1 < W.heap.size := (Array.getElem?_eq_some_iff.1 hP1.1).1
    have HP1 : Hid (PRow W B1 g1 c1 g2 c2) := hP1
    have HB : Hid (Below w.heap.size w W) := hb
    have HV : Hid (Vars w) := hv
    have HS : Hid (w.heap.size ≤ W.heap.size) := hb.size
    clear ha hP1 hb hv
    go_upto_region 8 with (fail)
    obtain ⟨X, hX⟩ : ∃ X, X = (W.alloc (.cells #[.string ⟨#[121, 49, 46, 99, 114, 101, 100, 105, 116, 46, 115, 105, 110, 103, 108, 101]⟩, .string ⟨#[112, 46, 99, 114, 101, 100, 105, 116, 46, 115, 105, 110, 103, 108, 101]⟩, .int .i64 730485, .int .i64 730850, .int .i64 730454, .int .i64 0, .string ⟨#[]⟩, .int .i64 1, .int .i64 500, .int .i64 1, .slice none 0 0, .string ⟨#[]⟩, .int .i64 0, .int .i64 0, .int .i64 0] 55)) := ⟨_, rfl⟩
    rw [← hX]
    have x1 : X.cell? ⟨W.heap.size, 1, none⟩ = some (.string ⟨#[112, 46, 99, 114, 101, 100, 105, 116, 46, 115, 105, 110, 103, 108, 101]⟩) := by rw [hX]; simp
    have x8 : X.cell? ⟨W.heap.size, 8, none⟩ = some (.int .i64 500) := by rw [hX]; simp
    have x9 : X.cell? ⟨W.heap.size, 9, none⟩ = some (.int .i64 1) := by rw [hX]; simp
    have xs : W.heap.size + 1 ≤ X.heap.size := by rw [hX]; simp
    have xb : Below W.heap.size W X := by rw [hX]; exact (Below.refl _ _).alloc (Nat.le_refl _) _
    clear hX
    go_region_held3 (fun w' => w'.cell? ⟨W.heap.size, 1, none⟩ = some (.string ⟨#[112, 46, 99, 114, 101, 100, 105, 116, 46, 115, 105, 110, 103, 108, 101]⟩) ∧ w'.cell? ⟨W.heap.size, 8, none⟩ = some (.int .i64 500) ∧ w'.cell? ⟨W.heap.size, 9, none⟩ = some (.int .i64 1) ∧ W.heap.size + 1 ≤ w'.heap.size ∧ Below W.heap.size W w')
      (first
        | (refine ⟨?_, ?_, ?_, ?_, ?_⟩ <;> (first | assumption | exact xb.drew | exact xb | (simp; done)))
        | (go_split_ands
           have hsz' := Below.size ‹Below W.heap.size W _›
           refine ⟨?_, ?_, ?_, ?_, ?_⟩
           iterate 3 (· exact (hbk.cell (by first | omega | (simp; omega))).trans (by assumption))
           · exact Nat.le_trans ‹W.heap.size + 1 ≤ _› hbk.size
           · exact Below.trans ‹Below W.heap.size W _› (hbk.mono hsz'))
        | fail)
      ((go_at_call 26; refine (fact26_2 _ (HV.out.below (HB.out.trans (Below.mono (B := W.heap.size) (by go_split_ands; assumption) HS.out)))).mono ?_; rintro e w2 ⟨rfl, hbk⟩))
    all_goals
      go_split_ands
      go_wp2
      go_ret
      exact ⟨rfl, HB.out.trans (Below.mono (B := W.heap.size) (by assumption) HS.out)⟩

set_option maxRecDepth 100000 in
set_option maxHeartbeats 8000000 in
theorem source_3 (i : Int) (w : World) (hv : Vars w) (ha : (i.tmod 13 + 13) % 13 = (3 : Int)) :
    Calls Tryd.prog 6 #[.int .i64 i] w fun e w' => e = .returned (.bool true) ∧ Below w.heap.size w w' := by
  obtain ⟨b1, b2⟩ := tmodn_bd i 13 (by omega)
  go_enter Tryd.func6, Tryd.ntmps6
  go_wp2_with fail
  refine (first_any _ hv).mono ?_
  rintro e w1 ⟨rfl, hb⟩
  go_wp2_with fail
  refine (yprovs _ (hv.below hb)).mono ?_
  rintro e W ⟨B1, g1, c1, g2, c2, rfl, hB1, hB1l, hh1, ho1, ho2, hb2⟩
  obtain ⟨p1, p2, r1⟩ := row4_of ho1
  obtain ⟨p3, p4, r2⟩ := row4_of ho2
  have hP1 : PRow W B1 g1 c1 g2 c2 := ⟨hh1, r1, r2⟩
  replace hb := hb.trans (hb2.mono hb.size)
  clear hh1 ho1 ho2 r1 r2 hb2 hB1 p1 p3 p2 p4 hB1l
  go_upto_region 5 with (fail)
  · have hx : (i.tmod 13 + 13) % 13 = (3 : Int) := ha
    have k0 : W.cell? ⟨B1, 45, none⟩ = some (.string ⟨#[121, 49, 46, 99, 114, 101, 100, 105, 116, 46, 106, 111, 105, 110, 116]⟩) := (cell_of W B1 _ 55 hP1.1 45).trans (by kernel_rfl)
    have k1 : W.cell? ⟨B1, 46, none⟩ = some (.string ⟨#[112, 46, 99, 114, 101, 100, 105, 116, 46, 106, 111, 105, 110, 116]⟩) := (cell_of W B1 _ 55 hP1.1 46).trans (by kernel_rfl)
    have k2 : W.cell? ⟨B1, 47, none⟩ = some (.int .i64 730485) := (cell_of W B1 _ 55 hP1.1 47).trans (by kernel_rfl)
    have k3 : W.cell? ⟨B1, 48, none⟩ = some (.int .i64 730850) := (cell_of W B1 _ 55 hP1.1 48).trans (by kernel_rfl)
    have k4 : W.cell? ⟨B1, 49, none⟩ = some (.int .i64 730454) := (cell_of W B1 _ 55 hP1.1 49).trans (by kernel_rfl)
    have k5 : W.cell? ⟨B1, 50, none⟩ = some (.int .i64 0) := (cell_of W B1 _ 55 hP1.1 50).trans (by kernel_rfl)
    have k6 : W.cell? ⟨B1, 51, none⟩ = some (.string ⟨#[]⟩) := (cell_of W B1 _ 55 hP1.1 51).trans (by kernel_rfl)
    have k7 : W.cell? ⟨B1, 52, none⟩ = some (.int .i64 1) := (cell_of W B1 _ 55 hP1.1 52).trans (by kernel_rfl)
    have k8 : W.cell? ⟨B1, 53, none⟩ = some (.int .i64 900) := (cell_of W B1 _ 55 hP1.1 53).trans (by kernel_rfl)
    have k9 : W.cell? ⟨B1, 54, none⟩ = some (.int .i64 1) := (cell_of W B1 _ 55 hP1.1 54).trans (by kernel_rfl)
    have k10 : W.cell? ⟨B1, 55, none⟩ = some (.slice none 0 0) := (cell_of W B1 _ 55 hP1.1 55).trans (by kernel_rfl)
    have k11 : W.cell? ⟨B1, 56, none⟩ = some (.string ⟨#[]⟩) := (cell_of W B1 _ 55 hP1.1 56).trans (by kernel_rfl)
    have k12 : W.cell? ⟨B1, 57, none⟩ = some (.int .i64 0) := (cell_of W B1 _ 55 hP1.1 57).trans (by kernel_rfl)
    have k13 : W.cell? ⟨B1, 58, none⟩ = some (.int .i64 0) := (cell_of W B1 _ 55 hP1.1 58).trans (by kernel_rfl)
    have k14 : W.cell? ⟨B1, 59, none⟩ = some (.int .i64 0) := (cell_of W B1 _ 55 hP1.1 59).trans (by kernel_rfl)
    have hBs : B1 < W.heap.size := (Array.getElem?_eq_some_iff.1 hP1.1).1
    have HP1 : Hid (PRow W B1 g1 c1 g2 c2) := hP1
    have HB : Hid (Below w.heap.size w W) := hb
    have HV : Hid (Vars w) := hv
    have HS : Hid (w.heap.size ≤ W.heap.size) := hb.size
    clear ha hP1 hb hv
    go_upto_region 8 with (fail)
    obtain ⟨X, hX⟩ : ∃ X, X = (W.alloc (.cells #[.string ⟨#[121, 49, 46, 99, 114, 101, 100, 105, 116, 46, 106, 111, 105, 110, 116]⟩, .string ⟨#[112, 46, 99, 114, 101, 100, 105, 116, 46, 106, 111, 105, 110, 116]⟩, .int .i64 730485, .int .i64 730850, .int .i64 730454, .int .i64 0, .string ⟨#[]⟩, .int .i64 1, .int .i64 900, .int .i64 1, .slice none 0 0, .string ⟨#[]⟩, .int .i64 0, .int .i64 0, .int .i64 0] 55)) := ⟨_, rfl⟩
    rw [← hX]
    have x1 : X.cell? ⟨W.heap.size, 1, none⟩ = some (.string ⟨#[112, 46, 99, 114, 101, 100, 105, 116, 46, 106, 111, 105, 110, 116]⟩) := by rw [hX]; simp
    have x8 : X.cell? ⟨W.heap.size, 8, none⟩ = some (.int .i64 900) := by rw [hX]; simp
    have x9 : X.cell? ⟨W.heap.size, 9, none⟩ = some (.int .i64 1) := by rw [hX]; simp
    have xs : W.heap.size + 1 ≤ X.heap.size := by rw [hX]; simp
    have xb : Below W.heap.size W X := by rw [hX]; exact (Below.refl _ _).alloc (Nat.le_refl _) _
    clear hX
    go_region_held3 (fun w' => w'.cell? ⟨W.heap.size, 1, none⟩ = some (.string ⟨#[112, 46, 99, 114, 101, 100, 105, 116, 46, 106, 111, 105, 110, 116]⟩) ∧ w'.cell? ⟨W.heap.size, 8, none⟩ = some (.int .i64 900) ∧ w'.cell? ⟨W.heap.size, 9, none⟩ = some (.int .i64 1) ∧ W.heap.size + 1 ≤ w'.heap.size ∧ Below W.heap.size W w')
      (first
        | (refine ⟨?_, ?_, ?_, ?_, ?_⟩ <;> (first | assumption | exact xb.drew | exact xb | (simp; done)))
        | (go_split_ands
           have hsz' := Below.size ‹Below W.heap.size W _›
           refine ⟨?_, ?_, ?_, ?_, ?_⟩
           iterate 3 (· exact (hbk.cell (by first | omega | (simp; omega))).trans (by assumption))
           · exact Nat.le_trans ‹W.heap.size + 1 ≤ _› hbk.size
           · exact Below.trans ‹Below W.heap.size W _› (hbk.mono hsz'))
        | fail)
      ((go_at_call 26; refine (fact26_3 _ (HV.out.below (HB.out.trans (Below.mono (B := W.heap.size) (by go_split_ands; assumption) HS.out)))).mono ?_; rintro e w2 ⟨rfl, hbk⟩))
    all_goals
      go_split_ands
      go_wp2
      go_ret
      exact ⟨rfl, HB.out.trans (Below.mono (B := W.heap.size) (by assumption) HS.out)⟩

set_option maxRecDepth 100000 in
set_option maxHeartbeats 8000000 in
theorem source_4 (i : Int) (w : World) (hv : Vars w) (ha : (i.tmod 13 + 13) % 13 = (4 : Int)) :
    Calls Tryd.prog 6 #[.int .i64 i] w fun e w' => e = .returned (.bool true) ∧ Below w.heap.size w w' := by
  obtain ⟨b1, b2⟩ := tmodn_bd i 13 (by omega)
  go_enter Tryd.func6, Tryd.ntmps6
  go_wp2_with fail
  refine (first_any _ hv).mono ?_
  rintro e w1 ⟨rfl, hb⟩
  go_wp2_with fail
  refine (yprovs _ (hv.below hb)).mono ?_
  rintro e W ⟨B1, g1, c1, g2, c2, rfl, hB1, hB1l, hh1, ho1, ho2, hb2⟩
  obtain ⟨p1, p2, r1⟩ := row4_of ho1
  obtain ⟨p3, p4, r2⟩ := row4_of ho2
  have hP1 : PRow W B1 g1 c1 g2 c2 := ⟨hh1, r1, r2⟩
  replace hb := hb.trans (hb2.mono hb.size)
  clear hh1 ho1 ho2 r1 r2 hb2 hB1 p1 p3 p2 p4 hB1l
  go_upto_region 5 with (fail)
  · have hx : (i.tmod 13 + 13) % 13 = (4 : Int) := ha
    have k0 : W.cell? ⟨B1, 60, none⟩ = some (.string ⟨#[121, 49, 46, 112, 104, 97, 115, 101]⟩) := (cell_of W B1 _ 55 hP1.1 60).trans (by kernel_rfl)
    have k1 : W.cell? ⟨B1, 61, none⟩ = some (.string ⟨#[112, 46, 112, 104, 97, 115, 101]⟩) := (cell_of W B1 _ 55 hP1.1 61).trans (by kernel_rfl)
    have k2 : W.cell? ⟨B1, 62, none⟩ = some (.int .i64 730485) := (cell_of W B1 _ 55 hP1.1 62).trans (by kernel_rfl)
    have k3 : W.cell? ⟨B1, 63, none⟩ = some (.int .i64 730850) := (cell_of W B1 _ 55 hP1.1 63).trans (by kernel_rfl)
    have k4 : W.cell? ⟨B1, 64, none⟩ = some (.int .i64 730454) := (cell_of W B1 _ 55 hP1.1 64).trans (by kernel_rfl)
    have k5 : W.cell? ⟨B1, 65, none⟩ = some (.int .i64 0) := (cell_of W B1 _ 55 hP1.1 65).trans (by kernel_rfl)
    have k6 : W.cell? ⟨B1, 66, none⟩ = some (.string ⟨#[]⟩) := (cell_of W B1 _ 55 hP1.1 66).trans (by kernel_rfl)
    have k7 : W.cell? ⟨B1, 67, none⟩ = some (.int .i64 1) := (cell_of W B1 _ 55 hP1.1 67).trans (by kernel_rfl)
    have k8 : W.cell? ⟨B1, 68, none⟩ = some (.int .i64 60000) := (cell_of W B1 _ 55 hP1.1 68).trans (by kernel_rfl)
    have k9 : W.cell? ⟨B1, 69, none⟩ = some (.int .i64 1) := (cell_of W B1 _ 55 hP1.1 69).trans (by kernel_rfl)
    have k10 : W.cell? ⟨B1, 70, none⟩ = some (.slice none 0 0) := (cell_of W B1 _ 55 hP1.1 70).trans (by kernel_rfl)
    have k11 : W.cell? ⟨B1, 71, none⟩ = some (.string ⟨#[]⟩) := (cell_of W B1 _ 55 hP1.1 71).trans (by kernel_rfl)
    have k12 : W.cell? ⟨B1, 72, none⟩ = some (.int .i64 0) := (cell_of W B1 _ 55 hP1.1 72).trans (by kernel_rfl)
    have k13 : W.cell? ⟨B1, 73, none⟩ = some (.int .i64 0) := (cell_of W B1 _ 55 hP1.1 73).trans (by kernel_rfl)
    have k14 : W.cell? ⟨B1, 74, none⟩ = some (.int .i64 0) := (cell_of W B1 _ 55 hP1.1 74).trans (by kernel_rfl)
    have hBs : B1 < W.heap.size := (Array.getElem?_eq_some_iff.1 hP1.1).1
    have HP1 : Hid (PRow W B1 g1 c1 g2 c2) := hP1
    have HB : Hid (Below w.heap.size w W) := hb
    have HV : Hid (Vars w) := hv
    have HS : Hid (w.heap.size ≤ W.heap.size) := hb.size
    clear ha hP1 hb hv
    go_upto_region 8 with (fail)
    obtain ⟨X, hX⟩ : ∃ X, X = (W.alloc (.cells #[.string ⟨#[121, 49, 46, 112, 104, 97, 115, 101]⟩, .string ⟨#[112, 46, 112, 104, 97, 115, 101]⟩, .int .i64 730485, .int .i64 730850, .int .i64 730454, .int .i64 0, .string ⟨#[]⟩, .int .i64 1, .int .i64 60000, .int .i64 1, .slice none 0 0, .string ⟨#[]⟩, .int .i64 0, .int .i64 0, .int .i64 0] 55)) := ⟨_, rfl⟩
    rw [← hX]
    have x1 : X.cell? ⟨W.heap.size, 1, none⟩ = some (.string ⟨#[112, 46, 112, 104, 97, 115, 101]⟩) := by rw [hX]; simp
    have x8 : X.cell? ⟨W.heap.size, 8, none⟩ = some (.int .i64 60000) := by rw [hX]; simp
    have x9 : X.cell? ⟨W.heap.size, 9, none⟩ = some (.int .i64 1) := by rw [hX]; simp
    have xs : W.heap.size + 1 ≤ X.heap.size := by rw [hX]; simp
    have xb : Below W.heap.size W X := by rw [hX]; exact (Below.refl _ _).alloc (Nat.le_refl _) _
    clear hX
    go_region_held3 (fun w' => w'.cell? ⟨W.heap.size, 1, none⟩ = some (.string ⟨#[112, 46, 112, 104, 97, 115, 101]⟩) ∧ w'.cell? ⟨W.heap.size, 8, none⟩ = some (.int .i64 60000) ∧ w'.cell? ⟨W.heap.size, 9, none⟩ = some (.int .i64 1) ∧ W.heap.size + 1 ≤ w'.heap.size ∧ Below W.heap.size W w')
      (first
        | (refine ⟨?_, ?_, ?_, ?_, ?_⟩ <;> (first | assumption | exact xb.drew | exact xb | (simp; done)))
        | (go_split_ands
           have hsz' := Below.size ‹Below W.heap.size W _›
           refine ⟨?_, ?_, ?_, ?_, ?_⟩
           iterate 3 (· exact (hbk.cell (by first | omega | (simp; omega))).trans (by assumption))
           · exact Nat.le_trans ‹W.heap.size + 1 ≤ _› hbk.size
           · exact Below.trans ‹Below W.heap.size W _› (hbk.mono hsz'))
        | fail)
      ((go_at_call 26; refine (fact26_4 _ (HV.out.below (HB.out.trans (Below.mono (B := W.heap.size) (by go_split_ands; assumption) HS.out)))).mono ?_; rintro e w2 ⟨rfl, hbk⟩))
    all_goals
      go_split_ands
      go_wp2
      go_ret
      exact ⟨rfl, HB.out.trans (Below.mono (B := W.heap.size) (by assumption) HS.out)⟩

set_option maxRecDepth 100000 in
set_option maxHeartbeats 8000000 in
theorem source_5 (i : Int) (w : World) (hv : Vars w) (ha : (i.tmod 13 + 13) % 13 = (5 : Int)) :
    Calls Tryd.prog 6 #[.int .i64 i] w fun e w' => e = .returned (.bool true) ∧ Below w.heap.size w w' := by
  obtain ⟨b1, b2⟩ := tmodn_bd i 13 (by omega)
  go_enter Tryd.func6, Tryd.ntmps6
  go_wp2_with fail
  refine (first_any _ hv).mono ?_
  rintro e w1 ⟨rfl, hb⟩
  go_wp2_with fail
  refine (yprovs _ (hv.below hb)).mono ?_
  rintro e W ⟨B1, g1, c1, g2, c2, rfl, hB1, hB1l, hh1, ho1, ho2, hb2⟩
  obtain ⟨p1, p2, r1⟩ := row4_of ho1
  obtain ⟨p3, p4, r2⟩ := row4_of ho2
  have hP1 : PRow W B1 g1 c1 g2 c2 := ⟨hh1, r1, r2⟩
  replace hb := hb.trans (hb2.mono hb.size)
  clear hh1 ho1 ho2 r1 r2 hb2 hB1 p1 p3 p2 p4 hB1l
  go_upto_region 5 with (fail)
  · have hx : (i.tmod 13 + 13) % 13 = (5 : Int) := ha
    have k0 : W.cell? ⟨B1, 75, none⟩ = some (.string ⟨#[121, 49, 46, 115, 99, 97, 108, 101, 46, 115, 105, 110, 103, 108, 101]⟩) := (cell_of W B1 _ 55 hP1.1 75).trans (by kernel_rfl)
    have k1 : W.cell? ⟨B1, 76, none⟩ = some (.string ⟨#[115, 46, 115, 105, 110, 103, 108, 101]⟩) := (cell_of W B1 _ 55 hP1.1 76).trans (by kernel_rfl)
    have k2 : W.cell? ⟨B1, 77, none⟩ = some (.int .i64 730485) := (cell_of W B1 _ 55 hP1.1 77).trans (by kernel_rfl)
    have k3 : W.cell? ⟨B1, 78, none⟩ = some (.int .i64 730850) := (cell_of W B1 _ 55 hP1.1 78).trans (by kernel_rfl)
    have k4 : W.cell? ⟨B1, 79, none⟩ = some (.int .i64 730454) := (cell_of W B1 _ 55 hP1.1 79).trans (by kernel_rfl)
    have k5 : W.cell? ⟨B1, 80, none⟩ = some (.int .i64 0) := (cell_of W B1 _ 55 hP1.1 80).trans (by kernel_rfl)
    have k6 : W.cell? ⟨B1, 81, none⟩ = some (.string ⟨#[]⟩) := (cell_of W B1 _ 55 hP1.1 81).trans (by kernel_rfl)
    have k7 : W.cell? ⟨B1, 82, none⟩ = some (.int .i64 2) := (cell_of W B1 _ 55 hP1.1 82).trans (by kernel_rfl)
    have k8 : W.cell? ⟨B1, 83, none⟩ = some (.int .i64 0) := (cell_of W B1 _ 55 hP1.1 83).trans (by kernel_rfl)
    have k9 : W.cell? ⟨B1, 84, none⟩ = some (.int .i64 0) := (cell_of W B1 _ 55 hP1.1 84).trans (by kernel_rfl)
    have k10 : W.cell? ⟨B1, 85, none⟩ = some ((.slice (some ⟨g1, 0, none⟩) 4 c1)) := (cell_of W B1 _ 55 hP1.1 85).trans (by kernel_rfl)
    have k11 : W.cell? ⟨B1, 86, none⟩ = some (.string ⟨#[]⟩) := (cell_of W B1 _ 55 hP1.1 86).trans (by kernel_rfl)
    have k12 : W.cell? ⟨B1, 87, none⟩ = some (.int .i64 0) := (cell_of W B1 _ 55 hP1.1 87).trans (by kernel_rfl)
    have k13 : W.cell? ⟨B1, 88, none⟩ = some (.int .i64 0) := (cell_of W B1 _ 55 hP1.1 88).trans (by kernel_rfl)
    have k14 : W.cell? ⟨B1, 89, none⟩ = some (.int .i64 0) := (cell_of W B1 _ 55 hP1.1 89).trans (by kernel_rfl)
    have hBs : B1 < W.heap.size := (Array.getElem?_eq_some_iff.1 hP1.1).1
    have HP1 : Hid (PRow W B1 g1 c1 g2 c2) := hP1
    have HB : Hid (Below w.heap.size w W) := hb
    have HV : Hid (Vars w) := hv
    have HS : Hid (w.heap.size ≤ W.heap.size) := hb.size
    clear ha hP1 hb hv
    go_wp2_with fail
    have hal : Below W.heap.size W (W.alloc (.cells #[.string ⟨#[121, 49, 46, 115, 99, 97, 108, 101, 46, 115, 105, 110, 103, 108, 101]⟩, .string ⟨#[115, 46, 115, 105, 110, 103, 108, 101]⟩, .int .i64 730485, .int .i64 730850, .int .i64 730454, .int .i64 0, .string ⟨#[]⟩, .int .i64 2, .int .i64 0, .int .i64 0, (.slice (some ⟨g1, 0, none⟩) 4 c1), .string ⟨#[]⟩, .int .i64 0, .int .i64 0, .int .i64 0] 55)) := (Below.refl _ _).alloc (Nat.le_refl _) _
    have hb3 := HB.out.trans (hal.mono HS.out)
    have hr := (HP1.out.later hal).2.1
    refine (scaled_false g1 c1 _ (HV.out.below hb3) hr.lt hr.cells).mono ?_
    rintro e w2 ⟨rfl, hb2⟩
    have hb4 := hb3.trans (hb2.mono hb3.size)
    clear hb2 hb3 hr hal
    go_wp2
    go_ret
    exact ⟨rfl, hb4⟩

set_option maxRecDepth 100000 in
set_option maxHeartbeats 8000000 in
theorem source_6 (i : Int) (w : World) (hv : Vars w) (ha : (i.tmod 13 + 13) % 13 = (6 : Int)) :
    Calls Tryd.prog 6 #[.int .i64 i] w fun e w' => e = .returned (.bool true) ∧ Below w.heap.size w w' := by
  obtain ⟨b1, b2⟩ := tmodn_bd i 13 (by omega)
  go_enter Tryd.func6, Tryd.ntmps6
  go_wp2_with fail
  refine (first_any _ hv).mono ?_
  rintro e w1 ⟨rfl, hb⟩
  go_wp2_with fail
  refine (yprovs _ (hv.below hb)).mono ?_
  rintro e W ⟨B1, g1, c1, g2, c2, rfl, hB1, hB1l, hh1, ho1, ho2, hb2⟩
  obtain ⟨p1, p2, r1⟩ := row4_of ho1
  obtain ⟨p3, p4, r2⟩ := row4_of ho2
  have hP1 : PRow W B1 g1 c1 g2 c2 := ⟨hh1, r1, r2⟩
  replace hb := hb.trans (hb2.mono hb.size)
  clear hh1 ho1 ho2 r1 r2 hb2 hB1 p1 p3 p2 p4 hB1l
  go_upto_region 5 with (fail)
  · have hx : (i.tmod 13 + 13) % 13 = (6 : Int) := ha
    have k0 : W.cell? ⟨B1, 90, none⟩ = some (.string ⟨#[121, 49, 46, 115, 99, 97, 108, 101, 46, 106, 111, 105, 110, 116]⟩) := (cell_of W B1 _ 55 hP1.1 90).trans (by kernel_rfl)
    have k1 : W.cell? ⟨B1, 91, none⟩ = some (.string ⟨#[115, 46, 106, 111, 105, 110, 116]⟩) := (cell_of W B1 _ 55 hP1.1 91).trans (by kernel_rfl)
    have k2 : W.cell? ⟨B1, 92, none⟩ = some (.int .i64 730485) := (cell_of W B1 _ 55 hP1.1 92).trans (by kernel_rfl)
    have k3 : W.cell? ⟨B1, 93, none⟩ = some (.int .i64 730850) := (cell_of W B1 _ 55 hP1.1 93).trans (by kernel_rfl)
    have k4 : W.cell? ⟨B1, 94, none⟩ = some (.int .i64 730454) := (cell_of W B1 _ 55 hP1.1 94).trans (by kernel_rfl)
    have k5 : W.cell? ⟨B1, 95, none⟩ = some (.int .i64 0) := (cell_of W B1 _ 55 hP1.1 95).trans (by kernel_rfl)
    have k6 : W.cell? ⟨B1, 96, none⟩ = some (.string ⟨#[]⟩) := (cell_of W B1 _ 55 hP1.1 96).trans (by kernel_rfl)
    have k7 : W.cell? ⟨B1, 97, none⟩ = some (.int .i64 2) := (cell_of W B1 _ 55 hP1.1 97).trans (by kernel_rfl)
    have k8 : W.cell? ⟨B1, 98, none⟩ = some (.int .i64 0) := (cell_of W B1 _ 55 hP1.1 98).trans (by kernel_rfl)
    have k9 : W.cell? ⟨B1, 99, none⟩ = some (.int .i64 0) := (cell_of W B1 _ 55 hP1.1 99).trans (by kernel_rfl)
    have k10 : W.cell? ⟨B1, 100, none⟩ = some ((.slice (some ⟨g2, 0, none⟩) 4 c2)) := (cell_of W B1 _ 55 hP1.1 100).trans (by kernel_rfl)
    have k11 : W.cell? ⟨B1, 101, none⟩ = some (.string ⟨#[]⟩) := (cell_of W B1 _ 55 hP1.1 101).trans (by kernel_rfl)
    have k12 : W.cell? ⟨B1, 102, none⟩ = some (.int .i64 0) := (cell_of W B1 _ 55 hP1.1 102).trans (by kernel_rfl)
    have k13 : W.cell? ⟨B1, 103, none⟩ = some (.int .i64 0) := (cell_of W B1 _ 55 hP1.1 103).trans (by kernel_rfl)
    have k14 : W.cell? ⟨B1, 104, none⟩ = some (.int .i64 0) := (cell_of W B1 _ 55 hP1.1 104).trans (by kernel_rfl)
    have hBs : B1 < W.heap.size := (Array.getElem?_eq_some_iff.1 hP1.1).1
    have HP1 : Hid (PRow W B1 g1 c1 g2 c2) := hP1
    have HB : Hid (Below w.heap.size w W) := hb
    have HV : Hid (Vars w) := hv
    have HS : Hid (w.heap.size ≤ W.heap.size) := hb.size
    clear ha hP1 hb hv
    go_wp2_with fail
    have hal : Below W.heap.size W (W.alloc (.cells #[.string ⟨#[121, 49, 46, 115, 99, 97, 108, 101, 46, 106, 111, 105, 110, 116]⟩, .string ⟨#[115, 46, 106, 111, 105, 110, 116]⟩, .int .i64 730485, .int .i64 730850, .int .i64 730454, .int .i64 0, .string ⟨#[]⟩, .int .i64 2, .int .i64 0, .int .i64 0, (.slice (some ⟨g2, 0, none⟩) 4 c2), .string ⟨#[]⟩, .int .i64 0, .int .i64 0, .int .i64 0] 55)) := (Below.refl _ _).alloc (Nat.le_refl _) _
    have hb3 := HB.out.trans (hal.mono HS.out)
    have hr := (HP1.out.later hal).2.2
    refine (scaled_true g2 c2 _ (HV.out.below hb3) hr.lt hr.cells).mono ?_
    rintro e w2 ⟨rfl, hb2⟩
    have hb4 := hb3.trans (hb2.mono hb3.size)
    clear hb2 hb3 hr hal
    go_wp2
    go_ret
    exact ⟨rfl, hb4⟩

set_option maxRecDepth 100000 in
set_option maxHeartbeats 8000000 in
theorem source_7 (i : Int) (w : World) (hv : Vars w) (ha : (i.tmod 13 + 13) % 13 = (7 : Int)) :
    Calls Tryd.prog 6 #[.int .i64 i] w fun e w' => e = .returned (.bool true) ∧ Below w.heap.size w w' := by
  obtain ⟨b1, b2⟩ := tmodn_bd i 13 (by omega)
  go_enter Tryd.func6, Tryd.ntmps6
  go_wp2_with fail
  refine (first_any _ hv).mono ?_
  rintro e w1 ⟨rfl, hb⟩
  go_wp2_with fail
  refine (yprovs _ (hv.below hb)).mono ?_
  rintro e W ⟨B1, g1, c1, g2, c2, rfl, hB1, hB1l, hh1, ho1, ho2, hb2⟩
  obtain ⟨p1, p2, r1⟩ := row4_of ho1
  obtain ⟨p3, p4, r2⟩ := row4_of ho2
  have hP1 : PRow W B1 g1 c1 g2 c2 := ⟨hh1, r1, r2⟩
  replace hb := hb.trans (hb2.mono hb.size)
  clear hh1 ho1 ho2 r1 r2 hb2 hB1 p1 p3 p2 p4 hB1l
  go_upto_region 5 with (fail)
  · have hx : (i.tmod 13 + 13) % 13 = (7 : Int) := ha
    have k0 : W.cell? ⟨B1, 105, none⟩ = some (.string ⟨#[121, 49, 46, 108, 105, 110, 101, 46, 105, 110, 99, 111, 109, 101]⟩) := (cell_of W B1 _ 55 hP1.1 105).trans (by kernel_rfl)
    have k1 : W.cell? ⟨B1, 106, none⟩ = some (.string ⟨#[108, 105, 110, 101, 46, 105, 110, 99, 111, 109, 101]⟩) := (cell_of W B1 _ 55 hP1.1 106).trans (by kernel_rfl)
    have k2 : W.cell? ⟨B1, 107, none⟩ = some (.int .i64 730485) := (cell_of W B1 _ 55 hP1.1 107).trans (by kernel_rfl)
    have k3 : W.cell? ⟨B1, 108, none⟩ = some (.int .i64 3652059) := (cell_of W B1 _ 55 hP1.1 108).trans (by kernel_rfl)
    have k4 : W.cell? ⟨B1, 109, none⟩ = some (.int .i64 730454) := (cell_of W B1 _ 55 hP1.1 109).trans (by kernel_rfl)
    have k5 : W.cell? ⟨B1, 110, none⟩ = some (.int .i64 0) := (cell_of W B1 _ 55 hP1.1 110).trans (by kernel_rfl)
    have k6 : W.cell? ⟨B1, 111, none⟩ = some (.string ⟨#[]⟩) := (cell_of W B1 _ 55 hP1.1 111).trans (by kernel_rfl)
    have k7 : W.cell? ⟨B1, 112, none⟩ = some (.int .i64 3) := (cell_of W B1 _ 55 hP1.1 112).trans (by kernel_rfl)
    have k8 : W.cell? ⟨B1, 113, none⟩ = some (.int .i64 0) := (cell_of W B1 _ 55 hP1.1 113).trans (by kernel_rfl)
    have k9 : W.cell? ⟨B1, 114, none⟩ = some (.int .i64 0) := (cell_of W B1 _ 55 hP1.1 114).trans (by kernel_rfl)
    have k10 : W.cell? ⟨B1, 115, none⟩ = some (.slice none 0 0) := (cell_of W B1 _ 55 hP1.1 115).trans (by kernel_rfl)
    have k11 : W.cell? ⟨B1, 116, none⟩ = some (.string ⟨#[105, 110, 46, 119, 97, 103, 101, 115, 32, 43, 32, 105, 110, 46, 105, 110, 116, 101, 114, 101, 115, 116, 32, 43, 32, 105, 110, 46, 103, 97, 105, 110, 115]⟩) := (cell_of W B1 _ 55 hP1.1 116).trans (by kernel_rfl)
    have k12 : W.cell? ⟨B1, 117, none⟩ = some (.int .i64 5) := (cell_of W B1 _ 55 hP1.1 117).trans (by kernel_rfl)
    have k13 : W.cell? ⟨B1, 118, none⟩ = some (.int .i64 1) := (cell_of W B1 _ 55 hP1.1 118).trans (by kernel_rfl)
    have k14 : W.cell? ⟨B1, 119, none⟩ = some (.int .i64 1) := (cell_of W B1 _ 55 hP1.1 119).trans (by kernel_rfl)
    have hBs : B1 < W.heap.size := (Array.getElem?_eq_some_iff.1 hP1.1).1
    have HP1 : Hid (PRow W B1 g1 c1 g2 c2) := hP1
    have HB : Hid (Below w.heap.size w W) := hb
    have HV : Hid (Vars w) := hv
    have HS : Hid (w.heap.size ≤ W.heap.size) := hb.size
    clear ha hP1 hb hv
    go_wp2_with fail
    have hal : Below W.heap.size W (W.alloc (.cells #[.string ⟨#[121, 49, 46, 108, 105, 110, 101, 46, 105, 110, 99, 111, 109, 101]⟩, .string ⟨#[108, 105, 110, 101, 46, 105, 110, 99, 111, 109, 101]⟩, .int .i64 730485, .int .i64 3652059, .int .i64 730454, .int .i64 0, .string ⟨#[]⟩, .int .i64 3, .int .i64 0, .int .i64 0, .slice none 0 0, .string ⟨#[105, 110, 46, 119, 97, 103, 101, 115, 32, 43, 32, 105, 110, 46, 105, 110, 116, 101, 114, 101, 115, 116, 32, 43, 32, 105, 110, 46, 103, 97, 105, 110, 115]⟩, .int .i64 5, .int .i64 1, .int .i64 1] 55)) := (Below.refl _ _).alloc (Nat.le_refl _) _
    have hb3 := HB.out.trans (hal.mono HS.out)
    have kk : (W.alloc (.cells #[.string ⟨#[121, 49, 46, 108, 105, 110, 101, 46, 105, 110, 99, 111, 109, 101]⟩, .string ⟨#[108, 105, 110, 101, 46, 105, 110, 99, 111, 109, 101]⟩, .int .i64 730485, .int .i64 3652059, .int .i64 730454, .int .i64 0, .string ⟨#[]⟩, .int .i64 3, .int .i64 0, .int .i64 0, .slice none 0 0, .string ⟨#[105, 110, 46, 119, 97, 103, 101, 115, 32, 43, 32, 105, 110, 46, 105, 110, 116, 101, 114, 101, 115, 116, 32, 43, 32, 105, 110, 46, 103, 97, 105, 110, 115]⟩, .int .i64 5, .int .i64 1, .int .i64 1] 55)).cell? ⟨W.heap.size, 7, none⟩ = some (.int .i64 3) := by simp
    refine (names13 _).mono ?_
    rintro e w3 ⟨Ba, rfl, hBa1, hBa2, hBa3, hb6⟩
    rw [show nameList.length = 7 from rfl]
    have H3 : Hid (Below w.heap.size w w3) := hb3.trans (hb6.mono hb3.size)
    have HK : Hid (w3.cell? ⟨W.heap.size, 7, none⟩ = some (.int .i64 3)) := (hb6.cell (by simp)).trans kk
    have HN : Hid (∀ k, k < 7 → w3.cell? ⟨Ba, k, none⟩ = some (.string (nameList.getD k ByteArray.empty))) := fun k hk => (cell_of w3 Ba _ _ hBa3 k).trans (txts_at _ _ (by simp [nameList]; omega))
    have HW3 : Hid (W.heap.size < w3.heap.size ∧ Ba < w3.heap.size) := ⟨Nat.lt_of_lt_of_le (by simp) hb6.size, hBa2⟩
    clear k0 k1 k2 k3 k4 k5 k6 k7 k8 k9 k10 k11 k12 k13 k14 hBs kk hb3 hal hBa1 hBa2 hBa3 hb6 HP1 HB HS
    go_wp2
    go_loopw [7] (fun i' wr => ∃ k : Nat, k ≤ 7 ∧ i' = .int .i64 k ∧ Below w3.heap.size w3 wr) (fun i' _ => 7 - (intOf i').toNat)
    case atStart => exact ⟨0, by omega, rfl, Below.refl _ _⟩
    case round =>
      obtain ⟨wo, rfl⟩ : ∃ x, x = wr := ⟨wr, rfl⟩
      obtain ⟨k, hk, rfl, hb⟩ := hrel
      by_cases hlt : k < 7
      · have k0 : (0 : Int) ≤ (k : Int) := by omega
        have k1 : (k : Int) < (7 : Int) := by omega
        have cn : wo.cell? ⟨Ba, k, none⟩ = some (.string (nameList.getD k ByteArray.empty)) := (hb.cell (p := ⟨Ba, k, none⟩) HW3.out.2).trans (HN.out k hlt)
        have hT := tab_all k hlt
        clear HN
        generalize nameList.getD k ByteArray.empty = s at *
        have HT : Hid (Tab (nums s)) := hT
        have HCN : Hid (wo.cell? ⟨Ba, k, none⟩ = some (.string s)) := cn
        have HBW : Hid (Below w3.heap.size w3 wo) := hb
        have HBa : Hid (Ba < wo.heap.size) := Nat.lt_of_lt_of_le HW3.out.2 hb.size
        have HV4 : Hid (Vars wo) := (HV.out.below H3.out).below hb
        clear hT hb cn
        go_wp2
        go_loopw [8, 9] (fun v j wr => ∃ m : Nat, m ≤ 9 ∧ j = .int .i64 m ∧ v = .int .i64 ((nums s).take m).sum ∧ Below wo.heap.size wo wr) (fun _ j _ => 9 - (intOf j).toNat)
        case atStart => exact ⟨0, by omega, rfl, by simp, Below.refl _ _⟩
        case round =>
          obtain ⟨m, hm, rfl, rfl, hb2⟩ := hrel
          have HB2 : Hid (Below wo.heap.size wo wr) := hb2
          have cq : wr.cell? ⟨Ba, k, none⟩ = some (.string s) := (hb2.cell (p := ⟨Ba, k, none⟩) HBa.out).trans HCN.out
          clear hb2
          by_cases hlm : m < 9
          · have m0 : (0 : Int) ≤ (m : Int) := by omega
            have m1 : (m : Int) < (9 : Int) := by omega
            obtain ⟨t1, t2, t3, t4, t5, t6⟩ := HT.out.1 m hlm
            go_wp2_with fail
            refine (fact_all _ _ _ (HV4.out.below HB2.out)).mono ?_
            rintro e w5 ⟨rfl, hb5⟩
            have HB5 : Hid (Below wo.heap.size wo w5) := HB2.out.trans (hb5.mono HB2.out.size)
            have T1 : Hid (((nums s).take m).sum + factV (nums s) m = ((nums s).take (m + 1)).sum) := t1
            clear hb5 t1 cq
            generalize hz : ((nums s).take (m + 1)).sum = z at *
            have HZ : Hid (((nums s).take (m + 1)).sum = z) := hz
            clear hz
            generalize ((nums s).take m).sum = y at *
            cases hf : factB (nums s) m with
            | false =>
              have e0 := t6 hf
              rw [e0]
              have T2 : Hid (y = z) := by have h9 := T1.out; rw [e0] at h9; exact (Int.add_zero y).symm.trans h9
              clear T1 e0 t6 t4 t5 hf
              go_wp2
              go_roundw
              case rel => exact ⟨m + 1, by omega, by go_num, by rw [HZ.out, T2.out], HB5.out⟩
              case measure => simp [intOf]; omega
            | true =>
              clear t6 hf
              generalize factV (nums s) m = x at *
              go_wp2
              go_roundw
              case rel => exact ⟨m + 1, by omega, by go_num, by rw [HZ.out, T1.out], HB5.out⟩
              case measure => simp [intOf]; omega
          · obtain rfl : m = 9 := by omega
            go_wp2_with fail
            refine (sum_all _ _ (HV4.out.below HB2.out)).mono ?_
            rintro e w5 ⟨rfl, hb5⟩
            have HB5 : Hid (Below wo.heap.size wo w5) := HB2.out.trans (hb5.mono HB2.out.size)
            clear hb5 cq
            rw [HT.out.2.2, ← HT.out.2.1]
            generalize ((nums s).take 9).sum = y
            go_wp2
            go_roundw
            case rel => exact ⟨k + 1, by omega, by go_num, HBW.out.trans (HB5.out.mono HBW.out.size)⟩
            case measure => simp [intOf]; omega
      · obtain rfl : k = 7 := by omega
        have kk : wo.cell? ⟨W.heap.size, 7, none⟩ = some (.int .i64 3) := (hb.cell (p := ⟨W.heap.size, 7, none⟩) HW3.out.1).trans HK.out
        go_wp2
        go_ret
        exact ⟨rfl, H3.out.trans (hb.mono H3.out.size)⟩

set_option maxRecDepth 100000 in
set_option maxHeartbeats 8000000 in
theorem source_8 (i : Int) (w : World) (hv : Vars w) (ha : (i.tmod 13 + 13) % 13 = (8 : Int)) :
    Calls Tryd.prog 6 #[.int .i64 i] w fun e w' => e = .returned (.bool true) ∧ Below w.heap.size w w' := by
  obtain ⟨b1, b2⟩ := tmodn_bd i 13 (by omega)
  go_enter Tryd.func6, Tryd.ntmps6
  go_wp2_with fail
  refine (first_any _ hv).mono ?_
  rintro e w1 ⟨rfl, hb⟩
  go_wp2_with fail
  refine (yprovs _ (hv.below hb)).mono ?_
  rintro e W ⟨B1, g1, c1, g2, c2, rfl, hB1, hB1l, hh1, ho1, ho2, hb2⟩
  obtain ⟨p1, p2, r1⟩ := row4_of ho1
  obtain ⟨p3, p4, r2⟩ := row4_of ho2
  have hP1 : PRow W B1 g1 c1 g2 c2 := ⟨hh1, r1, r2⟩
  replace hb := hb.trans (hb2.mono hb.size)
  clear hh1 ho1 ho2 r1 r2 hb2 hB1 p1 p3 p2 p4 hB1l
  go_upto_region 5 with (fail)
  · have hx : (i.tmod 13 + 13) % 13 = (8 : Int) := ha
    have k0 : W.cell? ⟨B1, 120, none⟩ = some (.string ⟨#[121, 49, 46, 108, 105, 110, 101, 46, 100, 101, 100, 117, 99, 116]⟩) := (cell_of W B1 _ 55 hP1.1 120).trans (by kernel_rfl)
    have k1 : W.cell? ⟨B1, 121, none⟩ = some (.string ⟨#[108, 105, 110, 101, 46, 100, 101, 100, 117, 99, 116]⟩) := (cell_of W B1 _ 55 hP1.1 121).trans (by kernel_rfl)
    have k2 : W.cell? ⟨B1, 122, none⟩ = some (.int .i64 730485) := (cell_of W B1 _ 55 hP1.1 122).trans (by kernel_rfl)
    have k3 : W.cell? ⟨B1, 123, none⟩ = some (.int .i64 3652059) := (cell_of W B1 _ 55 hP1.1 123).trans (by kernel_rfl)
    have k4 : W.cell? ⟨B1, 124, none⟩ = some (.int .i64 730454) := (cell_of W B1 _ 55 hP1.1 124).trans (by kernel_rfl)
    have k5 : W.cell? ⟨B1, 125, none⟩ = some (.int .i64 0) := (cell_of W B1 _ 55 hP1.1 125).trans (by kernel_rfl)
    have k6 : W.cell? ⟨B1, 126, none⟩ = some (.string ⟨#[]⟩) := (cell_of W B1 _ 55 hP1.1 126).trans (by kernel_rfl)
    have k7 : W.cell? ⟨B1, 127, none⟩ = some (.int .i64 3) := (cell_of W B1 _ 55 hP1.1 127).trans (by kernel_rfl)
    have k8 : W.cell? ⟨B1, 128, none⟩ = some (.int .i64 0) := (cell_of W B1 _ 55 hP1.1 128).trans (by kernel_rfl)
    have k9 : W.cell? ⟨B1, 129, none⟩ = some (.int .i64 0) := (cell_of W B1 _ 55 hP1.1 129).trans (by kernel_rfl)
    have k10 : W.cell? ⟨B1, 130, none⟩ = some (.slice none 0 0) := (cell_of W B1 _ 55 hP1.1 130).trans (by kernel_rfl)
    have k11 : W.cell? ⟨B1, 131, none⟩ = some (.string ⟨#[109, 97, 120, 40, 105, 102, 32, 105, 110, 46, 106, 111, 105, 110, 116, 32, 61, 32, 49, 32, 116, 104, 101, 110, 32, 112, 46, 115, 116, 97, 110, 100, 97, 114, 100, 46, 106, 111, 105, 110, 116, 32, 101, 108, 115, 101, 32, 112, 46, 115, 116, 97, 110, 100, 97, 114, 100, 46, 115, 105, 110, 103, 108, 101, 44, 32, 105, 110, 46, 105, 116, 101, 109, 105, 122, 101, 100, 41]⟩) := (cell_of W B1 _ 55 hP1.1 131).trans (by kernel_rfl)
    have k12 : W.cell? ⟨B1, 132, none⟩ = some (.int .i64 1) := (cell_of W B1 _ 55 hP1.1 132).trans (by kernel_rfl)
    have k13 : W.cell? ⟨B1, 133, none⟩ = some (.int .i64 1) := (cell_of W B1 _ 55 hP1.1 133).trans (by kernel_rfl)
    have k14 : W.cell? ⟨B1, 134, none⟩ = some (.int .i64 1) := (cell_of W B1 _ 55 hP1.1 134).trans (by kernel_rfl)
    have hBs : B1 < W.heap.size := (Array.getElem?_eq_some_iff.1 hP1.1).1
    have HP1 : Hid (PRow W B1 g1 c1 g2 c2) := hP1
    have HB : Hid (Below w.heap.size w W) := hb
    have HV : Hid (Vars w) := hv
    have HS : Hid (w.heap.size ≤ W.heap.size) := hb.size
    clear ha hP1 hb hv
    go_wp2_with fail
    have hal : Below W.heap.size W (W.alloc (.cells #[.string ⟨#[121, 49, 46, 108, 105, 110, 101, 46, 100, 101, 100, 117, 99, 116]⟩, .string ⟨#[108, 105, 110, 101, 46, 100, 101, 100, 117, 99, 116]⟩, .int .i64 730485, .int .i64 3652059, .int .i64 730454, .int .i64 0, .string ⟨#[]⟩, .int .i64 3, .int .i64 0, .int .i64 0, .slice none 0 0, .string ⟨#[109, 97, 120, 40, 105, 102, 32, 105, 110, 46, 106, 111, 105, 110, 116, 32, 61, 32, 49, 32, 116, 104, 101, 110, 32, 112, 46, 115, 116, 97, 110, 100, 97, 114, 100, 46, 106, 111, 105, 110, 116, 32, 101, 108, 115, 101, 32, 112, 46, 115, 116, 97, 110, 100, 97, 114, 100, 46, 115, 105, 110, 103, 108, 101, 44, 32, 105, 110, 46, 105, 116, 101, 109, 105, 122, 101, 100, 41]⟩, .int .i64 1, .int .i64 1, .int .i64 1] 55)) := (Below.refl _ _).alloc (Nat.le_refl _) _
    have hb3 := HB.out.trans (hal.mono HS.out)
    have kk : (W.alloc (.cells #[.string ⟨#[121, 49, 46, 108, 105, 110, 101, 46, 100, 101, 100, 117, 99, 116]⟩, .string ⟨#[108, 105, 110, 101, 46, 100, 101, 100, 117, 99, 116]⟩, .int .i64 730485, .int .i64 3652059, .int .i64 730454, .int .i64 0, .string ⟨#[]⟩, .int .i64 3, .int .i64 0, .int .i64 0, .slice none 0 0, .string ⟨#[109, 97, 120, 40, 105, 102, 32, 105, 110, 46, 106, 111, 105, 110, 116, 32, 61, 32, 49, 32, 116, 104, 101, 110, 32, 112, 46, 115, 116, 97, 110, 100, 97, 114, 100, 46, 106, 111, 105, 110, 116, 32, 101, 108, 115, 101, 32, 112, 46, 115, 116, 97, 110, 100, 97, 114, 100, 46, 115, 105, 110, 103, 108, 101, 44, 32, 105, 110, 46, 105, 116, 101, 109, 105, 122, 101, 100, 41]⟩, .int .i64 1, .int .i64 1, .int .i64 1] 55)).cell? ⟨W.heap.size, 7, none⟩ = some (.int .i64 3) := by simp
    refine (names13 _).mono ?_
    rintro e w3 ⟨Ba, rfl, hBa1, hBa2, hBa3, hb6⟩
    rw [show nameList.length = 7 from rfl]
    have H3 : Hid (Below w.heap.size w w3) := hb3.trans (hb6.mono hb3.size)
    have HK : Hid (w3.cell? ⟨W.heap.size, 7, none⟩ = some (.int .i64 3)) := (hb6.cell (by simp)).trans kk
    have HN : Hid (∀ k, k < 7 → w3.cell? ⟨Ba, k, none⟩ = some (.string (nameList.getD k ByteArray.empty))) := fun k hk => (cell_of w3 Ba _ _ hBa3 k).trans (txts_at _ _ (by simp [nameList]; omega))
    have HW3 : Hid (W.heap.size < w3.heap.size ∧ Ba < w3.heap.size) := ⟨Nat.lt_of_lt_of_le (by simp) hb6.size, hBa2⟩
    clear k0 k1 k2 k3 k4 k5 k6 k7 k8 k9 k10 k11 k12 k13 k14 hBs kk hb3 hal hBa1 hBa2 hBa3 hb6 HP1 HB HS
    go_wp2
    go_loopw [7] (fun i' wr => ∃ k : Nat, k ≤ 7 ∧ i' = .int .i64 k ∧ Below w3.heap.size w3 wr) (fun i' _ => 7 - (intOf i').toNat)
    case atStart => exact ⟨0, by omega, rfl, Below.refl _ _⟩
    case round =>
      obtain ⟨wo, rfl⟩ : ∃ x, x = wr := ⟨wr, rfl⟩
      obtain ⟨k, hk, rfl, hb⟩ := hrel
      by_cases hlt : k < 7
      · have k0 : (0 : Int) ≤ (k : Int) := by omega
        have k1 : (k : Int) < (7 : Int) := by omega
        have cn : wo.cell? ⟨Ba, k, none⟩ = some (.string (nameList.getD k ByteArray.empty)) := (hb.cell (p := ⟨Ba, k, none⟩) HW3.out.2).trans (HN.out k hlt)
        have hT := tab_all k hlt
        clear HN
        generalize nameList.getD k ByteArray.empty = s at *
        have HT : Hid (Tab (nums s)) := hT
        have HCN : Hid (wo.cell? ⟨Ba, k, none⟩ = some (.string s)) := cn
        have HBW : Hid (Below w3.heap.size w3 wo) := hb
        have HBa : Hid (Ba < wo.heap.size) := Nat.lt_of_lt_of_le HW3.out.2 hb.size
        have HV4 : Hid (Vars wo) := (HV.out.below H3.out).below hb
        clear hT hb cn
        go_wp2
        go_loopw [8, 9] (fun v j wr => ∃ m : Nat, m ≤ 9 ∧ j = .int .i64 m ∧ v = .int .i64 ((nums s).take m).sum ∧ Below wo.heap.size wo wr) (fun _ j _ => 9 - (intOf j).toNat)
        case atStart => exact ⟨0, by omega, rfl, by simp, Below.refl _ _⟩
        case round =>
          obtain ⟨m, hm, rfl, rfl, hb2⟩ := hrel
          have HB2 : Hid (Below wo.heap.size wo wr) := hb2
          have cq : wr.cell? ⟨Ba, k, none⟩ = some (.string s) := (hb2.cell (p := ⟨Ba, k, none⟩) HBa.out).trans HCN.out
          clear hb2
          by_cases hlm : m < 9
          · have m0 : (0 : Int) ≤ (m : Int) := by omega
            have m1 : (m : Int) < (9 : Int) := by omega
            obtain ⟨t1, t2, t3, t4, t5, t6⟩ := HT.out.1 m hlm
            go_wp2_with fail
            refine (fact_all _ _ _ (HV4.out.below HB2.out)).mono ?_
            rintro e w5 ⟨rfl, hb5⟩
            have HB5 : Hid (Below wo.heap.size wo w5) := HB2.out.trans (hb5.mono HB2.out.size)
            have T1 : Hid (((nums s).take m).sum + factV (nums s) m = ((nums s).take (m + 1)).sum) := t1
            clear hb5 t1 cq
            generalize hz : ((nums s).take (m + 1)).sum = z at *
            have HZ : Hid (((nums s).take (m + 1)).sum = z) := hz
            clear hz
            generalize ((nums s).take m).sum = y at *
            cases hf : factB (nums s) m with
            | false =>
              have e0 := t6 hf
              rw [e0]
              have T2 : Hid (y = z) := by have h9 := T1.out; rw [e0] at h9; exact (Int.add_zero y).symm.trans h9
              clear T1 e0 t6 t4 t5 hf
              go_wp2
              go_roundw
              case rel => exact ⟨m + 1, by omega, by go_num, by rw [HZ.out, T2.out], HB5.out⟩
              case measure => simp [intOf]; omega
            | true =>
              clear t6 hf
              generalize factV (nums s) m = x at *
              go_wp2
              go_roundw
              case rel => exact ⟨m + 1, by omega, by go_num, by rw [HZ.out, T1.out], HB5.out⟩
              case measure => simp [intOf]; omega
          · obtain rfl : m = 9 := by omega
            go_wp2_with fail
            refine (sum_all _ _ (HV4.out.below HB2.out)).mono ?_
            rintro e w5 ⟨rfl, hb5⟩
            have HB5 : Hid (Below wo.heap.size wo w5) := HB2.out.trans (hb5.mono HB2.out.size)
            clear hb5 cq
            rw [HT.out.2.2, ← HT.out.2.1]
            generalize ((nums s).take 9).sum = y
            go_wp2
            go_roundw
            case rel => exact ⟨k + 1, by omega, by go_num, HBW.out.trans (HB5.out.mono HBW.out.size)⟩
            case measure => simp [intOf]; omega
      · obtain rfl : k = 7 := by omega
        have kk : wo.cell? ⟨W.heap.size, 7, none⟩ = some (.int .i64 3) := (hb.cell (p := ⟨W.heap.size, 7, none⟩) HW3.out.1).trans HK.out
        go_wp2
        go_ret
        exact ⟨rfl, H3.out.trans (hb.mono H3.out.size)⟩

set_option maxRecDepth 100000 in
set_option maxHeartbeats 8000000 in
theorem source_9 (i : Int) (w : World) (hv : Vars w) (ha : (i.tmod 13 + 13) % 13 = (9 : Int)) :
    Calls Tryd.prog 6 #[.int .i64 i] w fun e w' => e = .returned (.bool true) ∧ Below w.heap.size w w' := by
  obtain ⟨b1, b2⟩ := tmodn_bd i 13 (by omega)
  go_enter Tryd.func6, Tryd.ntmps6
  go_wp2_with fail
  refine (first_any _ hv).mono ?_
  rintro e w1 ⟨rfl, hb⟩
  go_wp2_with fail
  refine (yprovs _ (hv.below hb)).mono ?_
  rintro e W ⟨B1, g1, c1, g2, c2, rfl, hB1, hB1l, hh1, ho1, ho2, hb2⟩
  obtain ⟨p1, p2, r1⟩ := row4_of ho1
  obtain ⟨p3, p4, r2⟩ := row4_of ho2
  have hP1 : PRow W B1 g1 c1 g2 c2 := ⟨hh1, r1, r2⟩
  replace hb := hb.trans (hb2.mono hb.size)
  clear hh1 ho1 ho2 r1 r2 hb2 hB1 p1 p3 p2 p4 hB1l
  go_upto_region 5 with (fail)
  · have hx : (i.tmod 13 + 13) % 13 = (9 : Int) := ha
    have k0 : W.cell? ⟨B1, 135, none⟩ = some (.string ⟨#[121, 49, 46, 108, 105, 110, 101, 46, 116, 97, 120, 97, 98, 108, 101]⟩) := (cell_of W B1 _ 55 hP1.1 135).trans (by kernel_rfl)
    have k1 : W.cell? ⟨B1, 136, none⟩ = some (.string ⟨#[108, 105, 110, 101, 46, 116, 97, 120, 97, 98, 108, 101]⟩) := (cell_of W B1 _ 55 hP1.1 136).trans (by kernel_rfl)
    have k2 : W.cell? ⟨B1, 137, none⟩ = some (.int .i64 730485) := (cell_of W B1 _ 55 hP1.1 137).trans (by kernel_rfl)
    have k3 : W.cell? ⟨B1, 138, none⟩ = some (.int .i64 3652059) := (cell_of W B1 _ 55 hP1.1 138).trans (by kernel_rfl)
    have k4 : W.cell? ⟨B1, 139, none⟩ = some (.int .i64 730454) := (cell_of W B1 _ 55 hP1.1 139).trans (by kernel_rfl)
    have k5 : W.cell? ⟨B1, 140, none⟩ = some (.int .i64 0) := (cell_of W B1 _ 55 hP1.1 140).trans (by kernel_rfl)
    have k6 : W.cell? ⟨B1, 141, none⟩ = some (.string ⟨#[]⟩) := (cell_of W B1 _ 55 hP1.1 141).trans (by kernel_rfl)
    have k7 : W.cell? ⟨B1, 142, none⟩ = some (.int .i64 3) := (cell_of W B1 _ 55 hP1.1 142).trans (by kernel_rfl)
    have k8 : W.cell? ⟨B1, 143, none⟩ = some (.int .i64 0) := (cell_of W B1 _ 55 hP1.1 143).trans (by kernel_rfl)
    have k9 : W.cell? ⟨B1, 144, none⟩ = some (.int .i64 0) := (cell_of W B1 _ 55 hP1.1 144).trans (by kernel_rfl)
    have k10 : W.cell? ⟨B1, 145, none⟩ = some (.slice none 0 0) := (cell_of W B1 _ 55 hP1.1 145).trans (by kernel_rfl)
    have k11 : W.cell? ⟨B1, 146, none⟩ = some (.string ⟨#[109, 97, 120, 40, 108, 105, 110, 101, 46, 105, 110, 99, 111, 109, 101, 32, 45, 32, 108, 105, 110, 101, 46, 100, 101, 100, 117, 99, 116, 44, 32, 48, 41]⟩) := (cell_of W B1 _ 55 hP1.1 146).trans (by kernel_rfl)
    have k12 : W.cell? ⟨B1, 147, none⟩ = some (.int .i64 0) := (cell_of W B1 _ 55 hP1.1 147).trans (by kernel_rfl)
    have k13 : W.cell? ⟨B1, 148, none⟩ = some (.int .i64 0) := (cell_of W B1 _ 55 hP1.1 148).trans (by kernel_rfl)
    have k14 : W.cell? ⟨B1, 149, none⟩ = some (.int .i64 0) := (cell_of W B1 _ 55 hP1.1 149).trans (by kernel_rfl)
    have hBs : B1 < W.heap.size := (Array.getElem?_eq_some_iff.1 hP1.1).1
    have HP1 : Hid (PRow W B1 g1 c1 g2 c2) := hP1
    have HB : Hid (Below w.heap.size w W) := hb
    have HV : Hid (Vars w) := hv
    have HS : Hid (w.heap.size ≤ W.heap.size) := hb.size
    clear ha hP1 hb hv
    go_wp2_with fail
    have hal : Below W.heap.size W (W.alloc (.cells #[.string ⟨#[121, 49, 46, 108, 105, 110, 101, 46, 116, 97, 120, 97, 98, 108, 101]⟩, .string ⟨#[108, 105, 110, 101, 46, 116, 97, 120, 97, 98, 108, 101]⟩, .int .i64 730485, .int .i64 3652059, .int .i64 730454, .int .i64 0, .string ⟨#[]⟩, .int .i64 3, .int .i64 0, .int .i64 0, .slice none 0 0, .string ⟨#[109, 97, 120, 40, 108, 105, 110, 101, 46, 105, 110, 99, 111, 109, 101, 32, 45, 32, 108, 105, 110, 101, 46, 100, 101, 100, 117, 99, 116, 44, 32, 48, 41]⟩, .int .i64 0, .int .i64 0, .int .i64 0] 55)) := (Below.refl _ _).alloc (Nat.le_refl _) _
    have hb3 := HB.out.trans (hal.mono HS.out)
    have kk : (W.alloc (.cells #[.string ⟨#[121, 49, 46, 108, 105, 110, 101, 46, 116, 97, 120, 97, 98, 108, 101]⟩, .string ⟨#[108, 105, 110, 101, 46, 116, 97, 120, 97, 98, 108, 101]⟩, .int .i64 730485, .int .i64 3652059, .int .i64 730454, .int .i64 0, .string ⟨#[]⟩, .int .i64 3, .int .i64 0, .int .i64 0, .slice none 0 0, .string ⟨#[109, 97, 120, 40, 108, 105, 110, 101, 46, 105, 110, 99, 111, 109, 101, 32, 45, 32, 108, 105, 110, 101, 46, 100, 101, 100, 117, 99, 116, 44, 32, 48, 41]⟩, .int .i64 0, .int .i64 0, .int .i64 0] 55)).cell? ⟨W.heap.size, 7, none⟩ = some (.int .i64 3) := by simp
    refine (names13 _).mono ?_
    rintro e w3 ⟨Ba, rfl, hBa1, hBa2, hBa3, hb6⟩
    rw [show nameList.length = 7 from rfl]
    have H3 : Hid (Below w.heap.size w w3) := hb3.trans (hb6.mono hb3.size)
    have HK : Hid (w3.cell? ⟨W.heap.size, 7, none⟩ = some (.int .i64 3)) := (hb6.cell (by simp)).trans kk
    have HN : Hid (∀ k, k < 7 → w3.cell? ⟨Ba, k, none⟩ = some (.string (nameList.getD k ByteArray.empty))) := fun k hk => (cell_of w3 Ba _ _ hBa3 k).trans (txts_at _ _ (by simp [nameList]; omega))
    have HW3 : Hid (W.heap.size < w3.heap.size ∧ Ba < w3.heap.size) := ⟨Nat.lt_of_lt_of_le (by simp) hb6.size, hBa2⟩
    clear k0 k1 k2 k3 k4 k5 k6 k7 k8 k9 k10 k11 k12 k13 k14 hBs kk hb3 hal hBa1 hBa2 hBa3 hb6 HP1 HB HS
    go_wp2
    go_loopw [7] (fun i' wr => ∃ k : Nat, k ≤ 7 ∧ i' = .int .i64 k ∧ Below w3.heap.size w3 wr) (fun i' _ => 7 - (intOf i').toNat)
    case atStart => exact ⟨0, by omega, rfl, Below.refl _ _⟩
    case round =>
      obtain ⟨wo, rfl⟩ : ∃ x, x = wr := ⟨wr, rfl⟩
      obtain ⟨k, hk, rfl, hb⟩ := hrel
      by_cases hlt : k < 7
      · have k0 : (0 : Int) ≤ (k : Int) := by omega
        have k1 : (k : Int) < (7 : Int) := by omega
        have cn : wo.cell? ⟨Ba, k, none⟩ = some (.string (nameList.getD k ByteArray.empty)) := (hb.cell (p := ⟨Ba, k, none⟩) HW3.out.2).trans (HN.out k hlt)
        have hT := tab_all k hlt
        clear HN
        generalize nameList.getD k ByteArray.empty = s at *
        have HT : Hid (Tab (nums s)) := hT
        have HCN : Hid (wo.cell? ⟨Ba, k, none⟩ = some (.string s)) := cn
        have HBW : Hid (Below w3.heap.size w3 wo) := hb
        have HBa : Hid (Ba < wo.heap.size) := Nat.lt_of_lt_of_le HW3.out.2 hb.size
        have HV4 : Hid (Vars wo) := (HV.out.below H3.out).below hb
        clear hT hb cn
        go_wp2
        go_loopw [8, 9] (fun v j wr => ∃ m : Nat, m ≤ 9 ∧ j = .int .i64 m ∧ v = .int .i64 ((nums s).take m).sum ∧ Below wo.heap.size wo wr) (fun _ j _ => 9 - (intOf j).toNat)
        case atStart => exact ⟨0, by omega, rfl, by simp, Below.refl _ _⟩
        case round =>
          obtain ⟨m, hm, rfl, rfl, hb2⟩ := hrel
          have HB2 : Hid (Below wo.heap.size wo wr) := hb2
          have cq : wr.cell? ⟨Ba, k, none⟩ = some (.string s) := (hb2.cell (p := ⟨Ba, k, none⟩) HBa.out).trans HCN.out
          clear hb2
          by_cases hlm : m < 9
          · have m0 : (0 : Int) ≤ (m : Int) := by omega
            have m1 : (m : Int) < (9 : Int) := by omega
            obtain ⟨t1, t2, t3, t4, t5, t6⟩ := HT.out.1 m hlm
            go_wp2_with fail
            refine (fact_all _ _ _ (HV4.out.below HB2.out)).mono ?_
            rintro e w5 ⟨rfl, hb5⟩
            have HB5 : Hid (Below wo.heap.size wo w5) := HB2.out.trans (hb5.mono HB2.out.size)
            have T1 : Hid (((nums s).take m).sum + factV (nums s) m = ((nums s).take (m + 1)).sum) := t1
            clear hb5 t1 cq
            generalize hz : ((nums s).take (m + 1)).sum = z at *
            have HZ : Hid (((nums s).take (m + 1)).sum = z) := hz
            clear hz
            generalize ((nums s).take m).sum = y at *
            cases hf : factB (nums s) m with
            | false =>
              have e0 := t6 hf
              rw [e0]
              have T2 : Hid (y = z) := by have h9 := T1.out; rw [e0] at h9; exact (Int.add_zero y).symm.trans h9
              clear T1 e0 t6 t4 t5 hf
              go_wp2
              go_roundw
              case rel => exact ⟨m + 1, by omega, by go_num, by rw [HZ.out, T2.out], HB5.out⟩
              case measure => simp [intOf]; omega
            | true =>
              clear t6 hf
              generalize factV (nums s) m = x at *
              go_wp2
              go_roundw
              case rel => exact ⟨m + 1, by omega, by go_num, by rw [HZ.out, T1.out], HB5.out⟩
              case measure => simp [intOf]; omega
          · obtain rfl : m = 9 := by omega
            go_wp2_with fail
            refine (sum_all _ _ (HV4.out.below HB2.out)).mono ?_
            rintro e w5 ⟨rfl, hb5⟩
            have HB5 : Hid (Below wo.heap.size wo w5) := HB2.out.trans (hb5.mono HB2.out.size)
            clear hb5 cq
            rw [HT.out.2.2, ← HT.out.2.1]
            generalize ((nums s).take 9).sum = y
            go_wp2
            go_roundw
            case rel => exact ⟨k + 1, by omega, by go_num, HBW.out.trans (HB5.out.mono HBW.out.size)⟩
            case measure => simp [intOf]; omega
      · obtain rfl : k = 7 := by omega
        have kk : wo.cell? ⟨W.heap.size, 7, none⟩ = some (.int .i64 3) := (hb.cell (p := ⟨W.heap.size, 7, none⟩) HW3.out.1).trans HK.out
        go_wp2
        go_ret
        exact ⟨rfl, H3.out.trans (hb.mono H3.out.size)⟩

set_option maxRecDepth 100000 in
set_option maxHeartbeats 8000000 in
theorem source_10 (i : Int) (w : World) (hv : Vars w) (ha : (i.tmod 13 + 13) % 13 = (10 : Int)) :
    Calls Tryd.prog 6 #[.int .i64 i] w fun e w' => e = .returned (.bool true) ∧ Below w.heap.size w w' := by
  obtain ⟨b1, b2⟩ := tmodn_bd i 13 (by omega)
  go_enter Tryd.func6, Tryd.ntmps6
  go_wp2_with fail
  refine (first_any _ hv).mono ?_
  rintro e w1 ⟨rfl, hb⟩
  go_wp2_with fail
  refine (yprovs _ (hv.below hb)).mono ?_
  rintro e W ⟨B1, g1, c1, g2, c2, rfl, hB1, hB1l, hh1, ho1, ho2, hb2⟩
  obtain ⟨p1, p2, r1⟩ := row4_of ho1
  obtain ⟨p3, p4, r2⟩ := row4_of ho2
  have hP1 : PRow W B1 g1 c1 g2 c2 := ⟨hh1, r1, r2⟩
  replace hb := hb.trans (hb2.mono hb.size)
  clear hh1 ho1 ho2 r1 r2 hb2 hB1 p1 p3 p2 p4 hB1l
  go_upto_region 5 with (fail)
  · have hx : (i.tmod 13 + 13) % 13 = (10 : Int) := ha
    have k0 : W.cell? ⟨B1, 150, none⟩ = some (.string ⟨#[121, 49, 46, 108, 105, 110, 101, 46, 116, 97, 120]⟩) := (cell_of W B1 _ 55 hP1.1 150).trans (by kernel_rfl)
    have k1 : W.cell? ⟨B1, 151, none⟩ = some (.string ⟨#[108, 105, 110, 101, 46, 116, 97, 120]⟩) := (cell_of W B1 _ 55 hP1.1 151).trans (by kernel_rfl)
    have k2 : W.cell? ⟨B1, 152, none⟩ = some (.int .i64 730485) := (cell_of W B1 _ 55 hP1.1 152).trans (by kernel_rfl)
    have k3 : W.cell? ⟨B1, 153, none⟩ = some (.int .i64 3652059) := (cell_of W B1 _ 55 hP1.1 153).trans (by kernel_rfl)
    have k4 : W.cell? ⟨B1, 154, none⟩ = some (.int .i64 730454) := (cell_of W B1 _ 55 hP1.1 154).trans (by kernel_rfl)
    have k5 : W.cell? ⟨B1, 155, none⟩ = some (.int .i64 0) := (cell_of W B1 _ 55 hP1.1 155).trans (by kernel_rfl)
    have k6 : W.cell? ⟨B1, 156, none⟩ = some (.string ⟨#[]⟩) := (cell_of W B1 _ 55 hP1.1 156).trans (by kernel_rfl)
    have k7 : W.cell? ⟨B1, 157, none⟩ = some (.int .i64 3) := (cell_of W B1 _ 55 hP1.1 157).trans (by kernel_rfl)
    have k8 : W.cell? ⟨B1, 158, none⟩ = some (.int .i64 0) := (cell_of W B1 _ 55 hP1.1 158).trans (by kernel_rfl)
    have k9 : W.cell? ⟨B1, 159, none⟩ = some (.int .i64 0) := (cell_of W B1 _ 55 hP1.1 159).trans (by kernel_rfl)
    have k10 : W.cell? ⟨B1, 160, none⟩ = some (.slice none 0 0) := (cell_of W B1 _ 55 hP1.1 160).trans (by kernel_rfl)
    have k11 : W.cell? ⟨B1, 161, none⟩ = some (.string ⟨#[105, 102, 32, 105, 110, 46, 106, 111, 105, 110, 116, 32, 61, 32, 49, 32, 116, 104, 101, 110, 32, 116, 97, 120, 40, 115, 46, 106, 111, 105, 110, 116, 44, 32, 108, 105, 110, 101, 46, 116, 97, 120, 97, 98, 108, 101, 41, 32, 101, 108, 115, 101, 32, 116, 97, 120, 40, 115, 46, 115, 105, 110, 103, 108, 101, 44, 32, 108, 105, 110, 101, 46, 116, 97, 120, 97, 98, 108, 101, 41]⟩) := (cell_of W B1 _ 55 hP1.1 161).trans (by kernel_rfl)
    have k12 : W.cell? ⟨B1, 162, none⟩ = some (.int .i64 6) := (cell_of W B1 _ 55 hP1.1 162).trans (by kernel_rfl)
    have k13 : W.cell? ⟨B1, 163, none⟩ = some (.int .i64 1) := (cell_of W B1 _ 55 hP1.1 163).trans (by kernel_rfl)
    have k14 : W.cell? ⟨B1, 164, none⟩ = some (.int .i64 100) := (cell_of W B1 _ 55 hP1.1 164).trans (by kernel_rfl)
    have hBs : B1 < W.heap.size := (Array.getElem?_eq_some_iff.1 hP1.1).1
    have HP1 : Hid (PRow W B1 g1 c1 g2 c2) := hP1
    have HB : Hid (Below w.heap.size w W) := hb
    have HV : Hid (Vars w) := hv
    have HS : Hid (w.heap.size ≤ W.heap.size) := hb.size
    clear ha hP1 hb hv
    go_wp2_with fail
    have hal : Below W.heap.size W (W.alloc (.cells #[.string ⟨#[121, 49, 46, 108, 105, 110, 101, 46, 116, 97, 120]⟩, .string ⟨#[108, 105, 110, 101, 46, 116, 97, 120]⟩, .int .i64 730485, .int .i64 3652059, .int .i64 730454, .int .i64 0, .string ⟨#[]⟩, .int .i64 3, .int .i64 0, .int .i64 0, .slice none 0 0, .string ⟨#[105, 102, 32, 105, 110, 46, 106, 111, 105, 110, 116, 32, 61, 32, 49, 32, 116, 104, 101, 110, 32, 116, 97, 120, 40, 115, 46, 106, 111, 105, 110, 116, 44, 32, 108, 105, 110, 101, 46, 116, 97, 120, 97, 98, 108, 101, 41, 32, 101, 108, 115, 101, 32, 116, 97, 120, 40, 115, 46, 115, 105, 110, 103, 108, 101, 44, 32, 108, 105, 110, 101, 46, 116, 97, 120, 97, 98, 108, 101, 41]⟩, .int .i64 6, .int .i64 1, .int .i64 100] 55)) := (Below.refl _ _).alloc (Nat.le_refl _) _
    have hb3 := HB.out.trans (hal.mono HS.out)
    have kk : (W.alloc (.cells #[.string ⟨#[121, 49, 46, 108, 105, 110, 101, 46, 116, 97, 120]⟩, .string ⟨#[108, 105, 110, 101, 46, 116, 97, 120]⟩, .int .i64 730485, .int .i64 3652059, .int .i64 730454, .int .i64 0, .string ⟨#[]⟩, .int .i64 3, .int .i64 0, .int .i64 0, .slice none 0 0, .string ⟨#[105, 102, 32, 105, 110, 46, 106, 111, 105, 110, 116, 32, 61, 32, 49, 32, 116, 104, 101, 110, 32, 116, 97, 120, 40, 115, 46, 106, 111, 105, 110, 116, 44, 32, 108, 105, 110, 101, 46, 116, 97, 120, 97, 98, 108, 101, 41, 32, 101, 108, 115, 101, 32, 116, 97, 120, 40, 115, 46, 115, 105, 110, 103, 108, 101, 44, 32, 108, 105, 110, 101, 46, 116, 97, 120, 97, 98, 108, 101, 41]⟩, .int .i64 6, .int .i64 1, .int .i64 100] 55)).cell? ⟨W.heap.size, 7, none⟩ = some (.int .i64 3) := by simp
    refine (names13 _).mono ?_
    rintro e w3 ⟨Ba, rfl, hBa1, hBa2, hBa3, hb6⟩
    rw [show nameList.length = 7 from rfl]
    have H3 : Hid (Below w.heap.size w w3) := hb3.trans (hb6.mono hb3.size)
    have HK : Hid (w3.cell? ⟨W.heap.size, 7, none⟩ = some (.int .i64 3)) := (hb6.cell (by simp)).trans kk
    have HN : Hid (∀ k, k < 7 → w3.cell? ⟨Ba, k, none⟩ = some (.string (nameList.getD k ByteArray.empty))) := fun k hk => (cell_of w3 Ba _ _ hBa3 k).trans (txts_at _ _ (by simp [nameList]; omega))
    have HW3 : Hid (W.heap.size < w3.heap.size ∧ Ba < w3.heap.size) := ⟨Nat.lt_of_lt_of_le (by simp) hb6.size, hBa2⟩
    clear k0 k1 k2 k3 k4 k5 k6 k7 k8 k9 k10 k11 k12 k13 k14 hBs kk hb3 hal hBa1 hBa2 hBa3 hb6 HP1 HB HS
    go_wp2
    go_loopw [7] (fun i' wr => ∃ k : Nat, k ≤ 7 ∧ i' = .int .i64 k ∧ Below w3.heap.size w3 wr) (fun i' _ => 7 - (intOf i').toNat)
    case atStart => exact ⟨0, by omega, rfl, Below.refl _ _⟩
    case round =>
      obtain ⟨wo, rfl⟩ : ∃ x, x = wr := ⟨wr, rfl⟩
      obtain ⟨k, hk, rfl, hb⟩ := hrel
      by_cases hlt : k < 7
      · have k0 : (0 : Int) ≤ (k : Int) := by omega
        have k1 : (k : Int) < (7 : Int) := by omega
        have cn : wo.cell? ⟨Ba, k, none⟩ = some (.string (nameList.getD k ByteArray.empty)) := (hb.cell (p := ⟨Ba, k, none⟩) HW3.out.2).trans (HN.out k hlt)
        have hT := tab_all k hlt
        clear HN
        generalize nameList.getD k ByteArray.empty = s at *
        have HT : Hid (Tab (nums s)) := hT
        have HCN : Hid (wo.cell? ⟨Ba, k, none⟩ = some (.string s)) := cn
        have HBW : Hid (Below w3.heap.size w3 wo) := hb
        have HBa : Hid (Ba < wo.heap.size) := Nat.lt_of_lt_of_le HW3.out.2 hb.size
        have HV4 : Hid (Vars wo) := (HV.out.below H3.out).below hb
        clear hT hb cn
        go_wp2
        go_loopw [8, 9] (fun v j wr => ∃ m : Nat, m ≤ 9 ∧ j = .int .i64 m ∧ v = .int .i64 ((nums s).take m).sum ∧ Below wo.heap.size wo wr) (fun _ j _ => 9 - (intOf j).toNat)
        case atStart => exact ⟨0, by omega, rfl, by simp, Below.refl _ _⟩
        case round =>
          obtain ⟨m, hm, rfl, rfl, hb2⟩ := hrel
          have HB2 : Hid (Below wo.heap.size wo wr) := hb2
          have cq : wr.cell? ⟨Ba, k, none⟩ = some (.string s) := (hb2.cell (p := ⟨Ba, k, none⟩) HBa.out).trans HCN.out
          clear hb2
          by_cases hlm : m < 9
          · have m0 : (0 : Int) ≤ (m : Int) := by omega
            have m1 : (m : Int) < (9 : Int) := by omega
            obtain ⟨t1, t2, t3, t4, t5, t6⟩ := HT.out.1 m hlm
            go_wp2_with fail
            refine (fact_all _ _ _ (HV4.out.below HB2.out)).mono ?_
            rintro e w5 ⟨rfl, hb5⟩
            have HB5 : Hid (Below wo.heap.size wo w5) := HB2.out.trans (hb5.mono HB2.out.size)
            have T1 : Hid (((nums s).take m).sum + factV (nums s) m = ((nums s).take (m + 1)).sum) := t1
            clear hb5 t1 cq
            generalize hz : ((nums s).take (m + 1)).sum = z at *
            have HZ : Hid (((nums s).take (m + 1)).sum = z) := hz
            clear hz
            generalize ((nums s).take m).sum = y at *
            cases hf : factB (nums s) m with
            | false =>
              have e0 := t6 hf
              rw [e0]
              have T2 : Hid (y = z) := by have h9 := T1.out; rw [e0] at h9; exact (Int.add_zero y).symm.trans h9
              clear T1 e0 t6 t4 t5 hf
              go_wp2
              go_roundw
              case rel => exact ⟨m + 1, by omega, by go_num, by rw [HZ.out, T2.out], HB5.out⟩
              case measure => simp [intOf]; omega
            | true =>
              clear t6 hf
              generalize factV (nums s) m = x at *
              go_wp2
              go_roundw
              case rel => exact ⟨m + 1, by omega, by go_num, by rw [HZ.out, T1.out], HB5.out⟩
              case measure => simp [intOf]; omega
          · obtain rfl : m = 9 := by omega
            go_wp2_with fail
            refine (sum_all _ _ (HV4.out.below HB2.out)).mono ?_
            rintro e w5 ⟨rfl, hb5⟩
            have HB5 : Hid (Below wo.heap.size wo w5) := HB2.out.trans (hb5.mono HB2.out.size)
            clear hb5 cq
            rw [HT.out.2.2, ← HT.out.2.1]
            generalize ((nums s).take 9).sum = y
            go_wp2
            go_roundw
            case rel => exact ⟨k + 1, by omega, by go_num, HBW.out.trans (HB5.out.mono HBW.out.size)⟩
            case measure => simp [intOf]; omega
      · obtain rfl : k = 7 := by omega
        have kk : wo.cell? ⟨W.heap.size, 7, none⟩ = some (.int .i64 3) := (hb.cell (p := ⟨W.heap.size, 7, none⟩) HW3.out.1).trans HK.out
        go_wp2
        go_ret
        exact ⟨rfl, H3.out.trans (hb.mono H3.out.size)⟩

set_option maxRecDepth 100000 in
set_option maxHeartbeats 8000000 in
theorem source_11 (i : Int) (w : World) (hv : Vars w) (ha : (i.tmod 13 + 13) % 13 = (11 : Int)) :
    Calls Tryd.prog 6 #[.int .i64 i] w fun e w' => e = .returned (.bool true) ∧ Below w.heap.size w w' := by
  obtain ⟨b1, b2⟩ := tmodn_bd i 13 (by omega)
  go_enter Tryd.func6, Tryd.ntmps6
  go_wp2_with fail
  refine (first_any _ hv).mono ?_
  rintro e w1 ⟨rfl, hb⟩
  go_wp2_with fail
  refine (yprovs _ (hv.below hb)).mono ?_
  rintro e W ⟨B1, g1, c1, g2, c2, rfl, hB1, hB1l, hh1, ho1, ho2, hb2⟩
  obtain ⟨p1, p2, r1⟩ := row4_of ho1
  obtain ⟨p3, p4, r2⟩ := row4_of ho2
  have hP1 : PRow W B1 g1 c1 g2 c2 := ⟨hh1, r1, r2⟩
  replace hb := hb.trans (hb2.mono hb.size)
  clear hh1 ho1 ho2 r1 r2 hb2 hB1 p1 p3 p2 p4 hB1l
  go_upto_region 5 with (fail)
  · have hx : (i.tmod 13 + 13) % 13 = (11 : Int) := ha
    have k0 : W.cell? ⟨B1, 165, none⟩ = some (.string ⟨#[121, 49, 46, 108, 105, 110, 101, 46, 99, 114, 101, 100, 105, 116]⟩) := (cell_of W B1 _ 55 hP1.1 165).trans (by kernel_rfl)
    have k1 : W.cell? ⟨B1, 166, none⟩ = some (.string ⟨#[108, 105, 110, 101, 46, 99, 114, 101, 100, 105, 116]⟩) := (cell_of W B1 _ 55 hP1.1 166).trans (by kernel_rfl)
    have k2 : W.cell? ⟨B1, 167, none⟩ = some (.int .i64 730485) := (cell_of W B1 _ 55 hP1.1 167).trans (by kernel_rfl)
    have k3 : W.cell? ⟨B1, 168, none⟩ = some (.int .i64 3652059) := (cell_of W B1 _ 55 hP1.1 168).trans (by kernel_rfl)
    have k4 : W.cell? ⟨B1, 169, none⟩ = some (.int .i64 730454) := (cell_of W B1 _ 55 hP1.1 169).trans (by kernel_rfl)
    have k5 : W.cell? ⟨B1, 170, none⟩ = some (.int .i64 0) := (cell_of W B1 _ 55 hP1.1 170).trans (by kernel_rfl)
    have k6 : W.cell? ⟨B1, 171, none⟩ = some (.string ⟨#[]⟩) := (cell_of W B1 _ 55 hP1.1 171).trans (by kernel_rfl)
    have k7 : W.cell? ⟨B1, 172, none⟩ = some (.int .i64 3) := (cell_of W B1 _ 55 hP1.1 172).trans (by kernel_rfl)
    have k8 : W.cell? ⟨B1, 173, none⟩ = some (.int .i64 0) := (cell_of W B1 _ 55 hP1.1 173).trans (by kernel_rfl)
    have k9 : W.cell? ⟨B1, 174, none⟩ = some (.int .i64 0) := (cell_of W B1 _ 55 hP1.1 174).trans (by kernel_rfl)
    have k10 : W.cell? ⟨B1, 175, none⟩ = some (.slice none 0 0) := (cell_of W B1 _ 55 hP1.1 175).trans (by kernel_rfl)
    have k11 : W.cell? ⟨B1, 176, none⟩ = some (.string ⟨#[109, 97, 120, 40, 40, 105, 102, 32, 105, 110, 46, 106, 111, 105, 110, 116, 32, 61, 32, 49, 32, 116, 104, 101, 110, 32, 112, 46, 99, 114, 101, 100, 105, 116, 46, 106, 111, 105, 110, 116, 32, 101, 108, 115, 101, 32, 112, 46, 99, 114, 101, 100, 105, 116, 46, 115, 105, 110, 103, 108, 101, 41, 32, 45, 32, 53, 37, 32, 42, 32, 109, 97, 120, 40, 108, 105, 110, 101, 46, 105, 110, 99, 111, 109, 101, 32, 45, 32, 112, 46, 112, 104, 97, 115, 101, 44, 32, 48, 41, 44, 32, 48, 41]⟩) := (cell_of W B1 _ 55 hP1.1 176).trans (by kernel_rfl)
    have k12 : W.cell? ⟨B1, 177, none⟩ = some (.int .i64 2) := (cell_of W B1 _ 55 hP1.1 177).trans (by kernel_rfl)
    have k13 : W.cell? ⟨B1, 178, none⟩ = some (.int .i64 1) := (cell_of W B1 _ 55 hP1.1 178).trans (by kernel_rfl)
    have k14 : W.cell? ⟨B1, 179, none⟩ = some (.int .i64 1) := (cell_of W B1 _ 55 hP1.1 179).trans (by kernel_rfl)
    have hBs : B1 < W.heap.size := (Array.getElem?_eq_some_iff.1 hP1.1).1
    have HP1 : Hid (PRow W B1 g1 c1 g2 c2) := hP1
    have HB : Hid (Below w.heap.size w W) := hb
    have HV : Hid (Vars w) := hv
    have HS : Hid (w.heap.size ≤ W.heap.size) := hb.size
    clear ha hP1 hb hv
    go_wp2_with fail
    have hal : Below W.heap.size W (W.alloc (.cells #[.string ⟨#[121, 49, 46, 108, 105, 110, 101, 46, 99, 114, 101, 100, 105, 116]⟩, .string ⟨#[108, 105, 110, 101, 46, 99, 114, 101, 100, 105, 116]⟩, .int .i64 730485, .int .i64 3652059, .int .i64 730454, .int .i64 0, .string ⟨#[]⟩, .int .i64 3, .int .i64 0, .int .i64 0, .slice none 0 0, .string ⟨#[109, 97, 120, 40, 40, 105, 102, 32, 105, 110, 46, 106, 111, 105, 110, 116, 32, 61, 32, 49, 32, 116, 104, 101, 110, 32, 112, 46, 99, 114, 101, 100, 105, 116, 46, 106, 111, 105, 110, 116, 32, 101, 108, 115, 101, 32, 112, 46, 99, 114, 101, 100, 105, 116, 46, 115, 105, 110, 103, 108, 101, 41, 32, 45, 32, 53, 37, 32, 42, 32, 109, 97, 120, 40, 108, 105, 110, 101, 46, 105, 110, 99, 111, 109, 101, 32, 45, 32, 112, 46, 112, 104, 97, 115, 101, 44, 32, 48, 41, 44, 32, 48, 41]⟩, .int .i64 2, .int .i64 1, .int .i64 1] 55)) := (Below.refl _ _).alloc (Nat.le_refl _) _
    have hb3 := HB.out.trans (hal.mono HS.out)
    have kk : (W.alloc (.cells #[.string ⟨#[121, 49, 46, 108, 105, 110, 101, 46, 99, 114, 101, 100, 105, 116]⟩, .string ⟨#[108, 105, 110, 101, 46, 99, 114, 101, 100, 105, 116]⟩, .int .i64 730485, .int .i64 3652059, .int .i64 730454, .int .i64 0, .string ⟨#[]⟩, .int .i64 3, .int .i64 0, .int .i64 0, .slice none 0 0, .string ⟨#[109, 97, 120, 40, 40, 105, 102, 32, 105, 110, 46, 106, 111, 105, 110, 116, 32, 61, 32, 49, 32, 116, 104, 101, 110, 32, 112, 46, 99, 114, 101, 100, 105, 116, 46, 106, 111, 105, 110, 116, 32, 101, 108, 115, 101, 32, 112, 46, 99, 114, 101, 100, 105, 116, 46, 115, 105, 110, 103, 108, 101, 41, 32, 45, 32, 53, 37, 32, 42, 32, 109, 97, 120, 40, 108, 105, 110, 101, 46, 105, 110, 99, 111, 109, 101, 32, 45, 32, 112, 46, 112, 104, 97, 115, 101, 44, 32, 48, 41, 44, 32, 48, 41]⟩, .int .i64 2, .int .i64 1, .int .i64 1] 55)).cell? ⟨W.heap.size, 7, none⟩ = some (.int .i64 3) := by simp
    refine (names13 _).mono ?_
    rintro e w3 ⟨Ba, rfl, hBa1, hBa2, hBa3, hb6⟩
    rw [show nameList.length = 7 from rfl]
    have H3 : Hid (Below w.heap.size w w3) := hb3.trans (hb6.mono hb3.size)
    have HK : Hid (w3.cell? ⟨W.heap.size, 7, none⟩ = some (.int .i64 3)) := (hb6.cell (by simp)).trans kk
    have HN : Hid (∀ k, k < 7 → w3.cell? ⟨Ba, k, none⟩ = some (.string (nameList.getD k ByteArray.empty))) := fun k hk => (cell_of w3 Ba _ _ hBa3 k).trans (txts_at _ _ (by simp [nameList]; omega))
    have HW3 : Hid (W.heap.size < w3.heap.size ∧ Ba < w3.heap.size) := ⟨Nat.lt_of_lt_of_le (by simp) hb6.size, hBa2⟩
    clear k0 k1 k2 k3 k4 k5 k6 k7 k8 k9 k10 k11 k12 k13 k14 hBs kk hb3 hal hBa1 hBa2 hBa3 hb6 HP1 HB HS
    go_wp2
    go_loopw [7] (fun i' wr => ∃ k : Nat, k ≤ 7 ∧ i' = .int .i64 k ∧ Below w3.heap.size w3 wr) (fun i' _ => 7 - (intOf i').toNat)
    case atStart => exact ⟨0, by omega, rfl, Below.refl _ _⟩
    case round =>
      obtain ⟨wo, rfl⟩ : ∃ x, x = wr := ⟨wr, rfl⟩
      obtain ⟨k, hk, rfl, hb⟩ := hrel
      by_cases hlt : k < 7
      · have k0 : (0 : Int) ≤ (k : Int) := by omega
        have k1 : (k : Int) < (7 : Int) := by omega
        have cn : wo.cell? ⟨Ba, k, none⟩ = some (.string (nameList.getD k ByteArray.empty)) := (hb.cell (p := ⟨Ba, k, none⟩) HW3.out.2).trans (HN.out k hlt)
        have hT := tab_all k hlt
        clear HN
        generalize nameList.getD k ByteArray.empty = s at *
        have HT : Hid (Tab (nums s)) := hT
        have HCN : Hid (wo.cell? ⟨Ba, k, none⟩ = some (.string s)) := cn
        have HBW : Hid (Below w3.heap.size w3 wo) := hb
        have HBa : Hid (Ba < wo.heap.size) := Nat.lt_of_lt_of_le HW3.out.2 hb.size
        have HV4 : Hid (Vars wo) := (HV.out.below H3.out).below hb
        clear hT hb cn
        go_wp2
        go_loopw [8, 9] (fun v j wr => ∃ m : Nat, m ≤ 9 ∧ j = .int .i64 m ∧ v = .int .i64 ((nums s).take m).sum ∧ Below wo.heap.size wo wr) (fun _ j _ => 9 - (intOf j).toNat)
        case atStart => exact ⟨0, by omega, rfl, by simp, Below.refl _ _⟩
        case round =>
          obtain ⟨m, hm, rfl, rfl, hb2⟩ := hrel
          have HB2 : Hid (Below wo.heap.size wo wr) := hb2
          have cq : wr.cell? ⟨Ba, k, none⟩ = some (.string s) := (hb2.cell (p := ⟨Ba, k, none⟩) HBa.out).trans HCN.out
          clear hb2
          by_cases hlm : m < 9
          · have m0 : (0 : Int) ≤ (m : Int) := by omega
            have m1 : (m : Int) < (9 : Int) := by omega
            obtain ⟨t1, t2, t3, t4, t5, t6⟩ := HT.out.1 m hlm
            go_wp2_with fail
            refine (fact_all _ _ _ (HV4.out.below HB2.out)).mono ?_
            rintro e w5 ⟨rfl, hb5⟩
            have HB5 : Hid (Below wo.heap.size wo w5) := HB2.out.trans (hb5.mono HB2.out.size)
            have T1 : Hid (((nums s).take m).sum + factV (nums s) m = ((nums s).take (m + 1)).sum) := t1
            clear hb5 t1 cq
            generalize hz : ((nums s).take (m + 1)).sum = z at *
            have HZ : Hid (((nums s).take (m + 1)).sum = z) := hz
            clear hz
            generalize ((nums s).take m).sum = y at *
            cases hf : factB (nums s) m with
            | false =>
              have e0 := t6 hf
              rw [e0]
              have T2 : Hid (y = z) := by have h9 := T1.out; rw [e0] at h9; exact (Int.add_zero y).symm.trans h9
              clear T1 e0 t6 t4 t5 hf
              go_wp2
              go_roundw
              case rel => exact ⟨m + 1, by omega, by go_num, by rw [HZ.out, T2.out], HB5.out⟩
              case measure => simp [intOf]; omega
            | true =>
              clear t6 hf
              generalize factV (nums s) m = x at *
              go_wp2
              go_roundw
              case rel => exact ⟨m + 1, by omega, by go_num, by rw [HZ.out, T1.out], HB5.out⟩
              case measure => simp [intOf]; omega
          · obtain rfl : m = 9 := by omega
            go_wp2_with fail
            refine (sum_all _ _ (HV4.out.below HB2.out)).mono ?_
            rintro e w5 ⟨rfl, hb5⟩
            have HB5 : Hid (Below wo.heap.size wo w5) := HB2.out.trans (hb5.mono HB2.out.size)
            clear hb5 cq
            rw [HT.out.2.2, ← HT.out.2.1]
            generalize ((nums s).take 9).sum = y
            go_wp2
            go_roundw
            case rel => exact ⟨k + 1, by omega, by go_num, HBW.out.trans (HB5.out.mono HBW.out.size)⟩
            case measure => simp [intOf]; omega
      · obtain rfl : k = 7 := by omega
        have kk : wo.cell? ⟨W.heap.size, 7, none⟩ = some (.int .i64 3) := (hb.cell (p := ⟨W.heap.size, 7, none⟩) HW3.out.1).trans HK.out
        go_wp2
        go_ret
        exact ⟨rfl, H3.out.trans (hb.mono H3.out.size)⟩

set_option maxRecDepth 100000 in
set_option maxHeartbeats 8000000 in
theorem source_12 (i : Int) (w : World) (hv : Vars w) (ha : (i.tmod 13 + 13) % 13 = (12 : Int)) :
    Calls Tryd.prog 6 #[.int .i64 i] w fun e w' => e = .returned (.bool true) ∧ Below w.heap.size w w' := by
  obtain ⟨b1, b2⟩ := tmodn_bd i 13 (by omega)
  go_enter Tryd.func6, Tryd.ntmps6
  go_wp2_with fail
  refine (first_any _ hv).mono ?_
  rintro e w1 ⟨rfl, hb⟩
  go_wp2_with fail
  refine (yprovs _ (hv.below hb)).mono ?_
  rintro e W ⟨B1, g1, c1, g2, c2, rfl, hB1, hB1l, hh1, ho1, ho2, hb2⟩
  obtain ⟨p1, p2, r1⟩ := row4_of ho1
  obtain ⟨p3, p4, r2⟩ := row4_of ho2
  have hP1 : PRow W B1 g1 c1 g2 c2 := ⟨hh1, r1, r2⟩
  replace hb := hb.trans (hb2.mono hb.size)
  clear hh1 ho1 ho2 r1 r2 hb2 hB1 p1 p3 p2 p4 hB1l
  go_upto_region 5 with (fail)
  · have hx : (i.tmod 13 + 13) % 13 = (12 : Int) := ha
    have k0 : W.cell? ⟨B1, 180, none⟩ = some (.string ⟨#[121, 49, 46, 108, 105, 110, 101, 46, 100, 117, 101]⟩) := (cell_of W B1 _ 55 hP1.1 180).trans (by kernel_rfl)
    have k1 : W.cell? ⟨B1, 181, none⟩ = some (.string ⟨#[108, 105, 110, 101, 46, 100, 117, 101]⟩) := (cell_of W B1 _ 55 hP1.1 181).trans (by kernel_rfl)
    have k2 : W.cell? ⟨B1, 182, none⟩ = some (.int .i64 730485) := (cell_of W B1 _ 55 hP1.1 182).trans (by kernel_rfl)
    have k3 : W.cell? ⟨B1, 183, none⟩ = some (.int .i64 3652059) := (cell_of W B1 _ 55 hP1.1 183).trans (by kernel_rfl)
    have k4 : W.cell? ⟨B1, 184, none⟩ = some (.int .i64 730454) := (cell_of W B1 _ 55 hP1.1 184).trans (by kernel_rfl)
    have k5 : W.cell? ⟨B1, 185, none⟩ = some (.int .i64 0) := (cell_of W B1 _ 55 hP1.1 185).trans (by kernel_rfl)
    have k6 : W.cell? ⟨B1, 186, none⟩ = some (.string ⟨#[]⟩) := (cell_of W B1 _ 55 hP1.1 186).trans (by kernel_rfl)
    have k7 : W.cell? ⟨B1, 187, none⟩ = some (.int .i64 3) := (cell_of W B1 _ 55 hP1.1 187).trans (by kernel_rfl)
    have k8 : W.cell? ⟨B1, 188, none⟩ = some (.int .i64 0) := (cell_of W B1 _ 55 hP1.1 188).trans (by kernel_rfl)
    have k9 : W.cell? ⟨B1, 189, none⟩ = some (.int .i64 0) := (cell_of W B1 _ 55 hP1.1 189).trans (by kernel_rfl)
    have k10 : W.cell? ⟨B1, 190, none⟩ = some (.slice none 0 0) := (cell_of W B1 _ 55 hP1.1 190).trans (by kernel_rfl)
    have k11 : W.cell? ⟨B1, 191, none⟩ = some (.string ⟨#[109, 97, 120, 40, 108, 105, 110, 101, 46, 116, 97, 120, 32, 45, 32, 108, 105, 110, 101, 46, 99, 114, 101, 100, 105, 116, 44, 32, 48, 41, 32, 45, 32, 105, 110, 46, 119, 105, 116, 104, 104, 101, 108, 100]⟩) := (cell_of W B1 _ 55 hP1.1 191).trans (by kernel_rfl)
    have k12 : W.cell? ⟨B1, 192, none⟩ = some (.int .i64 5) := (cell_of W B1 _ 55 hP1.1 192).trans (by kernel_rfl)
    have k13 : W.cell? ⟨B1, 193, none⟩ = some (.int .i64 1) := (cell_of W B1 _ 55 hP1.1 193).trans (by kernel_rfl)
    have k14 : W.cell? ⟨B1, 194, none⟩ = some (.int .i64 100) := (cell_of W B1 _ 55 hP1.1 194).trans (by kernel_rfl)
    have hBs : B1 < W.heap.size := (Array.getElem?_eq_some_iff.1 hP1.1).1
    have HP1 : Hid (PRow W B1 g1 c1 g2 c2) := hP1
    have HB : Hid (Below w.heap.size w W) := hb
    have HV : Hid (Vars w) := hv
    have HS : Hid (w.heap.size ≤ W.heap.size) := hb.size
    clear ha hP1 hb hv
    go_wp2_with fail
    have hal : Below W.heap.size W (W.alloc (.cells #[.string ⟨#[121, 49, 46, 108, 105, 110, 101, 46, 100, 117, 101]⟩, .string ⟨#[108, 105, 110, 101, 46, 100, 117, 101]⟩, .int .i64 730485, .int .i64 3652059, .int .i64 730454, .int .i64 0, .string ⟨#[]⟩, .int .i64 3, .int .i64 0, .int .i64 0, .slice none 0 0, .string ⟨#[109, 97, 120, 40, 108, 105, 110, 101, 46, 116, 97, 120, 32, 45, 32, 108, 105, 110, 101, 46, 99, 114, 101, 100, 105, 116, 44, 32, 48, 41, 32, 45, 32, 105, 110, 46, 119, 105, 116, 104, 104, 101, 108, 100]⟩, .int .i64 5, .int .i64 1, .int .i64 100] 55)) := (Below.refl _ _).alloc (Nat.le_refl _) _
    have hb3 := HB.out.trans (hal.mono HS.out)
    have kk : (W.alloc (.cells #[.string ⟨#[121, 49, 46, 108, 105, 110, 101, 46, 100, 117, 101]⟩, .string ⟨#[108, 105, 110, 101, 46, 100, 117, 101]⟩, .int .i64 730485, .int .i64 3652059, .int .i64 730454, .int .i64 0, .string ⟨#[]⟩, .int .i64 3, .int .i64 0, .int .i64 0, .slice none 0 0, .string ⟨#[109, 97, 120, 40, 108, 105, 110, 101, 46, 116, 97, 120, 32, 45, 32, 108, 105, 110, 101, 46, 99, 114, 101, 100, 105, 116, 44, 32, 48, 41, 32, 45, 32, 105, 110, 46, 119, 105, 116, 104, 104, 101, 108, 100]⟩, .int .i64 5, .int .i64 1, .int .i64 100] 55)).cell? ⟨W.heap.size, 7, none⟩ = some (.int .i64 3) := by simp
    refine (names13 _).mono ?_
    rintro e w3 ⟨Ba, rfl, hBa1, hBa2, hBa3, hb6⟩
    rw [show nameList.length = 7 from rfl]
    have H3 : Hid (Below w.heap.size w w3) := hb3.trans (hb6.mono hb3.size)
    have HK : Hid (w3.cell? ⟨W.heap.size, 7, none⟩ = some (.int .i64 3)) := (hb6.cell (by simp)).trans kk
    have HN : Hid (∀ k, k < 7 → w3.cell? ⟨Ba, k, none⟩ = some (.string (nameList.getD k ByteArray.empty))) := fun k hk => (cell_of w3 Ba _ _ hBa3 k).trans (txts_at _ _ (by simp [nameList]; omega))
    have HW3 : Hid (W.heap.size < w3.heap.size ∧ Ba < w3.heap.size) := ⟨Nat.lt_of_lt_of_le (by simp) hb6.size, hBa2⟩
    clear k0 k1 k2 k3 k4 k5 k6 k7 k8 k9 k10 k11 k12 k13 k14 hBs kk hb3 hal hBa1 hBa2 hBa3 hb6 HP1 HB HS
    go_wp2
    go_loopw [7] (fun i' wr => ∃ k : Nat, k ≤ 7 ∧ i' = .int .i64 k ∧ Below w3.heap.size w3 wr) (fun i' _ => 7 - (intOf i').toNat)
    case atStart => exact ⟨0, by omega, rfl, Below.refl _ _⟩
    case round =>
      obtain ⟨wo, rfl⟩ : ∃ x, x = wr := ⟨wr, rfl⟩
      obtain ⟨k, hk, rfl, hb⟩ := hrel
      by_cases hlt : k < 7
      · have k0 : (0 : Int) ≤ (k : Int) := by omega
        have k1 : (k : Int) < (7 : Int) := by omega
        have cn : wo.cell? ⟨Ba, k, none⟩ = some (.string (nameList.getD k ByteArray.empty)) := (hb.cell (p := ⟨Ba, k, none⟩) HW3.out.2).trans (HN.out k hlt)
        have hT := tab_all k hlt
        clear HN
        generalize nameList.getD k ByteArray.empty = s at *
        have HT : Hid (Tab (nums s)) := hT
        have HCN : Hid (wo.cell? ⟨Ba, k, none⟩ = some (.string s)) := cn
        have HBW : Hid (Below w3.heap.size w3 wo) := hb
        have HBa : Hid (Ba < wo.heap.size) := Nat.lt_of_lt_of_le HW3.out.2 hb.size
        have HV4 : Hid (Vars wo) := (HV.out.below H3.out).below hb
        clear hT hb cn
        go_wp2
        go_loopw [8, 9] (fun v j wr => ∃ m : Nat, m ≤ 9 ∧ j = .int .i64 m ∧ v = .int .i64 ((nums s).take m).sum ∧ Below wo.heap.size wo wr) (fun _ j _ => 9 - (intOf j).toNat)
        case atStart => exact ⟨0, by omega, rfl, by simp, Below.refl _ _⟩
        case round =>
          obtain ⟨m, hm, rfl, rfl, hb2⟩ := hrel
          have HB2 : Hid (Below wo.heap.size wo wr) := hb2
          have cq : wr.cell? ⟨Ba, k, none⟩ = some (.string s) := (hb2.cell (p := ⟨Ba, k, none⟩) HBa.out).trans HCN.out
          clear hb2
          by_cases hlm : m < 9
          · have m0 : (0 : Int) ≤ (m : Int) := by omega
            have m1 : (m : Int) < (9 : Int) := by omega
            obtain ⟨t1, t2, t3, t4, t5, t6⟩ := HT.out.1 m hlm
            go_wp2_with fail
            refine (fact_all _ _ _ (HV4.out.below HB2.out)).mono ?_
            rintro e w5 ⟨rfl, hb5⟩
            have HB5 : Hid (Below wo.heap.size wo w5) := HB2.out.trans (hb5.mono HB2.out.size)
            have T1 : Hid (((nums s).take m).sum + factV (nums s) m = ((nums s).take (m + 1)).sum) := t1
            clear hb5 t1 cq
            generalize hz : ((nums s).take (m + 1)).sum = z at *
            have HZ : Hid (((nums s).take (m + 1)).sum = z) := hz
            clear hz
            generalize ((nums s).take m).sum = y at *
            cases hf : factB (nums s) m with
            | false =>
              have e0 := t6 hf
              rw [e0]
              have T2 : Hid (y = z) := by have h9 := T1.out; rw [e0] at h9; exact (Int.add_zero y).symm.trans h9
              clear T1 e0 t6 t4 t5 hf
              go_wp2
              go_roundw
              case rel => exact ⟨m + 1, by omega, by go_num, by rw [HZ.out, T2.out], HB5.out⟩
              case measure => simp [intOf]; omega
            | true =>
              clear t6 hf
              generalize factV (nums s) m = x at *
              go_wp2
              go_roundw
              case rel => exact ⟨m + 1, by omega, by go_num, by rw [HZ.out, T1.out], HB5.out⟩
              case measure => simp [intOf]; omega
          · obtain rfl : m = 9 := by omega
            go_wp2_with fail
            refine (sum_all _ _ (HV4.out.below HB2.out)).mono ?_
            rintro e w5 ⟨rfl, hb5⟩
            have HB5 : Hid (Below wo.heap.size wo w5) := HB2.out.trans (hb5.mono HB2.out.size)
            clear hb5 cq
            rw [HT.out.2.2, ← HT.out.2.1]
            generalize ((nums s).take 9).sum = y
            go_wp2
            go_roundw
            case rel => exact ⟨k + 1, by omega, by go_num, HBW.out.trans (HB5.out.mono HBW.out.size)⟩
            case measure => simp [intOf]; omega
      · obtain rfl : k = 7 := by omega
        have kk : wo.cell? ⟨W.heap.size, 7, none⟩ = some (.int .i64 3) := (hb.cell (p := ⟨W.heap.size, 7, none⟩) HW3.out.1).trans HK.out
        go_wp2
        go_ret
        exact ⟨rfl, H3.out.trans (hb.mono H3.out.size)⟩

theorem law_source (i : Int) (w : World) (hv : Vars w) :
    Calls Tryd.prog 6 #[.int .i64 i] w fun e w' => e = .returned (.bool true) ∧ Below w.heap.size w w' := by
  obtain ⟨b1, b2⟩ := tmodn_bd i 13 (by omega)
  rcases (by omega : (i.tmod 13 + 13) % 13 = 0 ∨ (i.tmod 13 + 13) % 13 = 1 ∨ (i.tmod 13 + 13) % 13 = 2 ∨ (i.tmod 13 + 13) % 13 = 3 ∨ (i.tmod 13 + 13) % 13 = 4 ∨ (i.tmod 13 + 13) % 13 = 5 ∨ (i.tmod 13 + 13) % 13 = 6 ∨ (i.tmod 13 + 13) % 13 = 7 ∨ (i.tmod 13 + 13) % 13 = 8 ∨ (i.tmod 13 + 13) % 13 = 9 ∨ (i.tmod 13 + 13) % 13 = 10 ∨ (i.tmod 13 + 13) % 13 = 11 ∨ (i.tmod 13 + 13) % 13 = 12) with ha | ha | ha | ha | ha | ha | ha | ha | ha | ha | ha | ha | ha
  · exact source_0 i w hv ha
  · exact source_1 i w hv ha
  · exact source_2 i w hv ha
  · exact source_3 i w hv ha
  · exact source_4 i w hv ha
  · exact source_5 i w hv ha
  · exact source_6 i w hv ha
  · exact source_7 i w hv ha
  · exact source_8 i w hv ha
  · exact source_9 i w hv ha
  · exact source_10 i w hv ha
  · exact source_11 i w hv ha
  · exact source_12 i w hv ha
end Go.Proofs.YtakbkdimknnopaaDoor
