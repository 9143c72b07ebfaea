/- The chapter's example; lists of texts compared; the walk of Y1Facts. -/
import Derived.Test.YtakbkdimknnopaaDoorC
namespace Go.Proofs.YtakbkdimknnopaaDoor
open Go.RowKit

theorem below_drewN {B : Nat} {a w : World} (h : Below B a w) (n : Nat) : Below B a (w.drewN n) := h.trans ⟨rfl, rfl, rfl, Nat.le_refl _, fun _ _ => rfl⟩
theorem cal {w : World} {a : Addr} {v : Value} (h : w.cell? a = some v) (o : Obj) : (w.alloc o).cell? a = some v := (World.cell?_alloc_lt w o a (World.block_lt_of_cell? w a h)).trans h
theorem enacted_any (w : World) : Calls Tryd.prog 28 #[] w fun e w' => e = .returned (.int .i64 730454) ∧ w' = w := by
  go_enter Tryd.func28, Tryd.ntmps28
  go_wp2
  go_ret
  exact ⟨rfl, rfl⟩
theorem top5 (w : World) (hv : Vars w) : Calls Tryd.prog 8 #[.string ⟨#[116, 111, 112]⟩, .int .i64 5] w fun e w' => e = .returned (.tuple #[.int .i64 150000, .bool true]) ∧ Below w.heap.size w w' :=
  (fact_all _ 5 w hv).mono fun e w' ⟨he, hb⟩ => ⟨he.trans (ret2 ⟨by decide, by decide⟩), hb⟩
theorem top6 (w : World) (hv : Vars w) : Calls Tryd.prog 8 #[.string ⟨#[116, 111, 112]⟩, .int .i64 6] w fun e w' => e = .returned (.tuple #[.int .i64 0, .bool false]) ∧ Below w.heap.size w w' :=
  (fact_all _ 6 w hv).mono fun e w' ⟨he, hb⟩ => ⟨he.trans (ret2 ⟨by decide, by decide⟩), hb⟩
theorem sumStd (w : World) (hv : Vars w) : Calls Tryd.prog 10 #[.string ⟨#[115, 116, 97, 110, 100, 97, 114, 100]⟩] w fun e w' => e = .returned (.tuple #[.int .i64 11000, .bool true]) ∧ Below w.heap.size w w' :=
  (sum_all _ w hv).mono fun e w' ⟨he, hb⟩ => ⟨he.trans (ret2 ⟨by decide, by decide⟩), hb⟩
set_option maxRecDepth 100000 in
theorem first_any (w : World) (hv : Vars w) : Calls Tryd.prog 7 #[] w fun e w' => e = .returned (.bool true) ∧ Below w.heap.size w w' := by
  go_enter Tryd.func7, Tryd.ntmps7
  go_wp2_with fail
  refine (top5 _ hv).mono ?_
  rintro e w1 ⟨rfl, hb1⟩
  have hv1 := hv.below hb1
  go_wp2_with fail
  refine (top6 _ hv1).mono ?_
  rintro e w2 ⟨rfl, hb2⟩
  have hv2 := hv1.below hb2
  go_wp2_with fail
  refine (sumStd _ hv2).mono ?_
  rintro e w3 ⟨rfl, hb3⟩
  go_wp2
  go_ret
  exact ⟨rfl, (hb1.trans (hb2.mono hb1.size)).trans (hb3.mono (Nat.le_trans hb1.size hb2.size))⟩
/-- A call that answers a new slice of these texts. -/
def txts (l : List ByteArray) : Array Value := (l.map Value.string).toArray
def GivesT (l : List ByteArray) (w : World) (e : Ending) (w' : World) : Prop :=
  ∃ B, e = .returned (.slice (some ⟨B, 0, none⟩) l.length l.length) ∧ w.heap.size ≤ B ∧ B < w'.heap.size ∧ w'.heap[B]? = some (.cells (txts l) 9 (0, 0)) ∧ Below w.heap.size w w'
theorem txts_at (l : List ByteArray) (i : Nat) (h : i < l.length) : (txts l)[i]? = some (.string (l.getD i ByteArray.empty)) := by
  simp [txts, h]
def nameList : List ByteArray := [⟨#[99, 112, 105]⟩, ⟨#[102, 97, 99, 116, 111, 114]⟩, ⟨#[115, 116, 97, 110, 100, 97, 114, 100]⟩, ⟨#[116, 111, 112]⟩, ⟨#[114, 97, 116, 101]⟩, ⟨#[99, 114, 101, 100, 105, 116]⟩, ⟨#[112, 104, 97, 115, 101]⟩]

set_option maxRecDepth 100000 in
theorem names13 (w : World) : Calls Tryd.prog 13 #[] w (GivesT nameList w) := by
  go_enter Tryd.func13, Tryd.ntmps13
  go_wp2
  go_ret
  exact ⟨_, rfl, Nat.le_refl _, by simp, heap_new _ _, (Below.refl _ _).alloc (Nat.le_refl _) _⟩

set_option maxRecDepth 100000 in
theorem names14 (w : World) : Calls Tryd.prog 14 #[] w (GivesT nameList w) := by
  go_enter Tryd.func14, Tryd.ntmps14
  go_wp2
  go_ret
  exact ⟨_, rfl, Nat.le_refl _, by simp, heap_new _ _, (Below.refl _ _).alloc (Nat.le_refl _) _⟩

set_option maxRecDepth 100000 in
theorem same_texts (n ca cb Ba Bb : Nat) (f : Nat → ByteArray) (w : World) (hn : n ≤ 1000)
    (ha : ∀ k, k < n → w.cell? ⟨Ba, k, none⟩ = some (.string (f k))) (hb : ∀ k, k < n → w.cell? ⟨Bb, k, none⟩ = some (.string (f k))) :
    Calls Tryd.prog 12 #[.slice (some ⟨Ba, 0, none⟩) n ca, .slice (some ⟨Bb, 0, none⟩) n cb] w fun e w' => e = .returned (.bool true) ∧ ∃ m, w' = w.drewN m := by
  have HA : Hid _ := ha
  have HB : Hid _ := hb
  clear ha hb
  go_enter Tryd.func12, Tryd.ntmps12
  go_wp2
  go_loopw [5] (fun i wr => ∃ k m : Nat, k ≤ n ∧ i = .int .i64 k ∧ wr = w.drewN m) (fun i _ => n - (intOf i).toNat)
  case atStart => exact ⟨0, 0, Nat.zero_le _, rfl, rfl⟩
  case round =>
    obtain ⟨k, m, hk, rfl, rfl⟩ := hrel
    by_cases hlt : k < n
    · have h0 : (0 : Int) ≤ (k : Int) := by omega
      have h1 : (k : Int) < (n : Int) := by omega
      have ca := HA.out k hlt
      have cb := HB.out k hlt
      go_wp2
      go_quiet (fail)
      go_wp2
      go_roundw
      case rel => exact ⟨k + 1, _, by omega, by go_num, rfl⟩
      case measure => simp [intOf]; omega
    · go_wp2
      go_ret
      exact ⟨rfl, m, rfl⟩

theorem factor_any (w : World) (hv : Vars w) : Calls Tryd.prog 15 #[] w fun e w' => e = .returned (.agg #[.int .i64 1, .int .i64 1]) ∧ Below w.heap.size w w' := by
  have c0 := fun o => cal hv.f0 o
  have c1 := fun o => cal hv.f1 o
  clear hv
  go_enter Tryd.func15, Tryd.ntmps15
  go_wp2
  exact bodyPost_ret (v := .agg #[.int .i64 1, .int .i64 1]) (by simp [results, Tryd.results15, go_sem]) rfl ⟨rfl, (Below.refl _ _).alloc (Nat.le_refl _) _⟩
set_option maxRecDepth 100000 in
theorem law_facts (s : ByteArray) (i : Int) (w : World) (hs : s.size ≤ maxLen) (hv : Vars w) :
    Calls Tryd.prog 3 #[.string s, .int .i64 i] w fun e w' => e = .returned (.bool true) ∧ Below w.heap.size w w' := by
  unfold maxLen at hs
  by_cases hlong : 1000 < s.size
  · go_enter Tryd.func3, Tryd.ntmps3
    go_wp2_with fail
    refine (first_any _ hv).mono ?_
    rintro e w1 ⟨rfl, hb1⟩
    go_wp2
    go_ret
    exact ⟨rfl, hb1⟩
  · go_enter Tryd.func3, Tryd.ntmps3
    go_wp2_with fail
    refine (first_any _ hv).mono ?_
    rintro e w1 ⟨rfl, hb⟩
    have hv1 := hv.below hb
    go_wp2_with fail
    refine (fact_all _ _ _ hv1).mono ?_
    rintro e w2 ⟨rfl, hb2⟩
    replace hb := hb.trans (hb2.mono hb.size)
    replace hv1 := hv.below hb
    clear hb2
    go_wp2_with fail
    refine (rfact_all _ _ _).mono ?_
    rintro e w3 ⟨rfl, hb2⟩
    replace hb := hb.trans (hb2.mono hb.size)
    replace hv1 := hv.below hb
    clear hb2
    go_wp2_with fail
    refine (sum_all _ _ hv1).mono ?_
    rintro e w4 ⟨rfl, hb2⟩
    replace hb := hb.trans (hb2.mono hb.size)
    replace hv1 := hv.below hb
    clear hb2
    go_wp2_with fail
    refine (rsum_all _ _).mono ?_
    rintro e w5 ⟨rfl, hb2⟩
    replace hb := hb.trans (hb2.mono hb.size)
    replace hv1 := hv.below hb
    clear hb2
    generalize factV (nums s) i = x1
    generalize factB (nums s) i = x2
    generalize (nums s).sum = x3
    generalize sumB (nums s) = x4
    go_wp2_with fail
    refine (names13 _).mono ?_
    rintro e w6 ⟨Ba, rfl, hBa1, hBa2, hBa3, hb6⟩
    replace hb := hb.trans (hb6.mono hb.size)
    go_wp2_with fail
    refine (names14 _).mono ?_
    rintro e w7 ⟨Bb, rfl, hBb1, hBb2, hBb3, hb7⟩
    replace hb := hb.trans (hb7.mono hb.size)
    replace hv1 := hv.below hb
    have ha : w7.heap[Ba]? = _ := (hb7.block Ba hBa2).trans hBa3
    clear hBa3 hb6 hb7 hBa1 hBa2 hBb1 hBb2
    go_wp2_with fail
    refine (same_texts 7 7 7 Ba Bb (fun k => nameList.getD k ByteArray.empty) w7 (by omega) (fun k hk => (cell_of w7 Ba _ _ ha k).trans (txts_at _ _ hk)) (fun k hk => (cell_of w7 Bb _ _ hBb3 k).trans (txts_at _ _ hk))).mono ?_
    rintro e w8 ⟨rfl, m, rfl⟩
    clear ha hBb3
    replace hb := below_drewN hb m
    replace hv1 := hv.below hb
    go_wp2_with fail
    refine (factor_any _ hv1).mono ?_
    rintro e w9 ⟨rfl, hb2⟩
    replace hb := hb.trans (hb2.mono hb.size)
    clear hb2 hv1
    have hsz := hb.size
    go_wp2
    go_ret
    exact ⟨rfl, hb.alloc hsz _⟩

end Go.Proofs.YtakbkdimknnopaaDoor
