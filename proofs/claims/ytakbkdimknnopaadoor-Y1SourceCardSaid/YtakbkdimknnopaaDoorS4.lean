/- Fractions, spans, roundings, brackets compared. -/
import Derived.Test.YtakbkdimknnopaaDoorS3
namespace Go.Proofs.YtakbkdimknnopaaDoor
open Go.RowKit

set_option maxRecDepth 100000 in
theorem same_frac (a b : Int) (w : World) : Calls Tryd.prog 45 #[.agg #[.int .i64 a, .int .i64 b], .agg #[.int .i64 a, .int .i64 b]] w fun e w' => e = .returned (.bool true) ∧ Below w.heap.size w w' := by
  go_enter Tryd.func45, Tryd.ntmps45
  go_wp2
  go_ret
  exact ⟨rfl, ((Below.refl _ _).alloc (Nat.le_refl _) _).alloc (by simp) _⟩

set_option maxRecDepth 100000 in
theorem same_span (a b : Int) (w : World) : Calls Tryd.prog 59 #[.agg #[.int .i64 a, .int .i64 b], .agg #[.int .i64 a, .int .i64 b]] w fun e w' => e = .returned (.bool true) ∧ Below w.heap.size w w' := by
  go_enter Tryd.func59, Tryd.ntmps59
  go_wp2
  go_ret
  exact ⟨rfl, ((Below.refl _ _).alloc (Nat.le_refl _) _).alloc (by simp) _⟩

set_option maxRecDepth 100000 in
theorem same_round (m a b : Int) (w : World) : Calls Tryd.prog 63 #[.agg #[.int .i64 m, .int .i64 a, .int .i64 b], .agg #[.int .i64 m, .int .i64 a, .int .i64 b]] w fun e w' => e = .returned (.bool true) ∧ Below w.heap.size w w' := by
  go_enter Tryd.func63, Tryd.ntmps63
  go_wp2_with fail
  refine (same_frac a b _).mono ?_
  rintro e w1 ⟨rfl, hb⟩
  go_wp2
  go_ret
  exact ⟨rfl, (((Below.refl _ _).alloc (Nat.le_refl _) _).alloc (by simp) _).trans (hb.mono (by simp; omega))⟩

set_option maxRecDepth 100000 in
set_option maxHeartbeats 2000000 in
theorem same_brackets (n ca cb Ba Bb : Nat) (f0 f1 f2 f3 : Nat → Int) (w : World) (hn : n ≤ 1000) (la : Ba < w.heap.size) (lb : Bb < w.heap.size)
    (ha : ∀ k, k < n → w.cell? ⟨Ba, k * 4, none⟩ = some (.int .i64 (f0 k)) ∧ w.cell? ⟨Ba, k * 4 + 1, none⟩ = some (.int .i64 (f1 k)) ∧ w.cell? ⟨Ba, k * 4 + 2, none⟩ = some (.int .i64 (f2 k)) ∧ w.cell? ⟨Ba, k * 4 + 3, none⟩ = some (.int .i64 (f3 k)))
    (hb : ∀ k, k < n → w.cell? ⟨Bb, k * 4, none⟩ = some (.int .i64 (f0 k)) ∧ w.cell? ⟨Bb, k * 4 + 1, none⟩ = some (.int .i64 (f1 k)) ∧ w.cell? ⟨Bb, k * 4 + 2, none⟩ = some (.int .i64 (f2 k)) ∧ w.cell? ⟨Bb, k * 4 + 3, none⟩ = some (.int .i64 (f3 k))) :
    Calls Tryd.prog 23 #[.slice (some ⟨Ba, 0, none⟩) n ca, .slice (some ⟨Bb, 0, none⟩) n cb] w fun e w' => e = .returned (.bool true) ∧ Below w.heap.size w w' := by
  have HA : Hid (∀ k, k < n → w.cell? ⟨Ba, k * 4, none⟩ = some (.int .i64 (f0 k)) ∧ w.cell? ⟨Ba, k * 4 + 1, none⟩ = some (.int .i64 (f1 k)) ∧ w.cell? ⟨Ba, k * 4 + 2, none⟩ = some (.int .i64 (f2 k)) ∧ w.cell? ⟨Ba, k * 4 + 3, none⟩ = some (.int .i64 (f3 k))) := ha
  have HB : Hid (∀ k, k < n → w.cell? ⟨Bb, k * 4, none⟩ = some (.int .i64 (f0 k)) ∧ w.cell? ⟨Bb, k * 4 + 1, none⟩ = some (.int .i64 (f1 k)) ∧ w.cell? ⟨Bb, k * 4 + 2, none⟩ = some (.int .i64 (f2 k)) ∧ w.cell? ⟨Bb, k * 4 + 3, none⟩ = some (.int .i64 (f3 k))) := hb
  clear ha hb
  go_enter Tryd.func23, Tryd.ntmps23
  go_wp2
  go_loopw [5] (fun i wr => ∃ k : Nat, k ≤ n ∧ i = .int .i64 k ∧ Below w.heap.size w wr) (fun i _ => n - (intOf i).toNat)
  case atStart => exact ⟨0, Nat.zero_le _, rfl, Below.refl _ _⟩
  case round =>
    obtain ⟨k, hk, rfl, hb⟩ := hrel
    have hsz := hb.size
    by_cases hlt : k < n
    · have h0 : (0 : Int) ≤ (k : Int) := by omega
      have h1 : (k : Int) < (n : Int) := by omega
      obtain ⟨a0, a1, a2, a3⟩ := HA.out k hlt
      obtain ⟨b0, b1, b2, b3⟩ := HB.out k hlt
      generalize f0 k = x0 at *
      generalize f1 k = x1 at *
      generalize f2 k = x2 at *
      generalize f3 k = x3 at *
      replace a0 := (hb.cell (p := ⟨Ba, k * 4, none⟩) la).trans a0
      replace a1 := (hb.cell (p := ⟨Ba, k * 4 + 1, none⟩) la).trans a1
      replace a2 := (hb.cell (p := ⟨Ba, k * 4 + 2, none⟩) la).trans a2
      replace a3 := (hb.cell (p := ⟨Ba, k * 4 + 3, none⟩) la).trans a3
      replace b0 := (hb.cell (p := ⟨Bb, k * 4, none⟩) lb).trans b0
      replace b1 := (hb.cell (p := ⟨Bb, k * 4 + 1, none⟩) lb).trans b1
      replace b2 := (hb.cell (p := ⟨Bb, k * 4 + 2, none⟩) lb).trans b2
      replace b3 := (hb.cell (p := ⟨Bb, k * 4 + 3, none⟩) lb).trans b3
      have la2 : Ba < wr.heap.size := by omega
      have lb2 : Bb < wr.heap.size := by omega
      have HBW : Hid (Below w.heap.size w wr) := hb
      clear hb
      go_wp2_with fail
      go_region_held3 (fun w' => w'.cell? ⟨Ba, k * 4, none⟩ = some (.int .i64 x0) ∧ w'.cell? ⟨Ba, k * 4 + 1, none⟩ = some (.int .i64 x1) ∧ w'.cell? ⟨Ba, k * 4 + 2, none⟩ = some (.int .i64 x2) ∧ w'.cell? ⟨Ba, k * 4 + 3, none⟩ = some (.int .i64 x3) ∧ w'.cell? ⟨Bb, k * 4, none⟩ = some (.int .i64 x0) ∧ w'.cell? ⟨Bb, k * 4 + 1, none⟩ = some (.int .i64 x1) ∧ w'.cell? ⟨Bb, k * 4 + 2, none⟩ = some (.int .i64 x2) ∧ w'.cell? ⟨Bb, k * 4 + 3, none⟩ = some (.int .i64 x3) ∧ Below wr.heap.size wr w')
        (first
          | (refine ⟨?_, ?_, ?_, ?_, ?_, ?_, ?_, ?_, ?_⟩ <;> (first | assumption | exact (Below.refl _ _).drew | exact Below.refl _ _))
          | (go_split_ands
             have hsz' := Below.size ‹Below wr.heap.size wr _›
             refine ⟨?_, ?_, ?_, ?_, ?_, ?_, ?_, ?_, ?_⟩
             iterate 8 (· exact (hbk.cell (by simp; omega)).trans (by assumption))
             · exact Below.trans ‹Below wr.heap.size wr _› (hbk.mono hsz')))
        ((go_at_call 45; refine (same_frac _ _ _).mono ?_; rintro e w2 ⟨rfl, hbk⟩))
      all_goals
        go_split_ands
        go_wp2
        go_roundw
        case rel => exact ⟨k + 1, by omega, by go_num, HBW.out.trans (Below.mono (B := wr.heap.size) (by assumption) hsz)⟩
        case measure => simp [intOf]; omega
    · go_wp2
      go_ret
      exact ⟨rfl, hb⟩

end Go.Proofs.YtakbkdimknnopaaDoor
