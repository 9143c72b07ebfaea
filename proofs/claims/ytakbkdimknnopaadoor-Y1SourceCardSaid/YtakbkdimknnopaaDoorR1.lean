/- What a number's key names; scales made of the tops and rates. -/
import Derived.Test.YtakbkdimknnopaaDoorS9
import Derived.BigQuiet
namespace Go.Proofs.YtakbkdimknnopaaDoor
open Go.RowKit

theorem fv0 : factV (nums ⟨#[115, 116, 97, 110, 100, 97, 114, 100]⟩) 0 = 4000 ∧ factB (nums ⟨#[115, 116, 97, 110, 100, 97, 114, 100]⟩) 0 = true := by rw [nums2]; decide
set_option maxRecDepth 100000 in
theorem fact26_0 (w : World) (hv : Vars w) : Calls Tryd.prog 26 #[.string ⟨#[112, 46, 115, 116, 97, 110, 100, 97, 114, 100, 46, 115, 105, 110, 103, 108, 101]⟩] w fun e w' => e = .returned (.int .i64 4000) ∧ Below w.heap.size w w' := by
  go_enter Tryd.func26, Tryd.ntmps26
  go_wp2_with fail
  refine (fact_all _ _ _ hv).mono ?_
  rintro e w1 ⟨rfl, hb⟩
  rw [fv0.1, fv0.2]
  go_wp2
  go_ret
  exact ⟨rfl, hb⟩

theorem fv1 : factV (nums ⟨#[115, 116, 97, 110, 100, 97, 114, 100]⟩) 1 = 7000 ∧ factB (nums ⟨#[115, 116, 97, 110, 100, 97, 114, 100]⟩) 1 = true := by rw [nums2]; decide
set_option maxRecDepth 100000 in
theorem fact26_1 (w : World) (hv : Vars w) : Calls Tryd.prog 26 #[.string ⟨#[112, 46, 115, 116, 97, 110, 100, 97, 114, 100, 46, 106, 111, 105, 110, 116]⟩] w fun e w' => e = .returned (.int .i64 7000) ∧ Below w.heap.size w w' := by
  go_enter Tryd.func26, Tryd.ntmps26
  go_wp2_with fail
  refine (fact_all _ _ _ hv).mono ?_
  rintro e w1 ⟨rfl, hb⟩
  rw [fv1.1, fv1.2]
  go_wp2
  go_ret
  exact ⟨rfl, hb⟩

theorem fv2 : factV (nums ⟨#[99, 114, 101, 100, 105, 116]⟩) 0 = 500 ∧ factB (nums ⟨#[99, 114, 101, 100, 105, 116]⟩) 0 = true := by rw [nums5]; decide
set_option maxRecDepth 100000 in
theorem fact26_2 (w : World) (hv : Vars w) : Calls Tryd.prog 26 #[.string ⟨#[112, 46, 99, 114, 101, 100, 105, 116, 46, 115, 105, 110, 103, 108, 101]⟩] w fun e w' => e = .returned (.int .i64 500) ∧ Below w.heap.size w w' := by
  go_enter Tryd.func26, Tryd.ntmps26
  go_wp2_with fail
  refine (fact_all _ _ _ hv).mono ?_
  rintro e w1 ⟨rfl, hb⟩
  rw [fv2.1, fv2.2]
  go_wp2
  go_ret
  exact ⟨rfl, hb⟩

theorem fv3 : factV (nums ⟨#[99, 114, 101, 100, 105, 116]⟩) 1 = 900 ∧ factB (nums ⟨#[99, 114, 101, 100, 105, 116]⟩) 1 = true := by rw [nums5]; decide
set_option maxRecDepth 100000 in
theorem fact26_3 (w : World) (hv : Vars w) : Calls Tryd.prog 26 #[.string ⟨#[112, 46, 99, 114, 101, 100, 105, 116, 46, 106, 111, 105, 110, 116]⟩] w fun e w' => e = .returned (.int .i64 900) ∧ Below w.heap.size w w' := by
  go_enter Tryd.func26, Tryd.ntmps26
  go_wp2_with fail
  refine (fact_all _ _ _ hv).mono ?_
  rintro e w1 ⟨rfl, hb⟩
  rw [fv3.1, fv3.2]
  go_wp2
  go_ret
  exact ⟨rfl, hb⟩

theorem fv4 : factV (nums ⟨#[112, 104, 97, 115, 101]⟩) 0 = 60000 ∧ factB (nums ⟨#[112, 104, 97, 115, 101]⟩) 0 = true := by rw [nums6]; decide
set_option maxRecDepth 100000 in
theorem fact26_4 (w : World) (hv : Vars w) : Calls Tryd.prog 26 #[.string ⟨#[112, 46, 112, 104, 97, 115, 101]⟩] w fun e w' => e = .returned (.int .i64 60000) ∧ Below w.heap.size w w' := by
  go_enter Tryd.func26, Tryd.ntmps26
  go_wp2_with fail
  refine (fact_all _ _ _ hv).mono ?_
  rintro e w1 ⟨rfl, hb⟩
  rw [fv4.1, fv4.2]
  go_wp2
  go_ret
  exact ⟨rfl, hb⟩

theorem top_0_1 : factV (nums ⟨#[116, 111, 112]⟩) 0 = 10000 := by rw [nums3]; decide
theorem top_0_2 : factV (nums ⟨#[116, 111, 112]⟩) 1 = 40000 := by rw [nums3]; decide
theorem top_0_3 : factV (nums ⟨#[116, 111, 112]⟩) 2 = 90000 := by rw [nums3]; decide
theorem rate_0 : factV (nums ⟨#[114, 97, 116, 101]⟩) 0 = 1000 ∧ factB (nums ⟨#[114, 97, 116, 101]⟩) 0 = true := by rw [nums4]; decide
theorem rate_1 : factV (nums ⟨#[114, 97, 116, 101]⟩) 1 = 1500 ∧ factB (nums ⟨#[114, 97, 116, 101]⟩) 1 = true := by rw [nums4]; decide
theorem rate_2 : factV (nums ⟨#[114, 97, 116, 101]⟩) 2 = 2800 ∧ factB (nums ⟨#[114, 97, 116, 101]⟩) 2 = true := by rw [nums4]; decide
theorem rate_3 : factV (nums ⟨#[114, 97, 116, 101]⟩) 3 = 3500 ∧ factB (nums ⟨#[114, 97, 116, 101]⟩) 3 = true := by rw [nums4]; decide
set_option maxRecDepth 100000 in
set_option maxHeartbeats 4000000 in
theorem scaled_false (g c : Nat) (w : World) (hv : Vars w) (hg : g < w.heap.size) (hc : ∀ k, k < 16 → w.cell? ⟨g, k, none⟩ = (brks false)[k]?) :
    Calls Tryd.prog 27 #[.slice (some ⟨g, 0, none⟩) 4 c, .int .i64 0] w fun e w' => e = .returned (.bool true) ∧ Below w.heap.size w w' := by
  have HV : Hid (Vars w) := hv
  have HC : Hid (∀ k, k < 16 → w.cell? ⟨g, k, none⟩ = (brks false)[k]?) := hc
  clear hv hc
  go_enter Tryd.func27, Tryd.ntmps27
  go_wp2
  go_loopw [5] (fun i wr => ∃ k : Nat, k ≤ 4 ∧ i = .int .i64 k ∧ Below w.heap.size w wr) (fun i _ => 4 - (intOf i).toNat)
  case atStart => exact ⟨0, Nat.zero_le _, rfl, Below.refl _ _⟩
  case round =>
    obtain ⟨k, hk, rfl, hb⟩ := hrel
    rcases (by omega : k = 0 ∨ k = 1 ∨ k = 2 ∨ k = 3 ∨ k = 4) with rfl | rfl | rfl | rfl | rfl
    · have HB : Hid (Below w.heap.size w wr) := hb
      clear hb
      go_wp2_with fail
      refine (fact_all _ _ _ (HV.out.below HB.out)).mono ?_
      rintro e w2 ⟨rfl, hb⟩
      have HB3 : Hid (Below w.heap.size w w2) := HB.out.trans (hb.mono HB.out.size)
      clear hb HB
      rw [rate_0.1, rate_0.2]
      have hz3 := HB3.out.size
      have c0 : w2.cell? ⟨g, 0, none⟩ = some (.int .i64 0) := (HB3.out.cell (p := ⟨g, 0, none⟩) hg).trans (HC.out 0 (by omega))
      have c1 : w2.cell? ⟨g, 1, none⟩ = some (.int .i64 1) := (HB3.out.cell (p := ⟨g, 1, none⟩) hg).trans (HC.out 1 (by omega))
      have c2 : w2.cell? ⟨g, 2, none⟩ = some (.int .i64 1) := (HB3.out.cell (p := ⟨g, 2, none⟩) hg).trans (HC.out 2 (by omega))
      have c3 : w2.cell? ⟨g, 3, none⟩ = some (.int .i64 10) := (HB3.out.cell (p := ⟨g, 3, none⟩) hg).trans (HC.out 3 (by omega))
      go_upto_region 10 with (fail)
      go_quiet (fail)
      go_upto_region 12 with (fail)
      go_quiet (fail)
      go_wp2
      go_roundw
      case rel => exact ⟨1, by omega, by go_num, below_drewN HB3.out _⟩
      case measure => simp [intOf]
    · have HB : Hid (Below w.heap.size w wr) := hb
      clear hb
      go_wp2_with fail
      refine (fact_all _ _ _ (HV.out.below HB.out)).mono ?_
      rintro e w1 ⟨rfl, hb⟩
      have HB2 : Hid (Below w.heap.size w w1) := HB.out.trans (hb.mono HB.out.size)
      clear hb HB
      rw [top_0_1]
      go_wp2_with fail
      refine (fact_all _ _ _ (HV.out.below HB2.out)).mono ?_
      rintro e w2 ⟨rfl, hb⟩
      have HB3 : Hid (Below w.heap.size w w2) := HB2.out.trans (hb.mono HB2.out.size)
      clear hb HB2
      rw [rate_1.1, rate_1.2]
      have hz3 := HB3.out.size
      have c0 : w2.cell? ⟨g, 0, none⟩ = some (.int .i64 0) := (HB3.out.cell (p := ⟨g, 0, none⟩) hg).trans (HC.out 0 (by omega))
      have c1 : w2.cell? ⟨g, 1, none⟩ = some (.int .i64 1) := (HB3.out.cell (p := ⟨g, 1, none⟩) hg).trans (HC.out 1 (by omega))
      have c2 : w2.cell? ⟨g, 2, none⟩ = some (.int .i64 1) := (HB3.out.cell (p := ⟨g, 2, none⟩) hg).trans (HC.out 2 (by omega))
      have c3 : w2.cell? ⟨g, 3, none⟩ = some (.int .i64 10) := (HB3.out.cell (p := ⟨g, 3, none⟩) hg).trans (HC.out 3 (by omega))
      have c4 : w2.cell? ⟨g, 4, none⟩ = some (.int .i64 10000) := (HB3.out.cell (p := ⟨g, 4, none⟩) hg).trans (HC.out 4 (by omega))
      have c5 : w2.cell? ⟨g, 5, none⟩ = some (.int .i64 1) := (HB3.out.cell (p := ⟨g, 5, none⟩) hg).trans (HC.out 5 (by omega))
      have c6 : w2.cell? ⟨g, 6, none⟩ = some (.int .i64 3) := (HB3.out.cell (p := ⟨g, 6, none⟩) hg).trans (HC.out 6 (by omega))
      have c7 : w2.cell? ⟨g, 7, none⟩ = some (.int .i64 20) := (HB3.out.cell (p := ⟨g, 7, none⟩) hg).trans (HC.out 7 (by omega))
      go_upto_region 10 with (fail)
      go_quiet (fail)
      go_upto_region 12 with (fail)
      go_quiet (fail)
      go_wp2
      go_roundw
      case rel => exact ⟨2, by omega, by go_num, below_drewN HB3.out _⟩
      case measure => simp [intOf]
    · have HB : Hid (Below w.heap.size w wr) := hb
      clear hb
      go_wp2_with fail
      refine (fact_all _ _ _ (HV.out.below HB.out)).mono ?_
      rintro e w1 ⟨rfl, hb⟩
      have HB2 : Hid (Below w.heap.size w w1) := HB.out.trans (hb.mono HB.out.size)
      clear hb HB
      rw [top_0_2]
      go_wp2_with fail
      refine (fact_all _ _ _ (HV.out.below HB2.out)).mono ?_
      rintro e w2 ⟨rfl, hb⟩
      have HB3 : Hid (Below w.heap.size w w2) := HB2.out.trans (hb.mono HB2.out.size)
      clear hb HB2
      rw [rate_2.1, rate_2.2]
      have hz3 := HB3.out.size
      have c4 : w2.cell? ⟨g, 4, none⟩ = some (.int .i64 10000) := (HB3.out.cell (p := ⟨g, 4, none⟩) hg).trans (HC.out 4 (by omega))
      have c5 : w2.cell? ⟨g, 5, none⟩ = some (.int .i64 1) := (HB3.out.cell (p := ⟨g, 5, none⟩) hg).trans (HC.out 5 (by omega))
      have c6 : w2.cell? ⟨g, 6, none⟩ = some (.int .i64 3) := (HB3.out.cell (p := ⟨g, 6, none⟩) hg).trans (HC.out 6 (by omega))
      have c7 : w2.cell? ⟨g, 7, none⟩ = some (.int .i64 20) := (HB3.out.cell (p := ⟨g, 7, none⟩) hg).trans (HC.out 7 (by omega))
      have c8 : w2.cell? ⟨g, 8, none⟩ = some (.int .i64 40000) := (HB3.out.cell (p := ⟨g, 8, none⟩) hg).trans (HC.out 8 (by omega))
      have c9 : w2.cell? ⟨g, 9, none⟩ = some (.int .i64 1) := (HB3.out.cell (p := ⟨g, 9, none⟩) hg).trans (HC.out 9 (by omega))
      have c10 : w2.cell? ⟨g, 10, none⟩ = some (.int .i64 7) := (HB3.out.cell (p := ⟨g, 10, none⟩) hg).trans (HC.out 10 (by omega))
      have c11 : w2.cell? ⟨g, 11, none⟩ = some (.int .i64 25) := (HB3.out.cell (p := ⟨g, 11, none⟩) hg).trans (HC.out 11 (by omega))
      go_upto_region 10 with (fail)
      go_quiet (fail)
      go_upto_region 12 with (fail)
      go_quiet (fail)
      go_wp2
      go_roundw
      case rel => exact ⟨3, by omega, by go_num, below_drewN HB3.out _⟩
      case measure => simp [intOf]
    · have HB : Hid (Below w.heap.size w wr) := hb
      clear hb
      go_wp2_with fail
      refine (fact_all _ _ _ (HV.out.below HB.out)).mono ?_
      rintro e w1 ⟨rfl, hb⟩
      have HB2 : Hid (Below w.heap.size w w1) := HB.out.trans (hb.mono HB.out.size)
      clear hb HB
      rw [top_0_3]
      go_wp2_with fail
      refine (fact_all _ _ _ (HV.out.below HB2.out)).mono ?_
      rintro e w2 ⟨rfl, hb⟩
      have HB3 : Hid (Below w.heap.size w w2) := HB2.out.trans (hb.mono HB2.out.size)
      clear hb HB2
      rw [rate_3.1, rate_3.2]
      have hz3 := HB3.out.size
      have c8 : w2.cell? ⟨g, 8, none⟩ = some (.int .i64 40000) := (HB3.out.cell (p := ⟨g, 8, none⟩) hg).trans (HC.out 8 (by omega))
      have c9 : w2.cell? ⟨g, 9, none⟩ = some (.int .i64 1) := (HB3.out.cell (p := ⟨g, 9, none⟩) hg).trans (HC.out 9 (by omega))
      have c10 : w2.cell? ⟨g, 10, none⟩ = some (.int .i64 7) := (HB3.out.cell (p := ⟨g, 10, none⟩) hg).trans (HC.out 10 (by omega))
      have c11 : w2.cell? ⟨g, 11, none⟩ = some (.int .i64 25) := (HB3.out.cell (p := ⟨g, 11, none⟩) hg).trans (HC.out 11 (by omega))
      have c12 : w2.cell? ⟨g, 12, none⟩ = some (.int .i64 90000) := (HB3.out.cell (p := ⟨g, 12, none⟩) hg).trans (HC.out 12 (by omega))
      have c13 : w2.cell? ⟨g, 13, none⟩ = some (.int .i64 1) := (HB3.out.cell (p := ⟨g, 13, none⟩) hg).trans (HC.out 13 (by omega))
      have c14 : w2.cell? ⟨g, 14, none⟩ = some (.int .i64 7) := (HB3.out.cell (p := ⟨g, 14, none⟩) hg).trans (HC.out 14 (by omega))
      have c15 : w2.cell? ⟨g, 15, none⟩ = some (.int .i64 20) := (HB3.out.cell (p := ⟨g, 15, none⟩) hg).trans (HC.out 15 (by omega))
      go_upto_region 10 with (fail)
      go_quiet (fail)
      go_upto_region 12 with (fail)
      go_quiet (fail)
      go_wp2
      go_roundw
      case rel => exact ⟨4, by omega, by go_num, below_drewN HB3.out _⟩
      case measure => simp [intOf]
    · go_wp2
      go_ret
      exact ⟨rfl, hb⟩

theorem top_1_1 : factV (nums ⟨#[116, 111, 112]⟩) 3 = 18000 := by rw [nums3]; decide
theorem top_1_2 : factV (nums ⟨#[116, 111, 112]⟩) 4 = 70000 := by rw [nums3]; decide
theorem top_1_3 : factV (nums ⟨#[116, 111, 112]⟩) 5 = 150000 := by rw [nums3]; decide
set_option maxRecDepth 100000 in
set_option maxHeartbeats 4000000 in
theorem scaled_true (g c : Nat) (w : World) (hv : Vars w) (hg : g < w.heap.size) (hc : ∀ k, k < 16 → w.cell? ⟨g, k, none⟩ = (brks true)[k]?) :
    Calls Tryd.prog 27 #[.slice (some ⟨g, 0, none⟩) 4 c, .int .i64 3] w fun e w' => e = .returned (.bool true) ∧ Below w.heap.size w w' := by
  have HV : Hid (Vars w) := hv
  have HC : Hid (∀ k, k < 16 → w.cell? ⟨g, k, none⟩ = (brks true)[k]?) := hc
  clear hv hc
  go_enter Tryd.func27, Tryd.ntmps27
  go_wp2
  go_loopw [5] (fun i wr => ∃ k : Nat, k ≤ 4 ∧ i = .int .i64 k ∧ Below w.heap.size w wr) (fun i _ => 4 - (intOf i).toNat)
  case atStart => exact ⟨0, Nat.zero_le _, rfl, Below.refl _ _⟩
  case round =>
    obtain ⟨k, hk, rfl, hb⟩ := hrel
    rcases (by omega : k = 0 ∨ k = 1 ∨ k = 2 ∨ k = 3 ∨ k = 4) with rfl | rfl | rfl | rfl | rfl
    · have HB : Hid (Below w.heap.size w wr) := hb
      clear hb
      go_wp2_with fail
      refine (fact_all _ _ _ (HV.out.below HB.out)).mono ?_
      rintro e w2 ⟨rfl, hb⟩
      have HB3 : Hid (Below w.heap.size w w2) := HB.out.trans (hb.mono HB.out.size)
      clear hb HB
      rw [rate_0.1, rate_0.2]
      have hz3 := HB3.out.size
      have c0 : w2.cell? ⟨g, 0, none⟩ = some (.int .i64 0) := (HB3.out.cell (p := ⟨g, 0, none⟩) hg).trans (HC.out 0 (by omega))
      have c1 : w2.cell? ⟨g, 1, none⟩ = some (.int .i64 1) := (HB3.out.cell (p := ⟨g, 1, none⟩) hg).trans (HC.out 1 (by omega))
      have c2 : w2.cell? ⟨g, 2, none⟩ = some (.int .i64 1) := (HB3.out.cell (p := ⟨g, 2, none⟩) hg).trans (HC.out 2 (by omega))
      have c3 : w2.cell? ⟨g, 3, none⟩ = some (.int .i64 10) := (HB3.out.cell (p := ⟨g, 3, none⟩) hg).trans (HC.out 3 (by omega))
      go_upto_region 10 with (fail)
      go_quiet (fail)
      go_upto_region 12 with (fail)
      go_quiet (fail)
      go_wp2
      go_roundw
      case rel => exact ⟨1, by omega, by go_num, below_drewN HB3.out _⟩
      case measure => simp [intOf]
    · have HB : Hid (Below w.heap.size w wr) := hb
      clear hb
      go_wp2_with fail
      refine (fact_all _ _ _ (HV.out.below HB.out)).mono ?_
      rintro e w1 ⟨rfl, hb⟩
      have HB2 : Hid (Below w.heap.size w w1) := HB.out.trans (hb.mono HB.out.size)
      clear hb HB
      rw [top_1_1]
      go_wp2_with fail
      refine (fact_all _ _ _ (HV.out.below HB2.out)).mono ?_
      rintro e w2 ⟨rfl, hb⟩
      have HB3 : Hid (Below w.heap.size w w2) := HB2.out.trans (hb.mono HB2.out.size)
      clear hb HB2
      rw [rate_1.1, rate_1.2]
      have hz3 := HB3.out.size
      have c0 : w2.cell? ⟨g, 0, none⟩ = some (.int .i64 0) := (HB3.out.cell (p := ⟨g, 0, none⟩) hg).trans (HC.out 0 (by omega))
      have c1 : w2.cell? ⟨g, 1, none⟩ = some (.int .i64 1) := (HB3.out.cell (p := ⟨g, 1, none⟩) hg).trans (HC.out 1 (by omega))
      have c2 : w2.cell? ⟨g, 2, none⟩ = some (.int .i64 1) := (HB3.out.cell (p := ⟨g, 2, none⟩) hg).trans (HC.out 2 (by omega))
      have c3 : w2.cell? ⟨g, 3, none⟩ = some (.int .i64 10) := (HB3.out.cell (p := ⟨g, 3, none⟩) hg).trans (HC.out 3 (by omega))
      have c4 : w2.cell? ⟨g, 4, none⟩ = some (.int .i64 18000) := (HB3.out.cell (p := ⟨g, 4, none⟩) hg).trans (HC.out 4 (by omega))
      have c5 : w2.cell? ⟨g, 5, none⟩ = some (.int .i64 1) := (HB3.out.cell (p := ⟨g, 5, none⟩) hg).trans (HC.out 5 (by omega))
      have c6 : w2.cell? ⟨g, 6, none⟩ = some (.int .i64 3) := (HB3.out.cell (p := ⟨g, 6, none⟩) hg).trans (HC.out 6 (by omega))
      have c7 : w2.cell? ⟨g, 7, none⟩ = some (.int .i64 20) := (HB3.out.cell (p := ⟨g, 7, none⟩) hg).trans (HC.out 7 (by omega))
      go_upto_region 10 with (fail)
      go_quiet (fail)
      go_upto_region 12 with (fail)
      go_quiet (fail)
      go_wp2
      go_roundw
      case rel => exact ⟨2, by omega, by go_num, below_drewN HB3.out _⟩
      case measure => simp [intOf]
    · have HB : Hid (Below w.heap.size w wr) := hb
      clear hb
      go_wp2_with fail
      refine (fact_all _ _ _ (HV.out.below HB.out)).mono ?_
      rintro e w1 ⟨rfl, hb⟩
      have HB2 : Hid (Below w.heap.size w w1) := HB.out.trans (hb.mono HB.out.size)
      clear hb HB
      rw [top_1_2]
      go_wp2_with fail
      refine (fact_all _ _ _ (HV.out.below HB2.out)).mono ?_
      rintro e w2 ⟨rfl, hb⟩
      have HB3 : Hid (Below w.heap.size w w2) := HB2.out.trans (hb.mono HB2.out.size)
      clear hb HB2
      rw [rate_2.1, rate_2.2]
      have hz3 := HB3.out.size
      have c4 : w2.cell? ⟨g, 4, none⟩ = some (.int .i64 18000) := (HB3.out.cell (p := ⟨g, 4, none⟩) hg).trans (HC.out 4 (by omega))
      have c5 : w2.cell? ⟨g, 5, none⟩ = some (.int .i64 1) := (HB3.out.cell (p := ⟨g, 5, none⟩) hg).trans (HC.out 5 (by omega))
      have c6 : w2.cell? ⟨g, 6, none⟩ = some (.int .i64 3) := (HB3.out.cell (p := ⟨g, 6, none⟩) hg).trans (HC.out 6 (by omega))
      have c7 : w2.cell? ⟨g, 7, none⟩ = some (.int .i64 20) := (HB3.out.cell (p := ⟨g, 7, none⟩) hg).trans (HC.out 7 (by omega))
      have c8 : w2.cell? ⟨g, 8, none⟩ = some (.int .i64 70000) := (HB3.out.cell (p := ⟨g, 8, none⟩) hg).trans (HC.out 8 (by omega))
      have c9 : w2.cell? ⟨g, 9, none⟩ = some (.int .i64 1) := (HB3.out.cell (p := ⟨g, 9, none⟩) hg).trans (HC.out 9 (by omega))
      have c10 : w2.cell? ⟨g, 10, none⟩ = some (.int .i64 7) := (HB3.out.cell (p := ⟨g, 10, none⟩) hg).trans (HC.out 10 (by omega))
      have c11 : w2.cell? ⟨g, 11, none⟩ = some (.int .i64 25) := (HB3.out.cell (p := ⟨g, 11, none⟩) hg).trans (HC.out 11 (by omega))
      go_upto_region 10 with (fail)
      go_quiet (fail)
      go_upto_region 12 with (fail)
      go_quiet (fail)
      go_wp2
      go_roundw
      case rel => exact ⟨3, by omega, by go_num, below_drewN HB3.out _⟩
      case measure => simp [intOf]
    · have HB : Hid (Below w.heap.size w wr) := hb
      clear hb
      go_wp2_with fail
      refine (fact_all _ _ _ (HV.out.below HB.out)).mono ?_
      rintro e w1 ⟨rfl, hb⟩
      have HB2 : Hid (Below w.heap.size w w1) := HB.out.trans (hb.mono HB.out.size)
      clear hb HB
      rw [top_1_3]
      go_wp2_with fail
      refine (fact_all _ _ _ (HV.out.below HB2.out)).mono ?_
      rintro e w2 ⟨rfl, hb⟩
      have HB3 : Hid (Below w.heap.size w w2) := HB2.out.trans (hb.mono HB2.out.size)
      clear hb HB2
      rw [rate_3.1, rate_3.2]
      have hz3 := HB3.out.size
      have c8 : w2.cell? ⟨g, 8, none⟩ = some (.int .i64 70000) := (HB3.out.cell (p := ⟨g, 8, none⟩) hg).trans (HC.out 8 (by omega))
      have c9 : w2.cell? ⟨g, 9, none⟩ = some (.int .i64 1) := (HB3.out.cell (p := ⟨g, 9, none⟩) hg).trans (HC.out 9 (by omega))
      have c10 : w2.cell? ⟨g, 10, none⟩ = some (.int .i64 7) := (HB3.out.cell (p := ⟨g, 10, none⟩) hg).trans (HC.out 10 (by omega))
      have c11 : w2.cell? ⟨g, 11, none⟩ = some (.int .i64 25) := (HB3.out.cell (p := ⟨g, 11, none⟩) hg).trans (HC.out 11 (by omega))
      have c12 : w2.cell? ⟨g, 12, none⟩ = some (.int .i64 150000) := (HB3.out.cell (p := ⟨g, 12, none⟩) hg).trans (HC.out 12 (by omega))
      have c13 : w2.cell? ⟨g, 13, none⟩ = some (.int .i64 1) := (HB3.out.cell (p := ⟨g, 13, none⟩) hg).trans (HC.out 13 (by omega))
      have c14 : w2.cell? ⟨g, 14, none⟩ = some (.int .i64 7) := (HB3.out.cell (p := ⟨g, 14, none⟩) hg).trans (HC.out 14 (by omega))
      have c15 : w2.cell? ⟨g, 15, none⟩ = some (.int .i64 20) := (HB3.out.cell (p := ⟨g, 15, none⟩) hg).trans (HC.out 15 (by omega))
      go_upto_region 10 with (fail)
      go_quiet (fail)
      go_upto_region 12 with (fail)
      go_quiet (fail)
      go_wp2
      go_roundw
      case rel => exact ⟨4, by omega, by go_num, below_drewN HB3.out _⟩
      case measure => simp [intOf]
    · go_wp2
      go_ret
      exact ⟨rfl, hb⟩

end Go.Proofs.YtakbkdimknnopaaDoor
