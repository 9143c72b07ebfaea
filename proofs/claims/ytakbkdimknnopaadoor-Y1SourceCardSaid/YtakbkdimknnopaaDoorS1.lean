/- frac.Make and titheref1.Make over 10000. -/
import Derived.Test.YtakbkdimknnopaaDoorD
namespace Go.Proofs.YtakbkdimknnopaaDoor
open Go.RowKit

set_option maxRecDepth 100000 in
theorem gcd64 (x0 y0 : Nat) (w : World) (hx : x0 ≤ 100000) (hy : y0 ≤ 100000) :
    Calls Tryd.prog 64 #[.int .u64 x0, .int .u64 y0] w fun e w' => e = .returned (.int .u64 (Nat.gcd x0 y0)) ∧ ∃ m, w' = w.drewN m := by
  go_enter Tryd.func64, Tryd.ntmps64
  go_wp2
  go_loopw [0, 1] (fun s t wr => ∃ x y m : Nat, Nat.gcd x y = Nat.gcd x0 y0 ∧ x ≤ 100000 ∧ y ≤ 100000 ∧ s = .int .u64 x ∧ t = .int .u64 y ∧ wr = w.drewN m) (fun _ t _ => (intOf t).toNat)
  case atStart => exact ⟨x0, y0, 0, rfl, hx, hy, rfl, rfl, rfl⟩
  case round =>
    obtain ⟨x, y, m, hg, hx1, hy1, rfl, rfl, rfl⟩ := hrel
    have HG : Hid (Nat.gcd x y = Nat.gcd x0 y0) := hg
    clear hg
    by_cases h : y = 0
    · subst h
      go_wp2
      go_ret
      exact ⟨by have := HG.out; rw [Nat.gcd_zero_right] at this; rw [this]; rfl, m, rfl⟩
    · have h1 : ((y : Int) == 0) = false := by simp [h]
      have h2 : ((y : Int) != 0) = true := by simp [h]
      have h3 : ¬ (y : Int) = 0 := by omega
      go_wp2
      go_quiet (fail)
      go_wp2
      go_roundw
      case rel => exact ⟨y, x % y, _, by rw [← HG.out, Nat.gcd_comm x y, Nat.gcd_rec y x, Nat.gcd_comm], hy1, Nat.le_trans (Nat.le_of_lt (Nat.mod_lt _ (by omega))) hy1, rfl, by rw [Int.natCast_emod], World.drewN_drewN _ _ _⟩
      case measure => simp [intOf]; have := Nat.mod_lt x (Nat.pos_of_ne_zero h); omega

set_option maxRecDepth 100000 in
theorem gcd65 (x0 y0 : Nat) (w : World) (hx : x0 ≤ 100000) (hy : y0 ≤ 100000) :
    Calls Tryd.prog 65 #[.int .u64 x0, .int .u64 y0] w fun e w' => e = .returned (.int .u64 (Nat.gcd x0 y0)) ∧ ∃ m, w' = w.drewN m := by
  go_enter Tryd.func65, Tryd.ntmps65
  go_wp2
  go_loopw [0, 1] (fun s t wr => ∃ x y m : Nat, Nat.gcd x y = Nat.gcd x0 y0 ∧ x ≤ 100000 ∧ y ≤ 100000 ∧ s = .int .u64 x ∧ t = .int .u64 y ∧ wr = w.drewN m) (fun _ t _ => (intOf t).toNat)
  case atStart => exact ⟨x0, y0, 0, rfl, hx, hy, rfl, rfl, rfl⟩
  case round =>
    obtain ⟨x, y, m, hg, hx1, hy1, rfl, rfl, rfl⟩ := hrel
    have HG : Hid (Nat.gcd x y = Nat.gcd x0 y0) := hg
    clear hg
    by_cases h : y = 0
    · subst h
      go_wp2
      go_ret
      exact ⟨by have := HG.out; rw [Nat.gcd_zero_right] at this; rw [this]; rfl, m, rfl⟩
    · have h1 : ((y : Int) == 0) = false := by simp [h]
      have h2 : ((y : Int) != 0) = true := by simp [h]
      have h3 : ¬ (y : Int) = 0 := by omega
      go_wp2
      go_quiet (fail)
      go_wp2
      go_roundw
      case rel => exact ⟨y, x % y, _, by rw [← HG.out, Nat.gcd_comm x y, Nat.gcd_rec y x, Nat.gcd_comm], hy1, Nat.le_trans (Nat.le_of_lt (Nat.mod_lt _ (by omega))) hy1, rfl, by rw [Int.natCast_emod], World.drewN_drewN _ _ _⟩
      case measure => simp [intOf]; have := Nat.mod_lt x (Nat.pos_of_ne_zero h); omega

theorem size61 (n : Nat) (w : World) (hn : n ≤ 100000) : Calls Tryd.prog 61 #[.int .i64 n] w fun e w' => e = .returned (.int .u64 n) ∧ w' = w := by
  have h0 : 0 ≤ (n : Int) := by omega
  go_enter Tryd.func61, Tryd.ntmps61
  go_wp2
  go_ret
  exact ⟨rfl, rfl⟩
theorem size66' (n : Nat) (w : World) (hn : n ≤ 100000) : Calls Tryd.prog 66 #[.int .i64 n] w fun e w' => e = .returned (.int .u64 n) ∧ w' = w := by
  have h0 : 0 ≤ (n : Int) := by omega
  go_enter Tryd.func66, Tryd.ntmps66
  go_wp2
  go_ret
  exact ⟨rfl, rfl⟩
set_option maxRecDepth 100000 in
theorem lowest_any (n d a b : Nat) (w : World) (hn : n ≤ 100000) (hd : d ≤ 100000) (hd0 : 0 < d) (ha : n / Nat.gcd n d = a) (hb : d / Nat.gcd n d = b) :
    Calls Tryd.prog 60 #[.bool false, .int .u64 n, .int .u64 d] w fun e w' => e = .returned (.tuple #[.agg #[.int .i64 a, .int .i64 b], .nilIface]) ∧ Below w.heap.size w w' := by
  have hg0 : 0 < Nat.gcd n d := Nat.gcd_pos_of_pos_right _ hd0
  have hg1 : Nat.gcd n d ≤ d := Nat.gcd_le_right _ hd0
  have ha1 : a ≤ 100000 := by rw [← ha]; exact Nat.le_trans (Nat.div_le_self _ _) hn
  have hb1 : b ≤ 100000 := by rw [← hb]; exact Nat.le_trans (Nat.div_le_self _ _) hd
  have HA : Hid (((n / Nat.gcd n d : Nat) : Int) = a) := by show _ = _; rw [ha]
  have HB : Hid (((d / Nat.gcd n d : Nat) : Int) = b) := by show _ = _; rw [hb]
  clear ha hb
  go_enter Tryd.func60, Tryd.ntmps60
  go_wp2_with fail
  refine (gcd64 n d _ hn hd).mono ?_
  rintro e w1 ⟨rfl, m, rfl⟩
  have qa : (n : Int) / ((Nat.gcd n d : Nat) : Int) = a := by rw [← Int.natCast_ediv]; exact HA.out
  have qb : (d : Int) / ((Nat.gcd n d : Nat) : Int) = b := by rw [← Int.natCast_ediv]; exact HB.out
  generalize Nat.gcd n d = g at *
  have g0 : ¬ (g : Int) = 0 := by omega
  have g1 : ((g : Int) == 0) = false := by simp; omega
  have n0 : 0 ≤ (n : Int) := by omega
  have d0 : 0 ≤ (d : Int) := by omega
  have gp : 0 < (g : Int) := by omega
  go_wp2
  go_quiet (fail)
  go_wp2
  exact bodyPost_ret (v := .tuple #[.agg #[.int .i64 a, .int .i64 b], .nilIface]) (by simp [results, Tryd.results60, go_sem]) rfl ⟨rfl, ((below_drewN ((Below.refl _ _).alloc (Nat.le_refl _) _) _).setCell (Nat.le_refl _) _).setCell (Nat.le_refl _) _⟩
set_option maxRecDepth 100000 in
theorem make_any (n d a b : Nat) (w : World) (hn : n ≤ 100000) (hd : d ≤ 100000) (hd0 : 0 < d) (ha : n / Nat.gcd n d = a) (hb : d / Nat.gcd n d = b) :
    Calls Tryd.prog 44 #[.int .i64 n, .int .i64 d] w fun e w' => e = .returned (.tuple #[.agg #[.int .i64 a, .int .i64 b], .nilIface]) ∧ Below w.heap.size w w' := by
  have HL := fun w => lowest_any n d a b w hn hd hd0 ha hb
  have n0 : 0 ≤ (n : Int) := by omega
  have d0 : 0 ≤ (d : Int) := by omega
  have d1 : ((d : Int) == 0) = false := by simp; omega
  clear ha hb
  go_enter Tryd.func44, Tryd.ntmps44
  go_wp2_with (first | (go_at_call 61; refine (size61 _ _ (by assumption)).mono ?_; rintro e w' ⟨rfl, rfl⟩) | fail)
  refine (HL _).mono ?_
  rintro e w1 ⟨rfl, hb⟩
  have hc := hb.size
  have hl : w.heap.size < w1.heap.size := by simp at hc; omega
  have c0 : w1.cell? ⟨w.heap.size, 0, none⟩ = some (.int .i64 0) := (hb.cell (p := ⟨w.heap.size, 0, none⟩) (by simp)).trans (by simp)
  have c1 : w1.cell? ⟨w.heap.size, 1, none⟩ = some (.int .i64 0) := (hb.cell (p := ⟨w.heap.size, 1, none⟩) (by simp)).trans (by simp)
  have z0 : w1.frozen? ⟨w.heap.size, 0, none⟩ = false := (hb.frozen (p := ⟨w.heap.size, 0, none⟩) (by simp)).trans (by simp)
  have z1 : w1.frozen? ⟨w.heap.size, 1, none⟩ = false := (hb.frozen (p := ⟨w.heap.size, 1, none⟩) (by simp)).trans (by simp)
  have HB : Hid (Below w.heap.size w w1) := ((Below.refl _ _).alloc (Nat.le_refl _) _).trans (hb.mono (by simp))
  have q0 := World.cell?_setCell_same w1 ⟨w.heap.size, 0, none⟩ (.int .i64 a) c0
  have q1 := World.cell?_setCell_same (w1.setCell ⟨w.heap.size, 0, none⟩ (.int .i64 a)) ⟨w.heap.size, 1, none⟩ (.int .i64 b) ((World.cell?_setCell_other _ _ _ _ (by simp)).trans c1)
  have HQ0 : Hid (_ = _) := q0
  have HQ1 : Hid (_ = _) := q1
  clear hb hc HL q0 q1
  go_wp2
  have q0 := HQ0.out
  have q1 := HQ1.out
  exact bodyPost_ret (v := .tuple #[.agg #[.int .i64 a, .int .i64 b], .nilIface]) (by simp [results, Tryd.results44, go_sem, q0, q1]) rfl ⟨rfl, (HB.out.setCell (Nat.le_refl _) _).setCell (Nat.le_refl _) _⟩
set_option maxRecDepth 100000 in
theorem rmake_any (n d a b : Nat) (w : World) (hn : n ≤ 100000) (hd : d ≤ 100000) (hd0 : 0 < d) (ha : n / Nat.gcd n d = a) (hb : d / Nat.gcd n d = b) :
    Calls Tryd.prog 62 #[.int .i64 n, .int .i64 d] w fun e w' => e = .returned (.tuple #[.agg #[.int .i64 a, .int .i64 b], .int .i64 0]) ∧ Below w.heap.size w w' := by
  have hg0 : 0 < Nat.gcd n d := Nat.gcd_pos_of_pos_right _ hd0
  have hg1 : Nat.gcd n d ≤ d := Nat.gcd_le_right _ hd0
  have ha1 : a ≤ 100000 := by rw [← ha]; exact Nat.le_trans (Nat.div_le_self _ _) hn
  have hb1 : b ≤ 100000 := by rw [← hb]; exact Nat.le_trans (Nat.div_le_self _ _) hd
  have qa : (n : Int) / ((Nat.gcd n d : Nat) : Int) = a := by rw [← Int.natCast_ediv, ha]
  have qb : (d : Int) / ((Nat.gcd n d : Nat) : Int) = b := by rw [← Int.natCast_ediv, hb]
  have n0 : 0 ≤ (n : Int) := by omega
  have d0 : 0 ≤ (d : Int) := by omega
  have d1 : ((d : Int) == 0) = false := by simp; omega
  have HG := fun w => gcd65 n d w hn hd
  clear ha hb
  generalize Nat.gcd n d = g at *
  have g0 : ¬ (g : Int) = 0 := by omega
  have g1 : ((g : Int) == 0) = false := by simp; omega
  have gp : 0 < (g : Int) := by omega
  go_enter Tryd.func62, Tryd.ntmps62
  go_wp2_with (first | (go_at_call 66; refine (size66' _ _ (by assumption)).mono ?_; rintro e w' ⟨rfl, rfl⟩) | (go_at_call 65; refine (HG _).mono ?_; rintro e w' ⟨rfl, m, rfl⟩) | fail)
  exact bodyPost_ret (v := .tuple #[.agg #[.int .i64 a, .int .i64 b], .int .i64 0]) (by simp [results, Tryd.results62, go_sem]) rfl ⟨rfl, ((below_drewN ((Below.refl _ _).alloc (Nat.le_refl _) _) _).setCell (Nat.le_refl _) _).setCell (Nat.le_refl _) _⟩

end Go.Proofs.YtakbkdimknnopaaDoor
