/- titheref17.Brackets, Scale: a new slice of the four brackets. -/
import Derived.Test.YtakbkdimknnopaaDoorS2
import Derived.Deep.RegionWith
namespace Go.Proofs.YtakbkdimknnopaaDoor
open Go.RowKit

set_option maxRecDepth 100000 in
set_option maxHeartbeats 2000000 in
theorem brackets_any (j : Bool) (gt ot ct gr cr : Nat) (w : World) (hgt : gt < w.heap.size) (hgr : gr < w.heap.size)
    (ht : ∀ k, k < 3 → w.cell? ⟨gt, ot + k, none⟩ = some (.int .i64 ((tops j).getD (k + 1) 0))) (hr : ∀ k, k < 4 → w.cell? ⟨gr, k, none⟩ = some (.int .i64 (rates.getD k 0 : Nat))) :
    Calls Tryd.prog 46 #[.slice (some ⟨gt, ot, none⟩) 3 ct, .slice (some ⟨gr, 0, none⟩) 4 cr] w fun e w' => ∃ v, e = .returned v ∧ w'.ownsRow w.heap.size 49 4 v 4 (brks j) ∧ Below w.heap.size w w' := by
  obtain ⟨i1, ki, kz0, kz1, kz2⟩ := info_parts info49
  have HTT : Hid (∀ k, k < 3 → w.cell? ⟨gt, ot + k, none⟩ = some (.int .i64 ((tops j).getD (k + 1) 0))) := ht
  have HR : Hid (∀ k, k < 4 → w.cell? ⟨gr, k, none⟩ = some (.int .i64 (rates.getD k 0 : Nat))) := hr
  clear ht hr
  go_enter Tryd.func46, Tryd.ntmps46
  go_wp2
  go_loopw [5, 6] (fun v i wr => ∃ k : Nat, k ≤ 4 ∧ i = .int .i64 k ∧ wr.ownsRow w.heap.size 49 4 v k ((brks j).take (4 * k)) ∧ Below w.heap.size w wr) (fun _ i _ => 4 - (intOf i).toNat)
  case atStart => exact ⟨0, by omega, rfl, World.ownsRow_nil _ _ _ _, Below.refl _ _⟩
  case round =>
    obtain ⟨k, hk, rfl, hown, hb⟩ := hrel
    have hsz := hb.size
    rcases (show k = 0 ∨ (0 < k ∧ k < 4) ∨ k = 4 by omega) with rfl | ⟨hp, hlt⟩ | rfl
    · have hr : wr.cell? ⟨gr, 0, none⟩ = some (.int .i64 (rates.getD 0 0 : Nat)) := (hb.cell (p := ⟨gr, 0, none⟩) hgr).trans (HR.out 0 (by omega))
      have HT : Hid ((brks j).take (4 * 0) ++ [.int .i64 0, .int .i64 1, .int .i64 (rateN.getD 0 0 : Nat), .int .i64 (rateD.getD 0 0 : Nat)] = (brks j).take (4 * (0 + 1))) := by cases j <;> rfl
      obtain ⟨r1, r2, r3⟩ := rate_gcd 0 (by omega)
      have HM : Hid (∀ w, Calls Tryd.prog 62 #[.int .i64 (rates.getD 0 0 : Nat), .int .i64 10000] w fun e w' => e = .returned (.tuple #[.agg #[.int .i64 (rateN.getD 0 0 : Nat), .int .i64 (rateD.getD 0 0 : Nat)], .int .i64 0]) ∧ Below w.heap.size w w') := fun w => rmake_any _ 10000 _ _ w r1 (by omega) (by omega) r2 r3
      clear r1 r2 r3
      generalize rates.getD 0 0 = n at *
      generalize rateN.getD 0 0 = a at *
      generalize rateD.getD 0 0 = b at *
      go_wp2_with fail
      refine (HM.out _).mono ?_
      rintro e w2 ⟨rfl, hb2⟩
      have hown2 := own_below hown hb2
      have hb3 := hb.trans (hb2.mono hsz)
      have hsz3 := hb3.size
      have ah : ¬ some w2.heap.size = u5.ownBlock := fun e => by have := hown2.lt _ e.symm; omega
      clear hown hb2 hr hb hsz
      go_wp2_with fail
      go_region_held3 (fun w' => w'.cell? ⟨w2.heap.size, 0, none⟩ = some (.int .i64 a) ∧ w'.cell? ⟨w2.heap.size, 1, none⟩ = some (.int .i64 b))
        (first
          | go_keep
          | (go_split_ands
             refine ⟨?_, ?_⟩ <;>
             (rw [hgrow.cell_far _ (by simp; omega) (by simp; exact ah)]; simp [*])))
        ((first
          | (go_at_call 57; refine (whole57 _ _).mono ?_; rintro e w' ⟨rfl, rfl⟩)
          | (refine step_append_lies _ (by rfl) _ _ _ (by rfl) w.heap.size 49 i1 _ 4 32 Tryd.underlying42 ki kz0 kz1 kz2 rfl (by omega) u5 0 ((brks j).take (4 * 0)) (by rfl) ((((hown2.alloc _).alloc _).alloc _).drew)
              ⟨w2.heap.size + 1 + 1, 0, none⟩ 1 1 [.int .i64 0, .int .i64 1, .int .i64 a, .int .i64 b] (by rfl) (by rfl) (World.news_of_block (cs := #[.int .i64 0, .int .i64 1, .int .i64 a, .int .i64 b]) (t := 49) (fr := (0, 0)) (heap_at _ _ _ (by simp))) (by simp [Value.oneCell'])
              (by omega) (by unfold maxLen; omega) (by omega) (by simp; omega) (w2.heap.size + 1 + 1 + 1) (by simp) ?_; intro gg cap2 w3 hown3 hgrow hat hlt2)))
      have hown4 : w3.ownsRow w.heap.size 49 4 (.slice (some ⟨gg, 0, none⟩) (0 + 1) cap2) (0 + 1) ((brks j).take (4 * (0 + 1))) := by rw [← HT.out]; exact hown3
      have hb4 : Below w.heap.size w w3 := ((((hb3.alloc hsz3 _).alloc (by simp; omega) _).alloc (by simp; omega) _).drew).grown hgrow (by simp; omega) (fun j hj => (hown2.lt j hj).1)
      clear hown2 hgrow hb3 hat hlt2 hown3
      go_wp2
      go_roundw
      case rel => exact ⟨0 + 1, by omega, by go_num, hown4, hb4⟩
      case measure => simp [intOf]
    · have k0 : (0 : Int) < (k : Int) := by omega
      have k1 : (k : Int) < (4 : Int) := by omega
      have k2 : (0 : Int) ≤ (k : Int) - 1 := by omega
      have k3 : (k : Int) - 1 < 3 := by omega
      have k4 : (1 : Int) ≤ (k : Int) := by omega
      have hc : wr.cell? ⟨gt, ot + (k - 1), none⟩ = some (.int .i64 ((tops j).getD k 0)) := by
        have h := (hb.cell (p := ⟨gt, ot + (k - 1), none⟩) hgt).trans (HTT.out (k - 1) (by omega))
        rw [show k - 1 + 1 = k by omega] at h
        exact h
      have hr : wr.cell? ⟨gr, k, none⟩ = some (.int .i64 (rates.getD k 0 : Nat)) := (hb.cell (p := ⟨gr, k, none⟩) hgr).trans (HR.out k hlt)
      have HT : Hid ((brks j).take (4 * k) ++ [.int .i64 ((tops j).getD k 0), .int .i64 1, .int .i64 (rateN.getD k 0 : Nat), .int .i64 (rateD.getD k 0 : Nat)] = (brks j).take (4 * (k + 1))) := take_brk j k hlt
      obtain ⟨r1, r2, r3⟩ := rate_gcd k hlt
      have HM : Hid (∀ w, Calls Tryd.prog 62 #[.int .i64 (rates.getD k 0 : Nat), .int .i64 10000] w fun e w' => e = .returned (.tuple #[.agg #[.int .i64 (rateN.getD k 0 : Nat), .int .i64 (rateD.getD k 0 : Nat)], .int .i64 0]) ∧ Below w.heap.size w w') := fun w => rmake_any _ 10000 _ _ w r1 (by omega) (by omega) r2 r3
      clear r1 r2 r3
      generalize (tops j).getD k 0 = x at *
      generalize rates.getD k 0 = n at *
      generalize rateN.getD k 0 = a at *
      generalize rateD.getD k 0 = b at *
      generalize (brks j).take (4 * k) = xs at *
      go_wp2_with fail
      refine (HM.out _).mono ?_
      rintro e w2 ⟨rfl, hb2⟩
      have hown2 := own_below hown hb2
      have hb3 := hb.trans (hb2.mono hsz)
      have hsz3 := hb3.size
      have ah : ¬ some w2.heap.size = u5.ownBlock := fun e => by have := hown2.lt _ e.symm; omega
      clear hown hb2 hr hb hsz hc
      go_wp2_with fail
      go_region_held3 (fun w' => w'.cell? ⟨w2.heap.size, 0, none⟩ = some (.int .i64 a) ∧ w'.cell? ⟨w2.heap.size, 1, none⟩ = some (.int .i64 b))
        (first
          | go_keep
          | (go_split_ands
             refine ⟨?_, ?_⟩ <;>
             (rw [hgrow.cell_far _ (by simp; omega) (by simp; exact ah)]; simp [*])))
        ((first
          | (go_at_call 57; refine (whole57 _ _).mono ?_; rintro e w' ⟨rfl, rfl⟩)
          | (refine step_append_lies _ (by rfl) _ _ _ (by rfl) w.heap.size 49 i1 _ 4 32 Tryd.underlying42 ki kz0 kz1 kz2 rfl (by omega) u5 k xs (by rfl) ((((hown2.alloc _).alloc _).alloc _).drew)
              ⟨w2.heap.size + 1 + 1, 0, none⟩ 1 1 [.int .i64 x, .int .i64 1, .int .i64 a, .int .i64 b] (by rfl) (by rfl) (World.news_of_block (cs := #[.int .i64 x, .int .i64 1, .int .i64 a, .int .i64 b]) (t := 49) (fr := (0, 0)) (heap_at _ _ _ (by simp))) (by simp [Value.oneCell'])
              (by omega) (by unfold maxLen; omega) (by omega) (by simp; omega) (w2.heap.size + 1 + 1 + 1) (by simp) ?_; intro gg cap2 w3 hown3 hgrow hat hlt2)))
      have hown4 : w3.ownsRow w.heap.size 49 4 (.slice (some ⟨gg, 0, none⟩) (k + 1) cap2) (k + 1) ((brks j).take (4 * (k + 1))) := by rw [← HT.out]; exact hown3
      have hb4 : Below w.heap.size w w3 := ((((hb3.alloc hsz3 _).alloc (by simp; omega) _).alloc (by simp; omega) _).drew).grown hgrow (by simp; omega) (fun j hj => (hown2.lt j hj).1)
      clear hown2 hgrow hb3 hat hlt2 hown3
      go_wp2
      go_roundw
      case rel => exact ⟨k + 1, by omega, by go_num, hown4, hb4⟩
      case measure => simp [intOf]; omega
    · go_wp2
      go_ret
      exact ⟨_, rfl, by cases j <;> exact hown, hb⟩

theorem rate_ints (k : Nat) (hk : k < 4) : (ints [1000, 1500, 2800, 3500])[k]? = some (.int .i64 (rates.getD k 0 : Nat)) := by
  match k, hk with
  | 0, _ => rfl
  | 1, _ => rfl
  | 2, _ => rfl
  | 3, _ => rfl

set_option maxRecDepth 100000 in
set_option maxHeartbeats 2000000 in
theorem rscale_false (w : World) : Calls Tryd.prog 24 #[.bool false] w fun e w' => ∃ v, e = .returned v ∧ w'.ownsRow w.heap.size 49 4 v 4 (brks false) ∧ Below w.heap.size w w' := by
  go_enter Tryd.func24, Tryd.ntmps24
  go_wp2_with fail
  refine (num3 w).mono ?_
  rintro e w1 ⟨B, rfl, hB, hB2, hh, hb⟩
  have HC : Hid (∀ k : Nat, k < 3 → w1.cell? ⟨B, 0 + k, none⟩ = some (.int .i64 ((tops false).getD (k + 1) 0))) := by
    intro k hk
    rw [cell_of w1 B _ _ hh]
    match k, hk with
    | 0, _ => rfl
    | 1, _ => rfl
    | 2, _ => rfl
  have HB : Hid (Below w.heap.size w w1) := hb
  have hz := hb.size
  clear hh hb
  go_wp2_with fail
  go_region_with (first
    | (go_at_call 30; refine (num4 _).mono ?_; rintro e w2 ⟨B2, rfl, hB3, hB4, hh2, hb2⟩)
    | (go_at_call 46; refine (brackets_any false B 0 _ B2 _ _ (Nat.lt_of_lt_of_le hB2 hb2.size) hB4 (fun k hk => (hb2.cell (p := ⟨B, 0 + k, none⟩) hB2).trans (HC.out k hk)) (fun k hk => (cell_of w2 B2 _ _ hh2 k).trans (rate_ints k hk))).mono ?_; rintro e w3 ⟨v, rfl, ho, hb3⟩))
  all_goals
    have ho2 := own_mono ho (Nat.le_trans hz hb2.size)
    have hb4 : Below w.heap.size w w3 := HB.out.drew.trans ((hb2.mono hz).trans (hb3.mono (Nat.le_trans hz hb2.size)))
    clear ho hb2 hb3 hh2
    go_wp2
    go_ret
    exact ⟨_, rfl, ho2, hb4⟩

set_option maxRecDepth 100000 in
set_option maxHeartbeats 2000000 in
theorem rscale_true (w : World) : Calls Tryd.prog 24 #[.bool true] w fun e w' => ∃ v, e = .returned v ∧ w'.ownsRow w.heap.size 49 4 v 4 (brks true) ∧ Below w.heap.size w w' := by
  go_enter Tryd.func24, Tryd.ntmps24
  go_wp2_with fail
  refine (num3 w).mono ?_
  rintro e w1 ⟨B, rfl, hB, hB2, hh, hb⟩
  have HC : Hid (∀ k : Nat, k < 3 → w1.cell? ⟨B, 3 + k, none⟩ = some (.int .i64 ((tops true).getD (k + 1) 0))) := by
    intro k hk
    rw [cell_of w1 B _ _ hh]
    match k, hk with
    | 0, _ => rfl
    | 1, _ => rfl
    | 2, _ => rfl
  have HB : Hid (Below w.heap.size w w1) := hb
  have hz := hb.size
  clear hh hb
  go_wp2_with fail
  go_region_with (first
    | (go_at_call 30; refine (num4 _).mono ?_; rintro e w2 ⟨B2, rfl, hB3, hB4, hh2, hb2⟩)
    | (go_at_call 46; refine (brackets_any true B 3 _ B2 _ _ (Nat.lt_of_lt_of_le hB2 hb2.size) hB4 (fun k hk => (hb2.cell (p := ⟨B, 3 + k, none⟩) hB2).trans (HC.out k hk)) (fun k hk => (cell_of w2 B2 _ _ hh2 k).trans (rate_ints k hk))).mono ?_; rintro e w3 ⟨v, rfl, ho, hb3⟩))
  all_goals
    have ho2 := own_mono ho (Nat.le_trans hz hb2.size)
    have hb4 : Below w.heap.size w w3 := HB.out.drew.trans ((hb2.mono hz).trans (hb3.mono (Nat.le_trans hz hb2.size)))
    clear ho hb2 hb3 hh2
    go_wp2
    go_ret
    exact ⟨_, rfl, ho2, hb4⟩

end Go.Proofs.YtakbkdimknnopaaDoor
