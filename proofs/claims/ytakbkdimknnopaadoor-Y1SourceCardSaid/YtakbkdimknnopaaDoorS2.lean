/- y1.Scale: a new slice of the four brackets. -/
import Derived.Test.YtakbkdimknnopaaDoorS1
import Derived.Test.YtakbkdimknnopaaDoorO
namespace Go.Proofs.YtakbkdimknnopaaDoor
open Go.RowKit

def tops : Bool → List Int
  | false => [0, 10000, 40000, 90000]
  | true => [0, 18000, 70000, 150000]
def rates : List Nat := [1000, 1500, 2800, 3500]
def rateN : List Nat := [1, 3, 7, 7]
def rateD : List Nat := [10, 20, 25, 20]
/-- The four brackets of a scale, cell by cell. -/
def brks : Bool → List Value
  | false => [.int .i64 0, .int .i64 1, .int .i64 1, .int .i64 10, .int .i64 10000, .int .i64 1, .int .i64 3, .int .i64 20, .int .i64 40000, .int .i64 1, .int .i64 7, .int .i64 25, .int .i64 90000, .int .i64 1, .int .i64 7, .int .i64 20]
  | true => [.int .i64 0, .int .i64 1, .int .i64 1, .int .i64 10, .int .i64 18000, .int .i64 1, .int .i64 3, .int .i64 20, .int .i64 70000, .int .i64 1, .int .i64 7, .int .i64 25, .int .i64 150000, .int .i64 1, .int .i64 7, .int .i64 20]
theorem take_brk (j : Bool) (k : Nat) (hk : k < 4) : (brks j).take (4 * k) ++ [.int .i64 ((tops j).getD k 0), .int .i64 1, .int .i64 (rateN.getD k 0 : Nat), .int .i64 (rateD.getD k 0 : Nat)] = (brks j).take (4 * (k + 1)) := by
  cases j <;>
  match k, hk with
  | 0, _ => rfl
  | 1, _ => rfl
  | 2, _ => rfl
  | 3, _ => rfl
theorem rate_gcd (k : Nat) (hk : k < 4) : rates.getD k 0 ≤ 100000 ∧ rates.getD k 0 / Nat.gcd (rates.getD k 0) 10000 = rateN.getD k 0 ∧ 10000 / Nat.gcd (rates.getD k 0) 10000 = rateD.getD k 0 := by
  match k, hk with
  | 0, _ => decide
  | 1, _ => decide
  | 2, _ => decide
  | 3, _ => decide
theorem Vars.rate {w : World} (h : Vars w) (k : Nat) (hk : k < 4) : w.cell? ⟨3, k, none⟩ = some (.int .i64 (rates.getD k 0 : Nat)) := by
  match k, hk with
  | 0, _ => exact h.r0
  | 1, _ => exact h.r1
  | 2, _ => exact h.r2
  | 3, _ => exact h.r3
theorem info49 : (Tryd.prog.info? 49).map (fun i => (i.zero, i.size, i.bytes)) = some (some (.agg #[.int .i64 0, .int .i64 0, .int .i64 0, .int .i64 0]), 4, 32) := by kernel_rfl
theorem nil79 : ∀ w, (binOp BinOp.neq 79 .nilIface .nilIface).run Tryd.prog w = .ok (.bool false) w := fun _ => by kernel_rfl

theorem whole34 (n : Int) (w : World) : Calls Tryd.prog 34 #[.int .i64 n] w fun e w' => e = .returned (.agg #[.int .i64 n, .int .i64 1]) ∧ w' = w.alloc (.cells #[.int .i64 n, .int .i64 1] 30) := by
  go_enter Tryd.func34, Tryd.ntmps34
  go_wp2
  exact bodyPost_ret (v := .agg #[.int .i64 n, .int .i64 1]) (by simp [results, Tryd.results34, go_sem]) rfl ⟨rfl, rfl⟩

theorem whole57 (n : Int) (w : World) : Calls Tryd.prog 57 #[.int .i64 n] w fun e w' => e = .returned (.agg #[.int .i64 n, .int .i64 1]) ∧ w' = w.alloc (.cells #[.int .i64 n, .int .i64 1] 30) := by
  go_enter Tryd.func57, Tryd.ntmps57
  go_wp2
  exact bodyPost_ret (v := .agg #[.int .i64 n, .int .i64 1]) (by simp [results, Tryd.results57, go_sem]) rfl ⟨rfl, rfl⟩

set_option maxRecDepth 100000 in
set_option maxHeartbeats 2000000 in
theorem scale_false (w : World) (hv : Vars w) : Calls Tryd.prog 22 #[.bool false] w fun e w' => ∃ v, e = .returned v ∧ w'.ownsRow w.heap.size 49 4 v 4 (brks false) ∧ Below w.heap.size w w' := by
  obtain ⟨i0, hi, hz0, hz1, hz2⟩ := info_parts info3
  obtain ⟨i1, ki, kz0, kz1, kz2⟩ := info_parts info49
  have hz := hv.size
  have t0 := hv.t0
  have t1 := hv.t1
  have t2 := hv.t2
  have t3 := hv.t3
  have t4 := hv.t4
  have t5 := hv.t5
  have q0 : 2 < w.heap.size := by omega
  have q1 : 2 < w.heap.size + 1 := by omega
  have hnil := nil79
  have HV : Hid (Vars w) := hv
  clear hv
  go_enter Tryd.func22, Tryd.ntmps22
  go_wp2_with (at_builtin; refine wpList_append_lies _ rfl _ _ 63 rfl w.heap.size 3 i0 (.int .i64 0) 1 8 Tryd.underlying63 hi hz0 hz1 hz2 rfl (by decide) _ 1 [.int .i64 0] rfl ?own ⟨w.heap.size, 0, none⟩ 3 3 [.int .i64 10000, .int .i64 40000, .int .i64 90000] rfl rfl ?c1 ?c2 ?c6 ?c3 ?c4 ?c5 _ rfl ?_)
  case own => exact ⟨rfl, Or.inr ⟨w.heap.size + 1, 1, #[.int .i64 0], rfl, by omega, heap_at _ _ _ (by simp), by omega, by unfold maxLen; omega, rfl, rfl⟩⟩
  case c1 => exact World.news_of_block (cs := #[.int .i64 10000, .int .i64 40000, .int .i64 90000]) (t := 3) (fr := (0, 0)) ((Below.heap_alloc _ _ _ (by simp)).trans (heap_at _ _ _ (by simp)))
  case c2 => simp [Value.oneCell']
  case c6 => omega
  case c3 => unfold maxLen; omega
  case c4 => omega
  case c5 => simp; omega
  intro g cap w1 hown0 hgrow hat hlt0
  have hb1 : Below w.heap.size w w1 := (((Below.refl _ _).alloc (Nat.le_refl _) _).alloc (by simp) _).grown hgrow (by simp; omega) (fun j hj => by cases hj; first | exact Nat.le_add_right _ _ | (simp; try omega))
  have HC : Hid (∀ k : Nat, k < 4 → w1.cell? ⟨g, k, none⟩ = some (.int .i64 ((tops false).getD k 0))) := by
    intro k hk
    rw [hown0.cellAt k (by omega)]
    match k, hk with
    | 0, _ => rfl
    | 1, _ => rfl
    | 2, _ => rfl
    | 3, _ => rfl
  have HB1 : Hid (Below w.heap.size w w1) := hb1
  have HV1 : Hid (Vars w1) := HV.out.below hb1
  have hz1 := hb1.size
  clear hown0 hgrow hat hb1 t0 t1 t2 t3 t4 t5 q0 q1 hi hz0 HV
  go_wp2
  go_loopw [4, 28] (fun v i wr => ∃ k : Nat, k ≤ 4 ∧ i = .int .i64 k ∧ wr.ownsRow w1.heap.size 49 4 v k ((brks false).take (4 * k)) ∧ Below w1.heap.size w1 wr) (fun _ i _ => 4 - (intOf i).toNat)
  case atStart => exact ⟨0, by omega, rfl, World.ownsRow_nil _ _ _ _, Below.refl _ _⟩
  case round =>
    obtain ⟨k, hk, rfl, hown, hb⟩ := hrel
    have hsz := hb.size
    by_cases hlt : k < 4
    · have k0 : (0 : Int) ≤ (k : Int) := by omega
      have k1 : (k : Int) < (4 : Int) := by omega
      have hc : wr.cell? ⟨g, k, none⟩ = some (.int .i64 ((tops false).getD k 0)) := (hb.cell (p := ⟨g, k, none⟩) hlt0).trans (HC.out k hlt)
      have hr : wr.cell? ⟨3, k, none⟩ = some (.int .i64 (rates.getD k 0 : Nat)) := (HV1.out.below hb).rate k hlt
      have HT : Hid ((brks false).take (4 * k) ++ [.int .i64 ((tops false).getD k 0), .int .i64 1, .int .i64 (rateN.getD k 0 : Nat), .int .i64 (rateD.getD k 0 : Nat)] = (brks false).take (4 * (k + 1))) := take_brk false k hlt
      obtain ⟨r1, r2, r3⟩ := rate_gcd k hlt
      have HM : Hid (∀ w, Calls Tryd.prog 44 #[.int .i64 (rates.getD k 0 : Nat), .int .i64 10000] w fun e w' => e = .returned (.tuple #[.agg #[.int .i64 (rateN.getD k 0 : Nat), .int .i64 (rateD.getD k 0 : Nat)], .nilIface]) ∧ Below w.heap.size w w') := fun w => make_any _ 10000 _ _ w r1 (by omega) (by omega) r2 r3
      clear r1 r2 r3
      generalize (tops false).getD k 0 = x at *
      generalize rates.getD k 0 = n at *
      generalize rateN.getD k 0 = a at *
      generalize rateD.getD k 0 = b at *
      generalize (brks false).take (4 * k) = xs at *
      go_wp2_with fail
      refine (HM.out _).mono ?_
      rintro e w2 ⟨rfl, hb2⟩
      have hown2 := own_below hown hb2
      have hb3 := hb.trans (hb2.mono hsz)
      have hsz3 := hb3.size
      have ah : ¬ some w2.heap.size = u4.ownBlock := fun e => by have := hown2.lt _ e.symm; omega
      clear HM hown hb2 hc hr hb hsz
      go_wp2_with fail
      go_region_held3 (fun w' => w'.cell? ⟨w2.heap.size, 0, none⟩ = some (.int .i64 a) ∧ w'.cell? ⟨w2.heap.size, 1, none⟩ = some (.int .i64 b))
        (first
          | go_keep
          | (go_split_ands
             refine ⟨?_, ?_⟩ <;>
             (rw [hgrow.cell_far _ (by simp; omega) (by simp; exact ah)]; simp [*])))
        ((first
          | (go_at_call 34; refine (whole34 _ _).mono ?_; rintro e w' ⟨rfl, rfl⟩)
          | (refine step_append_lies _ (by rfl) _ _ _ (by rfl) w1.heap.size 49 i1 _ 4 32 Tryd.underlying42 ki kz0 kz1 kz2 rfl (by omega) u4 k xs (by rfl) ((((hown2.alloc _).alloc _).alloc _).drew)
              ⟨w2.heap.size + 1 + 1, 0, none⟩ 1 1 [.int .i64 x, .int .i64 1, .int .i64 a, .int .i64 b] (by rfl) (by rfl) (World.news_of_block (cs := #[.int .i64 x, .int .i64 1, .int .i64 a, .int .i64 b]) (t := 49) (fr := (0, 0)) (heap_at _ _ _ (by simp))) (by simp [Value.oneCell'])
              (by omega) (by unfold maxLen; omega) (by omega) (by simp; omega) (w2.heap.size + 1 + 1 + 1) (by simp) ?_; intro gg cap2 w3 hown3 hgrow hat hlt2)))
      rw [HT.out] at hown3
      have hb4 : Below w1.heap.size w1 w3 := ((((hb3.alloc hsz3 _).alloc (by simp; omega) _).alloc (by simp; omega) _).drew).grown hgrow (by simp; omega) (fun j hj => (hown2.lt j hj).1)
      clear hown2 hgrow hb3 hat hlt2
      go_wp2
      go_roundw
      case rel => exact ⟨k + 1, by omega, by go_num, hown3, hb4⟩
      case measure => simp [intOf]; omega
    · go_wp2
      go_ret
      obtain rfl : k = 4 := by omega
      exact ⟨_, rfl, own_mono hown hz1, HB1.out.trans (hb.mono hz1)⟩

set_option maxRecDepth 100000 in
set_option maxHeartbeats 2000000 in
theorem scale_true (w : World) (hv : Vars w) : Calls Tryd.prog 22 #[.bool true] w fun e w' => ∃ v, e = .returned v ∧ w'.ownsRow w.heap.size 49 4 v 4 (brks true) ∧ Below w.heap.size w w' := by
  obtain ⟨i0, hi, hz0, hz1, hz2⟩ := info_parts info3
  obtain ⟨i1, ki, kz0, kz1, kz2⟩ := info_parts info49
  have hz := hv.size
  have t0 := hv.t0
  have t1 := hv.t1
  have t2 := hv.t2
  have t3 := hv.t3
  have t4 := hv.t4
  have t5 := hv.t5
  have q0 : 2 < w.heap.size := by omega
  have q1 : 2 < w.heap.size + 1 := by omega
  have hnil := nil79
  have HV : Hid (Vars w) := hv
  clear hv
  go_enter Tryd.func22, Tryd.ntmps22
  go_wp2_with (at_builtin; refine wpList_append_lies _ rfl _ _ 63 rfl w.heap.size 3 i0 (.int .i64 0) 1 8 Tryd.underlying63 hi hz0 hz1 hz2 rfl (by decide) _ 1 [.int .i64 0] rfl ?own ⟨w.heap.size + 1, 0, none⟩ 3 3 [.int .i64 18000, .int .i64 70000, .int .i64 150000] rfl rfl ?c1 ?c2 ?c6 ?c3 ?c4 ?c5 _ rfl ?_)
  case own => exact ⟨rfl, Or.inr ⟨w.heap.size + 2, 1, #[.int .i64 0], rfl, by omega, heap_at _ _ _ (by simp), by omega, by unfold maxLen; omega, rfl, rfl⟩⟩
  case c1 => exact World.news_of_block (cs := #[.int .i64 18000, .int .i64 70000, .int .i64 150000]) (t := 3) (fr := (0, 0)) ((Below.heap_alloc _ _ _ (by simp)).trans (heap_at _ _ _ (by simp)))
  case c2 => simp [Value.oneCell']
  case c6 => omega
  case c3 => unfold maxLen; omega
  case c4 => omega
  case c5 => simp; omega
  intro g cap w1 hown0 hgrow hat hlt0
  have hb1 : Below w.heap.size w w1 := ((((Below.refl _ _).alloc (Nat.le_refl _) _).alloc (by simp) _).alloc (by simp; omega) _).grown hgrow (by simp; omega) (fun j hj => by cases hj; first | exact Nat.le_add_right _ _ | (simp; try omega))
  have HC : Hid (∀ k : Nat, k < 4 → w1.cell? ⟨g, k, none⟩ = some (.int .i64 ((tops true).getD k 0))) := by
    intro k hk
    rw [hown0.cellAt k (by omega)]
    match k, hk with
    | 0, _ => rfl
    | 1, _ => rfl
    | 2, _ => rfl
    | 3, _ => rfl
  have HB1 : Hid (Below w.heap.size w w1) := hb1
  have HV1 : Hid (Vars w1) := HV.out.below hb1
  have hz1 := hb1.size
  clear hown0 hgrow hat hb1 t0 t1 t2 t3 t4 t5 q0 q1 hi hz0 HV
  go_wp2
  go_loopw [4, 28] (fun v i wr => ∃ k : Nat, k ≤ 4 ∧ i = .int .i64 k ∧ wr.ownsRow w1.heap.size 49 4 v k ((brks true).take (4 * k)) ∧ Below w1.heap.size w1 wr) (fun _ i _ => 4 - (intOf i).toNat)
  case atStart => exact ⟨0, by omega, rfl, World.ownsRow_nil _ _ _ _, Below.refl _ _⟩
  case round =>
    obtain ⟨k, hk, rfl, hown, hb⟩ := hrel
    have hsz := hb.size
    by_cases hlt : k < 4
    · have k0 : (0 : Int) ≤ (k : Int) := by omega
      have k1 : (k : Int) < (4 : Int) := by omega
      have hc : wr.cell? ⟨g, k, none⟩ = some (.int .i64 ((tops true).getD k 0)) := (hb.cell (p := ⟨g, k, none⟩) hlt0).trans (HC.out k hlt)
      have hr : wr.cell? ⟨3, k, none⟩ = some (.int .i64 (rates.getD k 0 : Nat)) := (HV1.out.below hb).rate k hlt
      have HT : Hid ((brks true).take (4 * k) ++ [.int .i64 ((tops true).getD k 0), .int .i64 1, .int .i64 (rateN.getD k 0 : Nat), .int .i64 (rateD.getD k 0 : Nat)] = (brks true).take (4 * (k + 1))) := take_brk true k hlt
      obtain ⟨r1, r2, r3⟩ := rate_gcd k hlt
      have HM : Hid (∀ w, Calls Tryd.prog 44 #[.int .i64 (rates.getD k 0 : Nat), .int .i64 10000] w fun e w' => e = .returned (.tuple #[.agg #[.int .i64 (rateN.getD k 0 : Nat), .int .i64 (rateD.getD k 0 : Nat)], .nilIface]) ∧ Below w.heap.size w w') := fun w => make_any _ 10000 _ _ w r1 (by omega) (by omega) r2 r3
      clear r1 r2 r3
      generalize (tops true).getD k 0 = x at *
      generalize rates.getD k 0 = n at *
      generalize rateN.getD k 0 = a at *
      generalize rateD.getD k 0 = b at *
      generalize (brks true).take (4 * k) = xs at *
      go_wp2_with fail
      refine (HM.out _).mono ?_
      rintro e w2 ⟨rfl, hb2⟩
      have hown2 := own_below hown hb2
      have hb3 := hb.trans (hb2.mono hsz)
      have hsz3 := hb3.size
      have ah : ¬ some w2.heap.size = u4.ownBlock := fun e => by have := hown2.lt _ e.symm; omega
      clear HM hown hb2 hc hr hb hsz
      go_wp2_with fail
      go_region_held3 (fun w' => w'.cell? ⟨w2.heap.size, 0, none⟩ = some (.int .i64 a) ∧ w'.cell? ⟨w2.heap.size, 1, none⟩ = some (.int .i64 b))
        (first
          | go_keep
          | (go_split_ands
             refine ⟨?_, ?_⟩ <;>
             (rw [hgrow.cell_far _ (by simp; omega) (by simp; exact ah)]; simp [*])))
        ((first
          | (go_at_call 34; refine (whole34 _ _).mono ?_; rintro e w' ⟨rfl, rfl⟩)
          | (refine step_append_lies _ (by rfl) _ _ _ (by rfl) w1.heap.size 49 i1 _ 4 32 Tryd.underlying42 ki kz0 kz1 kz2 rfl (by omega) u4 k xs (by rfl) ((((hown2.alloc _).alloc _).alloc _).drew)
              ⟨w2.heap.size + 1 + 1, 0, none⟩ 1 1 [.int .i64 x, .int .i64 1, .int .i64 a, .int .i64 b] (by rfl) (by rfl) (World.news_of_block (cs := #[.int .i64 x, .int .i64 1, .int .i64 a, .int .i64 b]) (t := 49) (fr := (0, 0)) (heap_at _ _ _ (by simp))) (by simp [Value.oneCell'])
              (by omega) (by unfold maxLen; omega) (by omega) (by simp; omega) (w2.heap.size + 1 + 1 + 1) (by simp) ?_; intro gg cap2 w3 hown3 hgrow hat hlt2)))
      rw [HT.out] at hown3
      have hb4 : Below w1.heap.size w1 w3 := ((((hb3.alloc hsz3 _).alloc (by simp; omega) _).alloc (by simp; omega) _).drew).grown hgrow (by simp; omega) (fun j hj => (hown2.lt j hj).1)
      clear hown2 hgrow hb3 hat hlt2
      go_wp2
      go_roundw
      case rel => exact ⟨k + 1, by omega, by go_num, hown3, hb4⟩
      case measure => simp [intOf]; omega
    · go_wp2
      go_ret
      obtain rfl : k = 4 := by omega
      exact ⟨_, rfl, own_mono hown hz1, HB1.out.trans (hb.mono hz1)⟩

end Go.Proofs.YtakbkdimknnopaaDoor
