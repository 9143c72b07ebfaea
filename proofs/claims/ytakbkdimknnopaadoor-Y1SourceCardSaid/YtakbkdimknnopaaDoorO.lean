/- The reference's notes: titheref17.Sums, Own, Notes. -/
import Derived.Test.YtakbkdimknnopaaDoorM
import Derived.Deep.RegionHeld3
import Derived.Deep.AppendLies
namespace Go.Proofs.YtakbkdimknnopaaDoor
open Go.RowKit

def sumList : List Int := [1000, 2, 11000, 378000, 8800, 1400, 60000]
theorem sum_name (k : Nat) (hk : k < 7) : (nums (nameList.getD k ByteArray.empty)).sum = sumList.getD k 0 := by
  match k, hk with
  | 0, _ => decide
  | 1, _ => decide
  | 2, _ => decide
  | 3, _ => decide
  | 4, _ => decide
  | 5, _ => decide
  | 6, _ => decide
theorem sumList_len : sumList.length = 7 := rfl
theorem take_sum (k : Nat) (hk : k < 7) : (sumList.take k).map (Value.int .i64) ++ [.int .i64 (sumList.getD k 0)] = (sumList.take (k + 1)).map (Value.int .i64) := by
  match k, hk with
  | 0, _ => rfl
  | 1, _ => rfl
  | 2, _ => rfl
  | 3, _ => rfl
  | 4, _ => rfl
  | 5, _ => rfl
  | 6, _ => rfl
theorem own_below {w w' : World} {base : Nat} {e : TypeId} {size : Nat} {v : Value} {n : Nat} {xs : List Value} (h : w.ownsRow base e size v n xs) (hb : Below w.heap.size w w') : w'.ownsRow base e size v n xs := by
  refine h.kept (row := none) ⟨hb.os, hb.tape, hb.output, hb.size, fun k hk _ => hb.block k hk⟩ ?_
  cases v.ownBlock with
  | none => exact Or.inl rfl
  | some _ => exact Or.inr (by simp)
theorem own_mono {w : World} {base base' : Nat} {e : TypeId} {size : Nat} {v : Value} {n : Nat} {xs : List Value} (h : w.ownsRow base e size v n xs) (hl : base' ≤ base) : w.ownsRow base' e size v n xs := by
  obtain ⟨h1, h2⟩ := h
  refine ⟨h1, ?_⟩
  rcases h2 with h2 | ⟨g, cap, cur, a1, a2, r⟩
  · exact Or.inl h2
  · exact Or.inr ⟨g, cap, cur, a1, Nat.le_trans hl a2, r⟩
theorem info3 : (Tryd.prog.info? 3).map (fun i => (i.zero, i.size, i.bytes)) = some (some (.int .i64 0), 1, 8) := by kernel_rfl
theorem news1 (w : World) (a : Value) (t : TypeId) : ∀ (j : Nat) (u : Value), [a][j]? = some u → (w.alloc (.cells #[a] t)).cell? ((⟨w.heap.size, 0, none⟩ : Addr).add j) = some u := by
  intro j u hu
  have h := cell_of (w.alloc (.cells #[a] t)) w.heap.size #[a] t (heap_new _ _) j
  have e : ((⟨w.heap.size, 0, none⟩ : Addr).add j) = ⟨w.heap.size, j, none⟩ := by rw [Addr.add_mid]; simp
  rw [e, h, ← hu]
  simp
set_option maxRecDepth 100000 in
set_option maxHeartbeats 1000000 in
theorem sums_any (w : World) : Calls Tryd.prog 33 #[] w fun e w' => ∃ v, e = .returned v ∧ w'.ownsRow w.heap.size 3 1 v 7 (sumList.map (Value.int .i64)) ∧ Below w.heap.size w w' := by
  obtain ⟨i0, hi, hz0, hz1, hz2⟩ := info_parts info3
  go_enter Tryd.func33, Tryd.ntmps33
  go_wp2_with fail
  refine (names14 _).mono ?_
  rintro e w1 ⟨B, rfl, hB, hB2, hh, hb⟩
  have HC : Hid (∀ k : Nat, k < 7 → w1.cell? ⟨B, k, none⟩ = some (.string (nameList.getD k ByteArray.empty))) := fun k hk => (cell_of w1 B _ _ hh _).trans (txts_at _ _ hk)
  have HB : Hid (Below w.heap.size w w1) := hb
  have hz := hb.size
  clear hh hb
  go_wp2
  go_loopw [1, 3] (fun v i wr => ∃ k : Nat, k ≤ 7 ∧ i = .int .i64 k ∧ wr.ownsRow w1.heap.size 3 1 v k ((sumList.take k).map (Value.int .i64)) ∧ Below w1.heap.size w1 wr) (fun _ i _ => 7 - (intOf i).toNat)
  case atStart => exact ⟨0, by omega, rfl, World.ownsRow_nil _ _ _ _, Below.refl _ _⟩
  case round =>
    obtain ⟨k, hk, rfl, hown, hb⟩ := hrel
    have hsz := hb.size
    by_cases hlt : k < 7
    · have h0 : (0 : Int) ≤ (k : Int) := by omega
      have h1 : (k : Int) < (7 : Int) := by omega
      have hc : wr.cell? ⟨B, k, none⟩ = some (.string (nameList.getD k ByteArray.empty)) := (hb.cell (p := ⟨B, k, none⟩) hB2).trans (HC.out k hlt)
      have HT : Hid (_ = _) := take_sum k hlt
      have HS : Hid (_ = _) := sum_name k hlt
      generalize nameList.getD k ByteArray.empty = s at *
      generalize sumList.getD k 0 = n at *
      generalize (sumList.take k).map (Value.int .i64) = xs at *
      go_wp2_with fail
      refine (rsum_all s wr).mono ?_
      rintro e w2 ⟨rfl, hb2⟩
      rw [HS.out]
      have hown2 := own_below hown hb2
      have hb3 := hb.trans (hb2.mono hsz)
      have hsz3 := hb3.size
      clear hown hb2 hc hb hsz
      go_wp2_with (at_builtin; refine wpList_append_own _ rfl _ _ 63 rfl w1.heap.size 3 i0 (.int .i64 0) 1 8 Tryd.underlying63 hi hz0 hz1 hz2 rfl (by decide) _ k xs rfl (hown2.alloc _) ⟨w2.heap.size, 0, none⟩ 1 1 [.int .i64 n] rfl rfl ?c1 ?c2 ?c3 ?c4 ?c5 ?_)
      case c1 => exact news1 _ _ _
      case c2 => simp [Value.oneCell']
      case c3 => unfold maxLen; omega
      case c4 => omega
      case c5 => simp; omega
      intro v' w4 hown4 hgrow _
      rw [HT.out] at hown4
      have hb4 : Below w1.heap.size w1 w4 := (hb3.alloc hsz3 _).grown hgrow (by simp; omega) (fun j hj => (hown2.lt j hj).1)
      clear hown2 hgrow hb3
      go_wp2
      go_roundw
      case rel => exact ⟨k + 1, by omega, by go_num, hown4, hb4⟩
      case measure => simp [intOf]; omega
    · go_wp2
      go_ret
      obtain rfl : k = 7 := by omega
      exact ⟨_, rfl, own_mono hown hz, HB.out.trans (hb.mono hz)⟩

theorem note_name (k : Nat) (hk : k < 7) : (⟨#[121, 49]⟩ ++ ⟨#[46]⟩ ++ nameList.getD k ByteArray.empty : ByteArray) = noteS k := by
  match k, hk with
  | 0, _ => rfl
  | 1, _ => rfl
  | 2, _ => rfl
  | 3, _ => rfl
  | 4, _ => rfl
  | 5, _ => rfl
  | 6, _ => rfl
theorem size_name (k : Nat) (hk : k < 7) : ¬ 9223372036854775807 < 3 + (nameList.getD k ByteArray.empty).size := by
  match k, hk with
  | 0, _ => decide
  | 1, _ => decide
  | 2, _ => decide
  | 3, _ => decide
  | 4, _ => decide
  | 5, _ => decide
  | 6, _ => decide
theorem note_val (k : Nat) (hk : k < 7) : sumList.getD k 0 = noteV k := by
  match k, hk with
  | 0, _ => rfl
  | 1, _ => rfl
  | 2, _ => rfl
  | 3, _ => rfl
  | 4, _ => rfl
  | 5, _ => rfl
  | 6, _ => rfl
theorem sums_step (k : Nat) (hk : k < 7) : sums.getD k 0 + sumList.getD k 0 = sums.getD (k + 1) 0 ∧ 0 ≤ sums.getD k 0 ∧ sums.getD k 0 ≤ 1000000 ∧ 0 ≤ sumList.getD k 0 ∧ sumList.getD k 0 ≤ 1000000 := by
  match k, hk with
  | 0, _ => decide
  | 1, _ => decide
  | 2, _ => decide
  | 3, _ => decide
  | 4, _ => decide
  | 5, _ => decide
  | 6, _ => decide
set_option maxRecDepth 100000 in
set_option maxHeartbeats 2000000 in
theorem own_any (gs cs : Nat) (w : World) (hs : ∀ k, k < 7 → w.cell? ⟨gs, k, none⟩ = some (.int .i64 (sumList.getD k 0))) (hlt0 : gs < w.heap.size) :
    Calls Tryd.prog 32 #[.string ⟨#[121, 49]⟩, .slice (some ⟨gs, 0, none⟩) 7 cs, .int .i64 13, .int .i64 13] w fun e w' => ∃ v, e = .returned v ∧ w'.ownsRow w.heap.size 37 2 v 10 noteCells.toList ∧ Below w.heap.size w w' := by
  obtain ⟨i0, hi, hz0, hz1, hz2⟩ := info_parts info37
  go_enter Tryd.func32, Tryd.ntmps32
  go_wp2_with fail
  refine (names14 _).mono ?_
  rintro e w1 ⟨B, rfl, hB, hB2, hh, hb⟩
  have HC : Hid (∀ k : Nat, k < 7 → w1.cell? ⟨B, k, none⟩ = some (.string (nameList.getD k ByteArray.empty))) := fun k hk => (cell_of w1 B _ _ hh _).trans (txts_at _ _ hk)
  have HSC : Hid (∀ k : Nat, k < 7 → w1.cell? ⟨gs, k, none⟩ = some (.int .i64 (sumList.getD k 0))) := fun k hk => (hb.cell (p := ⟨gs, k, none⟩) hlt0).trans (hs k hk)
  have hgs : gs < w1.heap.size := Nat.lt_of_lt_of_le hlt0 hb.size
  have HB : Hid (Below w.heap.size w w1) := hb
  have hz := hb.size
  clear hh hb hs hlt0
  go_wp2
  go_loopw [9, 11, 12] (fun v f i wr => ∃ k : Nat, k ≤ 7 ∧ i = .int .i64 k ∧ f = .int .i64 (sums.getD k 0) ∧ wr.ownsRow w1.heap.size 37 2 v k (noteCells.toList.take (2 * k)) ∧ Below w1.heap.size w1 wr) (fun _ _ i _ => 7 - (intOf i).toNat)
  case atStart => exact ⟨0, by omega, rfl, rfl, World.ownsRow_nil _ _ _ _, Below.refl _ _⟩
  case round =>
    obtain ⟨k, hk, rfl, rfl, hown, hb⟩ := hrel
    have hsz := hb.size
    by_cases hlt : k < 7
    · have h0 : (0 : Int) ≤ (k : Int) := by omega
      have h1 : (k : Int) < (7 : Int) := by omega
      have hc : wr.cell? ⟨B, k, none⟩ = some (.string (nameList.getD k ByteArray.empty)) := (hb.cell (p := ⟨B, k, none⟩) hB2).trans (HC.out k hlt)
      have hd : wr.cell? ⟨gs, k, none⟩ = some (.int .i64 (sumList.getD k 0)) := (hb.cell (p := ⟨gs, k, none⟩) hgs).trans (HSC.out k hlt)
      have HT : Hid (noteCells.toList.take (2 * k) ++ [.string (noteS k), .int .i64 (noteV k)] = noteCells.toList.take (2 * (k + 1))) := take_note k (by omega)
      have HN : Hid ((⟨#[121, 49]⟩ ++ ⟨#[46]⟩ ++ nameList.getD k ByteArray.empty : ByteArray) = noteS k) := note_name k hlt
      have hcat := size_name k hlt
      have HV : Hid (sumList.getD k 0 = noteV k) := note_val k hlt
      obtain ⟨hS, b1, b2, b3, b4⟩ := sums_step k hlt
      have HS : Hid (sums.getD k 0 + sumList.getD k 0 = sums.getD (k + 1) 0) := hS
      clear hS
      generalize nameList.getD k ByteArray.empty = s at *
      rw [← HV.out, ← HN.out] at HT
      clear HN
      generalize sumList.getD k 0 = n at *
      generalize sums.getD k 0 = f at *
      generalize noteCells.toList.take (2 * k) = xs at *
      have ag : u9.ownBlock ≠ some B := fun e => by have := hown.lt _ e; omega
      have ah : u9.ownBlock ≠ some gs := fun e => by have := hown.lt _ e; omega
      have hBr : B < wr.heap.size := by omega
      have hgr : gs < wr.heap.size := by omega
      have k1 : (k : Int) < (nameList.length : Int) := h1
      go_wp2_with fail
      go_region_held3 (fun w' => w'.cell? ⟨B, k, none⟩ = some (.string s) ∧ w'.cell? ⟨gs, k, none⟩ = some (.int .i64 n))
        (first
          | go_keep
          | (go_split_ands
             refine ⟨?_, ?_⟩
             · (rw [hgrow.cell_far _ (by simp; omega) (Ne.symm ag)]; assumption)
             · (rw [hgrow.cell_far _ (by simp; omega) (Ne.symm ah)]; assumption)))
        ((refine step_append_lies _ (by rfl) _ _ _ (by rfl) w1.heap.size 37 i0 _ 2 24 Tryd.underlying33 hi hz0 hz1 hz2 rfl (by omega) u9 k xs (by rfl) ((hown.alloc _).drew)
            ⟨wr.heap.size, 0, none⟩ 1 1 [.string (⟨#[121, 49]⟩ ++ ⟨#[46]⟩ ++ s), .int .i64 n] (by rfl) (by rfl) (World.news_of_block (cs := #[.string (⟨#[121, 49]⟩ ++ ⟨#[46]⟩ ++ s), .int .i64 n]) (t := 37) (fr := (0, 0)) (heap_alloc_new wr _)) (by simp [Value.oneCell'])
            (by omega) (by unfold maxLen; omega) (by omega) (by simp; omega) (wr.heap.size + 1) (by simp) ?_; intro gg cap w2 hown2 hgrow hat hlt2))
      rw [HT.out] at hown2
      have hb2 : Below w1.heap.size w1 w2 := (hb.alloc hsz _).drew.grown hgrow (by simp; omega) (fun j hj => (hown.lt j hj).1)
      clear hown hgrow hb hat hlt2 hcat
      go_wp2
      go_roundw
      case rel => exact ⟨k + 1, by omega, by go_num, by rw [HS.out], hown2, hb2⟩
      case measure => simp [intOf]; omega
    · obtain rfl : k = 7 := by omega
      rw [show sums.getD 7 0 = 460202 from rfl]
      clear hlt
      go_wp2_with (at_builtin; refine wpList_append_own _ rfl _ _ 33 rfl w1.heap.size 37 i0 (.agg #[.string ⟨#[]⟩, .int .i64 0]) 2 24 Tryd.underlying33 hi hz0 hz1 hz2 rfl (by decide) _ 7 _ rfl (hown.alloc _) ⟨wr.heap.size, 0, none⟩ 3 3 [.string (⟨#[121, 49]⟩ ++ ⟨#[46, 102, 97, 99, 116, 115]⟩), .int .i64 460202, .string (⟨#[121, 49]⟩ ++ ⟨#[46, 112, 114, 111, 118, 105, 115, 105, 111, 110, 115]⟩), .int .i64 13, .string (⟨#[121, 49]⟩ ++ ⟨#[46, 97, 108, 108]⟩), .int .i64 13] rfl rfl ?c1 ?c2 ?c3 ?c4 ?c5 ?_)
      case c2 => simp [Value.oneCell']
      case c3 => unfold maxLen; omega
      case c5 => omega
      intro v' w4 hown4 hgrow _
      have hown5 : w4.ownsRow w1.heap.size 37 2 v' 10 noteCells.toList := hown4
      have hb4 : Below w1.heap.size w1 w4 := (hb.alloc hsz _).grown hgrow (by simp; omega) (fun j hj => (hown.lt j hj).1)
      clear hown hgrow hb hown4
      go_wp2
      go_ret
      exact ⟨_, rfl, own_mono hown5 hz, HB.out.trans (hb4.mono hz)⟩

theorem rnotes (w : World) : Calls Tryd.prog 17 #[] w fun e w' => ∃ v, e = .returned v ∧ w'.ownsRow w.heap.size 37 2 v 10 noteCells.toList ∧ Below w.heap.size w w' := by
  go_enter Tryd.func17, Tryd.ntmps17
  go_wp2_with fail
  refine (sums_any w).mono ?_
  rintro e w1 ⟨v, rfl, ⟨_, hv⟩, hb⟩
  rcases hv with ⟨_, h⟩ | ⟨g, cap, cur, rfl, hg, hh, hc1, hc2, hsz, hcur⟩
  · cases h
  have hcells : ∀ k, k < 7 → w1.cell? ⟨g, k, none⟩ = some (.int .i64 (sumList.getD k 0)) := by
    intro k hk
    rw [cell_of w1 g cur 3 hh k]
    have h2 : cur.toList[k]? = ((sumList.map (Value.int .i64)))[k]? := by rw [← hcur, List.getElem?_take_of_lt (by omega)]
    rw [← Array.getElem?_toList, h2]
    rw [List.getElem?_map, List.getElem?_eq_getElem (by rw [sumList_len]; exact hk), List.getD_eq_getElem?_getD, List.getElem?_eq_getElem (by rw [sumList_len]; exact hk)]
    rfl
  have hgl : g < w1.heap.size := (Array.getElem?_eq_some_iff.1 hh).1
  have hz := hb.size
  clear hh hcur hsz hc1 hc2
  go_wp2_with fail
  refine (own_any g cap w1 hcells hgl).mono ?_
  rintro e w2 ⟨v, rfl, ho, hb2⟩
  have hb3 := hb.trans (hb2.mono hz)
  have ho3 := own_mono ho hz
  clear hcells ho hb2
  go_wp2
  go_ret
  exact ⟨_, rfl, ho3, hb3⟩

end Go.Proofs.YtakbkdimknnopaaDoor
