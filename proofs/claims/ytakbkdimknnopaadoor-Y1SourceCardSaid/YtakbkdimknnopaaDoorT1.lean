/- Lists of provisions compared. -/
import Derived.Test.YtakbkdimknnopaaDoorS9
namespace Go.Proofs.YtakbkdimknnopaaDoor
open Go.RowKit

/-- The k-th elements of two lists of provisions, side by side. -/
def Pair15 (w : World) (la lb : List Value) : Prop := ∃ (id key ov rule : ByteArray) (from' to' en re kind num den mode un ud : Int) (pa pb : Option Addr) (na ca nb cb : Nat), la = [.string id, .string key, .int .i64 from', .int .i64 to', .int .i64 en, .int .i64 re, .string ov, .int .i64 kind, .int .i64 num, .int .i64 den, .slice pa na ca, .string rule, .int .i64 mode, .int .i64 un, .int .i64 ud] ∧ lb = [.string id, .string key, .int .i64 from', .int .i64 to', .int .i64 en, .int .i64 re, .string ov, .int .i64 kind, .int .i64 num, .int .i64 den, .slice pb nb cb, .string rule, .int .i64 mode, .int .i64 un, .int .i64 ud] ∧ Alike w (.slice pa na ca) (.slice pb nb cb)
theorem pair_at (w : World) (ga1 ca1 ga2 ca2 gb1 cb1 gb2 cb2 : Nat) (h1 : Alike w (.slice (some ⟨ga1, 0, none⟩) 4 ca1) (.slice (some ⟨gb1, 0, none⟩) 4 cb1)) (h2 : Alike w (.slice (some ⟨ga2, 0, none⟩) 4 ca2) (.slice (some ⟨gb2, 0, none⟩) 4 cb2)) (k : Nat) (hk : k < 13) :
    ∃ la lb, Pair15 w la lb ∧ ((provsList (.slice (some ⟨ga1, 0, none⟩) 4 ca1) (.slice (some ⟨ga2, 0, none⟩) 4 ca2)).drop (k * 15)).take 15 = la ∧ ((provsList (.slice (some ⟨gb1, 0, none⟩) 4 cb1) (.slice (some ⟨gb2, 0, none⟩) 4 cb2)).drop (k * 15)).take 15 = lb := by
  match k, hk with
  | 0, _ => exact ⟨row0 (.slice none 0 0), row0 (.slice none 0 0), ⟨_, _, _, _, _, _, _, _, _, _, _, _, _, _, _, _, _, _, _, _, rfl, rfl, alike_nil w⟩, by kernel_rfl, by kernel_rfl⟩
  | 1, _ => exact ⟨row1 (.slice none 0 0), row1 (.slice none 0 0), ⟨_, _, _, _, _, _, _, _, _, _, _, _, _, _, _, _, _, _, _, _, rfl, rfl, alike_nil w⟩, by kernel_rfl, by kernel_rfl⟩
  | 2, _ => exact ⟨row2 (.slice none 0 0), row2 (.slice none 0 0), ⟨_, _, _, _, _, _, _, _, _, _, _, _, _, _, _, _, _, _, _, _, rfl, rfl, alike_nil w⟩, by kernel_rfl, by kernel_rfl⟩
  | 3, _ => exact ⟨row3 (.slice none 0 0), row3 (.slice none 0 0), ⟨_, _, _, _, _, _, _, _, _, _, _, _, _, _, _, _, _, _, _, _, rfl, rfl, alike_nil w⟩, by kernel_rfl, by kernel_rfl⟩
  | 4, _ => exact ⟨row4 (.slice none 0 0), row4 (.slice none 0 0), ⟨_, _, _, _, _, _, _, _, _, _, _, _, _, _, _, _, _, _, _, _, rfl, rfl, alike_nil w⟩, by kernel_rfl, by kernel_rfl⟩
  | 5, _ => exact ⟨row5 (.slice (some ⟨ga1, 0, none⟩) 4 ca1), row5 (.slice (some ⟨gb1, 0, none⟩) 4 cb1), ⟨_, _, _, _, _, _, _, _, _, _, _, _, _, _, _, _, _, _, _, _, rfl, rfl, h1⟩, by kernel_rfl, by kernel_rfl⟩
  | 6, _ => exact ⟨row6 (.slice (some ⟨ga2, 0, none⟩) 4 ca2), row6 (.slice (some ⟨gb2, 0, none⟩) 4 cb2), ⟨_, _, _, _, _, _, _, _, _, _, _, _, _, _, _, _, _, _, _, _, rfl, rfl, h2⟩, by kernel_rfl, by kernel_rfl⟩
  | 7, _ => exact ⟨row7 (.slice none 0 0), row7 (.slice none 0 0), ⟨_, _, _, _, _, _, _, _, _, _, _, _, _, _, _, _, _, _, _, _, rfl, rfl, alike_nil w⟩, by kernel_rfl, by kernel_rfl⟩
  | 8, _ => exact ⟨row8 (.slice none 0 0), row8 (.slice none 0 0), ⟨_, _, _, _, _, _, _, _, _, _, _, _, _, _, _, _, _, _, _, _, rfl, rfl, alike_nil w⟩, by kernel_rfl, by kernel_rfl⟩
  | 9, _ => exact ⟨row9 (.slice none 0 0), row9 (.slice none 0 0), ⟨_, _, _, _, _, _, _, _, _, _, _, _, _, _, _, _, _, _, _, _, rfl, rfl, alike_nil w⟩, by kernel_rfl, by kernel_rfl⟩
  | 10, _ => exact ⟨row10 (.slice none 0 0), row10 (.slice none 0 0), ⟨_, _, _, _, _, _, _, _, _, _, _, _, _, _, _, _, _, _, _, _, rfl, rfl, alike_nil w⟩, by kernel_rfl, by kernel_rfl⟩
  | 11, _ => exact ⟨row11 (.slice none 0 0), row11 (.slice none 0 0), ⟨_, _, _, _, _, _, _, _, _, _, _, _, _, _, _, _, _, _, _, _, rfl, rfl, alike_nil w⟩, by kernel_rfl, by kernel_rfl⟩
  | 12, _ => exact ⟨row12 (.slice none 0 0), row12 (.slice none 0 0), ⟨_, _, _, _, _, _, _, _, _, _, _, _, _, _, _, _, _, _, _, _, rfl, rfl, alike_nil w⟩, by kernel_rfl, by kernel_rfl⟩
theorem range_of {w : World} {B o : Nat} {l la : List Value} (hb : w.heap[B]? = some (.cells l.toArray 55 (0, 0))) (h : (l.drop o).take 15 = la) : w.rangeAt B o la := by
  intro j v hv
  rw [cell_of w B _ _ hb, ← hv, ← h]
  by_cases hj : j < 15
  · rw [List.getElem?_take_of_lt hj, List.getElem?_drop]
    simp
  · rw [← h] at hv
    rw [List.getElem?_take, if_neg hj] at hv
    cases hv
theorem und55 : ∃ fs, Tryd.prog.underlying 55 = some (.struct fs) := ⟨_, Tryd.underlying55⟩
set_option maxRecDepth 100000 in
set_option maxHeartbeats 2000000 in
theorem same_provs (ga1 ca1 ga2 ca2 gb1 cb1 gb2 cb2 Ba Bb : Nat) (w : World) (h1 : Alike w (.slice (some ⟨ga1, 0, none⟩) 4 ca1) (.slice (some ⟨gb1, 0, none⟩) 4 cb1)) (h2 : Alike w (.slice (some ⟨ga2, 0, none⟩) 4 ca2) (.slice (some ⟨gb2, 0, none⟩) 4 cb2))
    (ha : w.heap[Ba]? = some (.cells (provsList (.slice (some ⟨ga1, 0, none⟩) 4 ca1) (.slice (some ⟨ga2, 0, none⟩) 4 ca2)).toArray 55 (0, 0)))
    (hb : w.heap[Bb]? = some (.cells (provsList (.slice (some ⟨gb1, 0, none⟩) 4 cb1) (.slice (some ⟨gb2, 0, none⟩) 4 cb2)).toArray 55 (0, 0))) :
    Calls Tryd.prog 21 #[.slice (some ⟨Ba, 0, none⟩) 13 13, .slice (some ⟨Bb, 0, none⟩) 13 13] w fun e w' => e = .returned (.bool true) ∧ Below w.heap.size w w' := by
  have la : Ba < w.heap.size := (Array.getElem?_eq_some_iff.1 ha).1
  have lb : Bb < w.heap.size := (Array.getElem?_eq_some_iff.1 hb).1
  have HP : Hid (∀ k, k < 13 → ∃ la lb, Pair15 w la lb ∧ w.rangeAt Ba (k * 15) la ∧ w.rangeAt Bb (k * 15) lb) := fun k hk => by
    obtain ⟨la, lb, hp, e1, e2⟩ := pair_at w ga1 ca1 ga2 ca2 gb1 cb1 gb2 cb2 h1 h2 k hk
    exact ⟨la, lb, hp, range_of ha e1, range_of hb e2⟩
  clear ha hb h1 h2
  obtain ⟨fs, hu⟩ := und55
  have hs55 := size55
  go_enter Tryd.func21, Tryd.ntmps21
  go_wp2
  go_loopw [5] (fun i wr => ∃ k : Nat, k ≤ 13 ∧ i = .int .i64 k ∧ Below w.heap.size w wr) (fun i _ => 13 - (intOf i).toNat)
  case atStart => exact ⟨0, by omega, rfl, Below.refl _ _⟩
  case round =>
    obtain ⟨k, hk, rfl, hb⟩ := hrel
    have hsz := hb.size
    by_cases hlt : k < 13
    · have k0 : (0 : Int) ≤ (k : Int) := by omega
      have k1 : (k : Int) < (13 : Int) := by omega
      obtain ⟨va, vb, hp, ra, rb⟩ := HP.out k hlt
      have ra2 : wr.rangeAt Ba (k * 15) va := fun j v hv => (hb.cell (p := ⟨Ba, k * 15 + j, none⟩) la).trans (ra j v hv)
      have rb2 : wr.rangeAt Bb (k * 15) vb := fun j v hv => (hb.cell (p := ⟨Bb, k * 15 + j, none⟩) lb).trans (rb j v hv)
      obtain ⟨id, key, ov, rule, from', to', en, re, kind, num, den, mode, un, ud, pa, pb, na, ca, nb, cb, rfl, rfl, hal⟩ := hp
      have la2 : Ba < wr.heap.size := by omega
      have lb2 : Bb < wr.heap.size := by omega
      have HAL : Hid (Alike wr (.slice pa na ca) (.slice pb nb cb)) := hal.later hb
      have HBW : Hid (Below w.heap.size w wr) := hb
      clear hb hal ra rb
      go_wp2_with fail
      refine wp_region_held_drew (S := fun w' => w'.rangeAt Ba (k * 15) [.string id, .string key, .int .i64 from', .int .i64 to', .int .i64 en, .int .i64 re, .string ov, .int .i64 kind, .int .i64 num, .int .i64 den, .slice pa na ca, .string rule, .int .i64 mode, .int .i64 un, .int .i64 ud] ∧ w'.rangeAt Bb (k * 15) [.string id, .string key, .int .i64 from', .int .i64 to', .int .i64 en, .int .i64 re, .string ov, .int .i64 kind, .int .i64 num, .int .i64 den, .slice pb nb cb, .string rule, .int .i64 mode, .int .i64 un, .int .i64 ud] ∧ Below wr.heap.size wr w') (by kernel_rfl) ⟨ra2, rb2, (Below.refl _ _).drew⟩ (fun hHeld => ?_)
      refine wpAnyH_take (i := 0) (oi := ⟨some 18, _, _, _, _, _⟩) (v := ?_) rfl (by kernel_rfl) (by kernel_rfl) (by kernel_rfl) (fun _ _ _ h => h) (Or.inl ⟨by rfl, ?hy⟩) hHeld ?_
      case hy =>
        intro w hSw
        clear hSw
        go_simp
        all_goals (with_reducible rfl)
      (try simp only [Act.put, List.setIfInBounds_toArray, List.set_cons_zero, List.set_cons_succ])
      refine wpAnyH_take (i := 1) (oi := ⟨some 19, _, _, _, _, _⟩) (v := ?_) rfl (by kernel_rfl) (by kernel_rfl) (by kernel_rfl) (fun _ _ _ h => h) (Or.inl ⟨by rfl, ?hy⟩) hHeld ?_
      case hy =>
        intro w hSw
        clear hSw
        go_simp
        all_goals (with_reducible rfl)
      (try simp only [Act.put, List.setIfInBounds_toArray, List.set_cons_zero, List.set_cons_succ])
      refine wpAnyH_take (i := 2) (oi := ⟨some 20, _, _, _, _, _⟩) (v := ?_) rfl (by kernel_rfl) (by kernel_rfl) (by kernel_rfl) (fun _ _ _ h => h) (Or.inl ⟨by rfl, ?hy⟩) hHeld ?_
      case hy =>
        intro w hSw
        clear hSw
        go_simp
        all_goals (with_reducible rfl)
      (try simp only [Act.put, List.setIfInBounds_toArray, List.set_cons_zero, List.set_cons_succ])
      refine wpAnyH_take (i := 3) (oi := ⟨some 21, _, _, _, _, _⟩) (v := .agg ([.string id, .string key, .int .i64 from', .int .i64 to', .int .i64 en, .int .i64 re, .string ov, .int .i64 kind, .int .i64 num, .int .i64 den, .slice pa na ca, .string rule, .int .i64 mode, .int .i64 un, .int .i64 ud] : List Value).toArray) rfl (by kernel_rfl) (by kernel_rfl) (by kernel_rfl) (fun _ _ _ h => h) (yieldsIf_load_mid (by rfl) 55 (.tmp 20) rfl Ba (k * 15) rfl [.string id, .string key, .int .i64 from', .int .i64 to', .int .i64 en, .int .i64 re, .string ov, .int .i64 kind, .int .i64 num, .int .i64 den, .slice pa na ca, .string rule, .int .i64 mode, .int .i64 un, .int .i64 ud] _ (fun w h => h.1) hu rfl hs55) hHeld ?_
      (try simp only [Act.put, List.setIfInBounds_toArray, List.set_cons_zero, List.set_cons_succ])
      refine wpAnyH_take (i := 4) (oi := ⟨some 22, _, _, _, _, _⟩) (v := ?_) rfl (by kernel_rfl) (by kernel_rfl) (by kernel_rfl) (fun _ _ _ h => h) (Or.inl ⟨by rfl, ?hy⟩) hHeld ?_
      case hy =>
        intro w hSw
        clear hSw
        go_simp
        all_goals (with_reducible rfl)
      (try simp only [Act.put, List.setIfInBounds_toArray, List.set_cons_zero, List.set_cons_succ])
      refine wpAnyH_take (i := 5) (oi := ⟨some 23, _, _, _, _, _⟩) (v := ?_) rfl (by kernel_rfl) (by kernel_rfl) (by kernel_rfl) (fun _ _ _ h => h) (Or.inl ⟨by rfl, ?hy⟩) hHeld ?_
      case hy =>
        intro w hSw
        clear hSw
        go_simp
        all_goals (with_reducible rfl)
      (try simp only [Act.put, List.setIfInBounds_toArray, List.set_cons_zero, List.set_cons_succ])
      refine wpAnyH_take (i := 6) (oi := ⟨some 24, _, _, _, _, _⟩) (v := ?_) rfl (by kernel_rfl) (by kernel_rfl) (by kernel_rfl) (fun _ _ _ h => h) (Or.inl ⟨by rfl, ?hy⟩) hHeld ?_
      case hy =>
        intro w hSw
        clear hSw
        go_simp
        all_goals (with_reducible rfl)
      (try simp only [Act.put, List.setIfInBounds_toArray, List.set_cons_zero, List.set_cons_succ])
      refine wpAnyH_take (i := 7) (oi := ⟨some 25, _, _, _, _, _⟩) (v := .agg ([.string id, .string key, .int .i64 from', .int .i64 to', .int .i64 en, .int .i64 re, .string ov, .int .i64 kind, .int .i64 num, .int .i64 den, .slice pb nb cb, .string rule, .int .i64 mode, .int .i64 un, .int .i64 ud] : List Value).toArray) rfl (by kernel_rfl) (by kernel_rfl) (by kernel_rfl) (fun _ _ _ h => h) (yieldsIf_load_mid (by rfl) 55 (.tmp 24) rfl Bb (k * 15) rfl [.string id, .string key, .int .i64 from', .int .i64 to', .int .i64 en, .int .i64 re, .string ov, .int .i64 kind, .int .i64 num, .int .i64 den, .slice pb nb cb, .string rule, .int .i64 mode, .int .i64 un, .int .i64 ud] _ (fun w h => h.2.1) hu rfl hs55) hHeld ?_
      (try simp only [Act.put, List.setIfInBounds_toArray, List.set_cons_zero, List.set_cons_succ])
      refine wpAnyH_ready (rs := [8]) (by kernel_rfl) (by simp) ?_
      refine AllReadyH.cons (o := ⟨some 26, _, _, _, _, _⟩) rfl (fun K hK => ?_) AllReadyH.nil
      go_simp
      refine (same_prov _ _ _ _ _ _ _ _ _ _ _ _ _ _ _ _ _ _ _ _ _ (HAL.out.later (Below.refl _ _).drew)).mono ?_
      rintro e w2 ⟨rfl, hbk⟩
      go_wp2_with fail
      have hbd : Below wr.heap.size wr w2 := (Below.refl _ wr).drew.trans hbk
      refine hK.out _ _ ⟨fun j v hv => (hbd.cell (p := ⟨Ba, k * 15 + j, none⟩) la2).trans (ra2 j v hv), fun j v hv => (hbd.cell (p := ⟨Bb, k * 15 + j, none⟩) lb2).trans (rb2 j v hv), hbd⟩ (fun hHeldN => ?_)
      clear hK K hHeld
      have hHeld := hHeldN
      clear hHeldN
      (try simp only [Act.put, List.setIfInBounds_toArray, List.set_cons_zero, List.set_cons_succ])
      refine wpAnyH_take (i := 9) (oi := ⟨some 6, _, _, _, _, _⟩) (v := ?_) rfl (by kernel_rfl) (by kernel_rfl) (by kernel_rfl) (fun _ _ _ h => h) (Or.inl ⟨by rfl, ?hy⟩) hHeld ?_
      case hy =>
        intro w hSw
        clear hSw
        go_simp
        all_goals (with_reducible rfl)
      (try simp only [Act.put, List.setIfInBounds_toArray, List.set_cons_zero, List.set_cons_succ])
      refine wpAnyH_done (by kernel_rfl) ?_ _
      have HBD : Hid (Below wr.heap.size wr w2) := hbd
      clear hbd hbk hHeld ra2 rb2 hu hs55
      go_wp2
      go_roundw
      case rel => exact ⟨k + 1, by omega, by go_num, HBW.out.trans (HBD.out.mono hsz)⟩
      case measure => simp [intOf]; omega
    · go_wp2
      go_ret
      exact ⟨rfl, hb⟩

end Go.Proofs.YtakbkdimknnopaaDoor
