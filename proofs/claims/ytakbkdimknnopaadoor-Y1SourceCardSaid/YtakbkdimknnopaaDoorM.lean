/- y1.Notes: a new slice of the ten notes. -/
import Derived.Test.YtakbkdimknnopaaDoorN
namespace Go.Proofs.YtakbkdimknnopaaDoor
open Go.RowKit

theorem setRow_alloc (w : World) (cs cs' : Array Value) (t : TypeId) : (w.alloc (.cells cs t)).setRow w.heap.size cs' = w.alloc (.cells cs' t) := by
  have h := setIf_alloc w (.cells cs t) (.cells cs' t)
  rw [← h]
  show World.mk _ _ _ _ _ = World.mk _ _ _ _ _
  congr 1
  apply Array.ext_getElem?
  intro i
  rw [Array.getElem?_modify, Array.getElem?_setIfInBounds]
  by_cases hi : w.heap.size = i
  · subst hi
    rw [if_pos rfl, if_pos rfl, heap_new]
    simp
  · rw [if_neg hi, if_neg hi]
theorem store_new (w : World) (ty : TypeId) (cs cells : Array Value) (hs : cs.size = cells.size) (h1 : cells.all (·.oneCell') = true) :
    (storeCells ⟨w.heap.size, 0, none⟩ cells.toList).run Tryd.prog (w.alloc (.cells cs ty)) = .ok () (w.alloc (.cells cells ty)) := by
  have := run_storeCells_from (P := Tryd.prog) w.heap.size ty cells.toList 0 cs (w.alloc (.cells cs ty)) (heap_new _ _) (by simp; omega) (fun v hv => (Array.all_eq_true_iff_forall_mem.1 h1) v (by simpa using hv))
  rw [this]
  simp [setRow_alloc]
theorem mk33 : ∀ w, (Instr.makeSlice 33 (.int .i64 0) (.int .i64 10)).run Tryd.prog w = .ok (.slice (some ⟨w.heap.size, 0, none⟩) 0 10) (w.alloc (.cells zeroCells 37)) := fun _ => by kernel_rfl
def noteS (k : Nat) : ByteArray := ([⟨#[121, 49, 46, 99, 112, 105]⟩, ⟨#[121, 49, 46, 102, 97, 99, 116, 111, 114]⟩, ⟨#[121, 49, 46, 115, 116, 97, 110, 100, 97, 114, 100]⟩, ⟨#[121, 49, 46, 116, 111, 112]⟩, ⟨#[121, 49, 46, 114, 97, 116, 101]⟩, ⟨#[121, 49, 46, 99, 114, 101, 100, 105, 116]⟩, ⟨#[121, 49, 46, 112, 104, 97, 115, 101]⟩, ⟨#[121, 49, 46, 102, 97, 99, 116, 115]⟩, ⟨#[121, 49, 46, 112, 114, 111, 118, 105, 115, 105, 111, 110, 115]⟩, ⟨#[121, 49, 46, 97, 108, 108]⟩] : List ByteArray).getD k ByteArray.empty
def noteV (k : Nat) : Int := ([1000, 2, 11000, 378000, 8800, 1400, 60000, 460202, 13, 13] : List Int).getD k 0
set_option maxRecDepth 100000 in
theorem idx66 (k : Nat) (hk : k < 10) : ∀ w, (Instr.index 66 (.agg noteCells) (.int .i64 k)).run Tryd.prog w = .ok (.agg #[.string (noteS k), .int .i64 (noteV k)]) w := by
  match k, hk with
  | 0, _ => exact fun _ => by kernel_rfl
  | 1, _ => exact fun _ => by kernel_rfl
  | 2, _ => exact fun _ => by kernel_rfl
  | 3, _ => exact fun _ => by kernel_rfl
  | 4, _ => exact fun _ => by kernel_rfl
  | 5, _ => exact fun _ => by kernel_rfl
  | 6, _ => exact fun _ => by kernel_rfl
  | 7, _ => exact fun _ => by kernel_rfl
  | 8, _ => exact fun _ => by kernel_rfl
  | 9, _ => exact fun _ => by kernel_rfl
theorem take_note (k : Nat) (hk : k < 10) : noteCells.toList.take (2 * k) ++ [.string (noteS k), .int .i64 (noteV k)] = noteCells.toList.take (2 * (k + 1)) := by
  match k, hk with
  | 0, _ => rfl
  | 1, _ => rfl
  | 2, _ => rfl
  | 3, _ => rfl
  | 4, _ => rfl
  | 5, _ => rfl
  | 6, _ => rfl
  | 7, _ => rfl
  | 8, _ => rfl
  | 9, _ => rfl
theorem news2 (w : World) (o : Obj) (a b : Value) (t : TypeId) : ∀ (j : Nat) (u : Value), [a, b][j]? = some u → ((w.alloc o).alloc (.cells #[a, b] t)).cell? ((⟨w.heap.size + 1, 0, none⟩ : Addr).add j) = some u := by
  intro j u hu
  have h := cell_of ((w.alloc o).alloc (.cells #[a, b] t)) (w.heap.size + 1) #[a, b] t (heap_at _ _ _ (by simp)) j
  have e : ((⟨w.heap.size + 1, 0, none⟩ : Addr).add j) = ⟨w.heap.size + 1, j, none⟩ := by rw [Addr.add_mid]; simp
  rw [e, h, ← hu]
  simp
theorem info37 : (Tryd.prog.info? 37).map (fun i => (i.zero, i.size, i.bytes)) = some (some (.agg #[.string ⟨#[]⟩, .int .i64 0]), 2, 24) := by kernel_rfl

set_option maxRecDepth 100000 in
set_option maxHeartbeats 1000000 in
theorem ynotes (w : World) (hv : Vars w) : Calls Tryd.prog 16 #[] w fun e w' => ∃ v, e = .returned v ∧ w'.ownsRow w.heap.size 37 2 v 10 noteCells.toList ∧ Below w.heap.size w w' := by
  obtain ⟨i0, hi, hz0, hz1, hz2⟩ := info_parts info37
  go_enter Tryd.func16, Tryd.ntmps16
  go_wp2_with fail
  refine (ten_any _ hv).mono ?_
  rintro e w1 ⟨rfl, hb⟩
  have hsz := hb.size
  have hst := store_new w1 66 zeroCells noteCells rfl (by kernel_rfl)
  unfold zeroCells at hst
  have hmk := mk33
  go_upto_region 3 with (fail)
  refine wp_region_lit ?_
  refine wpList_load_row rfl 66 (.tmp 1) rfl w1.heap.size rfl 66 noteCells (0, 0) _ ((Below.heap_alloc _ _ _ (by simp)).trans (heap_new _ _)) und66 rfl size66 ?_
  have hbw : Below w.heap.size w ((w1.alloc (.cells noteCells 66)).alloc (.cells zeroCells 37)) := (hb.alloc hsz _).alloc (by simp; omega) _
  have hown : ((w1.alloc (.cells noteCells 66)).alloc (.cells zeroCells 37)).ownsRow w.heap.size 37 2 (.slice (some ⟨w1.heap.size + 1, 0, none⟩) 0 10) 0 [] :=
    ⟨rfl, Or.inr ⟨w1.heap.size + 1, 10, zeroCells, rfl, by omega, heap_at _ _ _ (by simp), by omega, by unfold maxLen; omega, rfl, rfl⟩⟩
  clear hst hmk hv hb hsz
  obtain ⟨W2, hW2⟩ : ∃ W2, W2 = (w1.alloc (.cells noteCells 66)).alloc (.cells zeroCells 37) := ⟨_, rfl⟩
  rw [← hW2] at hbw hown
  have HBW : Hid _ := hbw
  have HOW : Hid (W2.ownsRow w.heap.size 37 2 (.slice (some ⟨w1.heap.size + 1, 0, none⟩) 0 10) 0 []) := hown
  clear hbw hown
  simp only [Act.put, List.setIfInBounds_toArray, List.set_cons_zero, List.set_cons_succ]
  rw [← hW2]
  have HW2 : Hid _ := hW2
  clear hW2
  go_wp2
  go_loopw [2, 8] (fun v i wr => ∃ k : Nat, k ≤ 10 ∧ i = .int .i64 k ∧ wr.ownsRow w.heap.size 37 2 v k (noteCells.toList.take (2 * k)) ∧ Below w.heap.size w wr) (fun _ i _ => 10 - (intOf i).toNat)
  case atStart => exact ⟨0, by omega, rfl, HOW.out, HBW.out⟩
  case round =>
    obtain ⟨k, hk, rfl, hown, hb⟩ := hrel
    have hsz := hb.size
    by_cases hlt : k < 10
    · have hix := idx66 k hlt
      have HT : Hid _ := take_note k hlt
      generalize noteS k = s at *
      generalize noteV k = n at *
      generalize noteCells.toList.take (2 * k) = xs at *
      go_wp2_with (at_builtin; refine wpList_append_own _ rfl _ _ 33 rfl w.heap.size 37 i0 (.agg #[.string ⟨#[]⟩, .int .i64 0]) 2 24 Tryd.underlying33 hi hz0 hz1 hz2 rfl (by decide) _ k xs rfl ((hown.alloc _).alloc _) ⟨wr.heap.size + 1, 0, none⟩ 1 1 [.string s, .int .i64 n] rfl rfl ?c1 ?c2 ?c3 ?c4 ?c5 ?_)
      case c1 => exact news2 _ _ _ _ _
      case c2 => simp [Value.oneCell']
      case c3 => unfold maxLen; omega
      case c4 => omega
      case c5 => simp; omega
      intro v' w2 hown2 hgrow _
      rw [HT.out] at hown2
      have hb2 : Below w.heap.size w w2 := ((hb.alloc hsz _).alloc (by simp; omega) _).grown hgrow (by simp; omega) (fun j hj => (hown.lt j hj).1)
      clear hown hgrow hb hix
      go_wp2
      go_roundw
      case rel => exact ⟨k + 1, by omega, by go_num, hown2, hb2⟩
      case measure => simp [intOf]; omega
    · go_wp2
      go_ret
      obtain rfl : k = 10 := by omega
      exact ⟨_, rfl, hown, hb⟩

end Go.Proofs.YtakbkdimknnopaaDoor
