/- What y1.Fact, y1.Sum and the reference's two functions return, for every name and every number. -/
import Derived.Test.YtakbkdimknnopaaDoorA
namespace Go.Proofs.YtakbkdimknnopaaDoor
open Go.RowKit

/-- The number at a place, 0 beyond. -/
def factV (l : List Int) (i : Int) : Int := if 0 ≤ i ∧ i < l.length then l.getD i.toNat 0 else 0
def factB (l : List Int) (i : Int) : Bool := decide (0 ≤ i ∧ i < l.length)
theorem factV_lo (l : List Int) (i : Int) (h : i < 0) : factV l i = 0 ∧ factB l i = false := by
  unfold factV factB; exact ⟨if_neg (by omega), decide_eq_false (by omega)⟩
theorem factV_hi (l : List Int) (i : Int) (h : (l.length : Int) ≤ i) : factV l i = 0 ∧ factB l i = false := by
  unfold factV factB; exact ⟨if_neg (by omega), decide_eq_false (by omega)⟩
theorem factV_in (l : List Int) (i : Int) (h0 : 0 ≤ i) (h : i < (l.length : Int)) : factV l i = l[i.toNat]'(by omega) ∧ factB l i = true := by
  unfold factV factB; exact ⟨by rw [if_pos (by omega), List.getD_eq_getElem?_getD, List.getElem?_eq_getElem (by omega)]; rfl, decide_eq_true (by omega)⟩
theorem ret2 {a b : Int} {x y : Bool} (h : b = a ∧ y = x) : Ending.returned (.tuple #[.int .i64 a, .bool x]) = Ending.returned (.tuple #[.int .i64 b, .bool y]) := by rw [h.1, h.2]
def ints (l : List Int) : Array Value := (l.map (Value.int .i64)).toArray
/-- A call that answers a new slice of these numbers. -/
def Gives (l : List Int) (w : World) (e : Ending) (w' : World) : Prop :=
  ∃ B, e = .returned (.slice (some ⟨B, 0, none⟩) l.length l.length) ∧ w.heap.size ≤ B ∧ B < w'.heap.size ∧ w'.heap[B]? = some (.cells (ints l) 3 (0, 0)) ∧ Below w.heap.size w w'
theorem heap_new (w : World) (o : Obj) : (w.alloc o).heap[w.heap.size]? = some o := by
  show (w.heap.push o)[w.heap.size]? = _
  simp
theorem heap_at (w : World) (o : Obj) (n : Nat) (h : n = w.heap.size) : (w.alloc o).heap[n]? = some o := by
  rw [h]; exact heap_new w o
theorem cell_of (w : World) (B : Nat) (cs : Array Value) (t : Nat) (h : w.heap[B]? = some (.cells cs t (0, 0))) (i : Nat) : w.cell? ⟨B, i, none⟩ = cs[i]? := by
  simp [World.cell?, h]
theorem ints_at (l : List Int) (i : Nat) (h : i < l.length) : (ints l)[i]? = some (.int .i64 (l.getD i 0)) := by
  simp [ints, h]
theorem sum_snoc (l : List Int) (k : Nat) (h : k < l.length) : (l.take (k + 1)).sum = (l.take k).sum + l.getD k 0 := by
  rw [List.take_succ_eq_append_getElem h, List.sum_append, List.getD_eq_getElem?_getD, List.getElem?_eq_getElem h]
  simp
theorem sum_bd (l : List Int) (hx : ∀ x ∈ l, 0 ≤ x ∧ x ≤ 1000000) : 0 ≤ l.sum ∧ l.sum ≤ 1000000 * l.length := by
  induction l with
  | nil => simp
  | cons a l ih =>
    have h1 := hx a (by simp)
    have h2 := ih (fun x hm => hx x (by simp [hm]))
    simp only [List.sum_cons, List.length_cons]
    omega
/-- Small numbers: no sum of them wraps. -/
def Small (l : List Int) : Prop := l.length ≤ 6 ∧ ∀ x ∈ l, 0 ≤ x ∧ x ≤ 1000000
theorem Small.take {l : List Int} (h : Small l) (k : Nat) : 0 ≤ (l.take k).sum ∧ (l.take k).sum ≤ 6000000 := by
  have := sum_bd (l.take k) (fun x hm => h.2 x (List.mem_of_mem_take hm))
  have h2 : (l.take k).length ≤ 6 := Nat.le_trans (List.length_take_le' _ _) h.1
  omega
theorem Small.at {l : List Int} (h : Small l) (k : Nat) : 0 ≤ l.getD k 0 ∧ l.getD k 0 ≤ 1000000 := by
  by_cases hk : k < l.length
  · rw [List.getD_eq_getElem?_getD, List.getElem?_eq_getElem hk]
    exact h.2 _ (List.getElem_mem hk)
  · rw [List.getD_eq_getElem?_getD, List.getElem?_eq_none (by omega)]
    simp

theorem idxS0 : ∀ w, (Instr.index 65 (.agg #[.int .i64 4000, .int .i64 7000]) (.int .i64 0)).run Tryd.prog w = .ok (.int .i64 4000) w := fun _ => by kernel_rfl
theorem idxS1 : ∀ w, (Instr.index 65 (.agg #[.int .i64 4000, .int .i64 7000]) (.int .i64 1)).run Tryd.prog w = .ok (.int .i64 7000) w := fun _ => by kernel_rfl
theorem idxP0 : ∀ w, (Instr.index 65 (.agg #[.int .i64 500, .int .i64 900]) (.int .i64 0)).run Tryd.prog w = .ok (.int .i64 500) w := fun _ => by kernel_rfl
theorem idxP1 : ∀ w, (Instr.index 65 (.agg #[.int .i64 500, .int .i64 900]) (.int .i64 1)).run Tryd.prog w = .ok (.int .i64 900) w := fun _ => by kernel_rfl
set_option maxRecDepth 100000 in
theorem pair55 (w : World) : Calls Tryd.prog 55 #[] w fun e w' => e = .returned (.agg #[.int .i64 4000, .int .i64 7000]) ∧ w' = w.alloc (.cells #[.int .i64 4000, .int .i64 7000] 65) := by
  have i0 := idxS0
  have i1 := idxS1
  have i2 := idxP0
  have i3 := idxP1
  go_enter Tryd.func55, Tryd.ntmps55
  go_wp2_with fail
  exact bodyPost_ret (v := .agg #[.int .i64 4000, .int .i64 7000]) (by simp [results, Tryd.results55, go_sem]) rfl ⟨rfl, rfl⟩

set_option maxRecDepth 100000 in
theorem pair36 (w : World) : Calls Tryd.prog 36 #[] w fun e w' => e = .returned (.agg #[.int .i64 4000, .int .i64 7000]) ∧ w' = (w.alloc (.cells #[.int .i64 4000, .int .i64 7000] 65)).alloc (.cells #[.int .i64 4000, .int .i64 7000] 65) := by
  have i0 := idxS0
  have i1 := idxS1
  have i2 := idxP0
  have i3 := idxP1
  go_enter Tryd.func36, Tryd.ntmps36
  go_wp2_with (go_at_call 55; refine (pair55 _).mono ?_; rintro e w' ⟨rfl, rfl⟩)
  exact bodyPost_ret (v := .agg #[.int .i64 4000, .int .i64 7000]) (by simp [results, Tryd.results36, go_sem]) rfl ⟨rfl, rfl⟩

set_option maxRecDepth 100000 in
theorem pair56 (w : World) : Calls Tryd.prog 56 #[] w fun e w' => e = .returned (.agg #[.int .i64 500, .int .i64 900]) ∧ w' = ((((w.alloc (.cells #[.int .i64 500, .int .i64 900] 65)).alloc (.cells #[.int .i64 4000, .int .i64 7000] 65)).alloc (.cells #[.int .i64 4000, .int .i64 7000] 65)).alloc (.cells #[.int .i64 4000, .int .i64 7000] 65)).alloc (.cells #[.int .i64 4000, .int .i64 7000] 65) := by
  have i0 := idxS0
  have i1 := idxS1
  have i2 := idxP0
  have i3 := idxP1
  go_enter Tryd.func56, Tryd.ntmps56
  go_wp2_with (go_at_call 36; refine (pair36 _).mono ?_; rintro e w' ⟨rfl, rfl⟩)
  exact bodyPost_ret (v := .agg #[.int .i64 500, .int .i64 900]) (by simp [results, Tryd.results56, go_sem]) rfl ⟨rfl, rfl⟩

set_option maxRecDepth 100000 in
theorem pair37 (w : World) : Calls Tryd.prog 37 #[] w fun e w' => e = .returned (.agg #[.int .i64 500, .int .i64 900]) ∧ w' = (((((w.alloc (.cells #[.int .i64 500, .int .i64 900] 65)).alloc (.cells #[.int .i64 500, .int .i64 900] 65)).alloc (.cells #[.int .i64 4000, .int .i64 7000] 65)).alloc (.cells #[.int .i64 4000, .int .i64 7000] 65)).alloc (.cells #[.int .i64 4000, .int .i64 7000] 65)).alloc (.cells #[.int .i64 4000, .int .i64 7000] 65) := by
  have i0 := idxS0
  have i1 := idxS1
  have i2 := idxP0
  have i3 := idxP1
  go_enter Tryd.func37, Tryd.ntmps37
  go_wp2_with (go_at_call 56; refine (pair56 _).mono ?_; rintro e w' ⟨rfl, rfl⟩)
  exact bodyPost_ret (v := .agg #[.int .i64 500, .int .i64 900]) (by simp [results, Tryd.results37, go_sem]) rfl ⟨rfl, rfl⟩

theorem pairB36 (w : World) : Calls Tryd.prog 36 #[] w fun e w' => e = .returned (.agg #[.int .i64 4000, .int .i64 7000]) ∧ Below w.heap.size w w' :=
  (pair36 w).mono fun e w' ⟨he, hw⟩ => ⟨he, by rw [hw]; ((repeat (first | exact Below.refl _ _ | apply Below.alloc)); all_goals (simp; try omega))⟩

theorem pairB37 (w : World) : Calls Tryd.prog 37 #[] w fun e w' => e = .returned (.agg #[.int .i64 500, .int .i64 900]) ∧ Below w.heap.size w w' :=
  (pair37 w).mono fun e w' ⟨he, hw⟩ => ⟨he, by rw [hw]; ((repeat (first | exact Below.refl _ _ | apply Below.alloc)); all_goals (simp; try omega))⟩

set_option maxRecDepth 100000 in
theorem clos0 (w : World) (hv : Vars w) : Calls Tryd.prog 47 #[] w (Gives [1000] w) := by
  obtain ⟨f0, f1, p0, t0, t1, t2, t3, t4, t5, r0, r1, r2, r3, c0⟩ := hv
  have i0 := idxS0
  have i1 := idxS1
  have i2 := idxP0
  have i3 := idxP1
  have hb : Below w.heap.size w w := Below.refl _ _
  go_enter Tryd.func47, Tryd.ntmps47
  go_wp2_with (first | (go_at_call 36; refine (pairB36 _).mono ?_; rintro e w1 ⟨rfl, hb1⟩; replace hb := hb.trans (hb1.mono hb.size); clear hb1) | (go_at_call 37; refine (pairB37 _).mono ?_; rintro e w1 ⟨rfl, hb1⟩; replace hb := hb.trans (hb1.mono hb.size); clear hb1) | go_in)
  have hsz := hb.size
  go_ret
  exact ⟨_, rfl, hsz, by simp, heap_new _ _, hb.alloc hsz _⟩
theorem call47 : ∀ w, (callFunc 47 #[]).run Tryd.prog w = .ok (.enter 47 #[]) w := fun _ => by kernel_rfl
theorem fnil47 : ∀ w, (binOp BinOp.eql 60 (.func (.func 47) #[] #[]) .nilFunc).run Tryd.prog w = .ok (.bool false) w := fun _ => by kernel_rfl

set_option maxRecDepth 100000 in
theorem clos1 (w : World) (hv : Vars w) : Calls Tryd.prog 49 #[] w (Gives [1, 1] w) := by
  obtain ⟨f0, f1, p0, t0, t1, t2, t3, t4, t5, r0, r1, r2, r3, c0⟩ := hv
  have i0 := idxS0
  have i1 := idxS1
  have i2 := idxP0
  have i3 := idxP1
  have hb : Below w.heap.size w w := Below.refl _ _
  go_enter Tryd.func49, Tryd.ntmps49
  go_wp2_with (first | (go_at_call 36; refine (pairB36 _).mono ?_; rintro e w1 ⟨rfl, hb1⟩; replace hb := hb.trans (hb1.mono hb.size); clear hb1) | (go_at_call 37; refine (pairB37 _).mono ?_; rintro e w1 ⟨rfl, hb1⟩; replace hb := hb.trans (hb1.mono hb.size); clear hb1) | go_in)
  have hsz := hb.size
  go_ret
  exact ⟨_, rfl, hsz, by simp, heap_new _ _, hb.alloc hsz _⟩
theorem call49 : ∀ w, (callFunc 49 #[]).run Tryd.prog w = .ok (.enter 49 #[]) w := fun _ => by kernel_rfl
theorem fnil49 : ∀ w, (binOp BinOp.eql 60 (.func (.func 49) #[] #[]) .nilFunc).run Tryd.prog w = .ok (.bool false) w := fun _ => by kernel_rfl

set_option maxRecDepth 100000 in
theorem clos2 (w : World) (hv : Vars w) : Calls Tryd.prog 50 #[] w (Gives [4000, 7000] w) := by
  obtain ⟨f0, f1, p0, t0, t1, t2, t3, t4, t5, r0, r1, r2, r3, c0⟩ := hv
  have i0 := idxS0
  have i1 := idxS1
  have i2 := idxP0
  have i3 := idxP1
  have hb : Below w.heap.size w w := Below.refl _ _
  go_enter Tryd.func50, Tryd.ntmps50
  go_wp2_with (first | (go_at_call 36; refine (pairB36 _).mono ?_; rintro e w1 ⟨rfl, hb1⟩; replace hb := hb.trans (hb1.mono hb.size); clear hb1) | (go_at_call 37; refine (pairB37 _).mono ?_; rintro e w1 ⟨rfl, hb1⟩; replace hb := hb.trans (hb1.mono hb.size); clear hb1) | go_in)
  have hsz := hb.size
  go_ret
  exact ⟨_, rfl, hsz, by simp, heap_new _ _, hb.alloc hsz _⟩
theorem call50 : ∀ w, (callFunc 50 #[]).run Tryd.prog w = .ok (.enter 50 #[]) w := fun _ => by kernel_rfl
theorem fnil50 : ∀ w, (binOp BinOp.eql 60 (.func (.func 50) #[] #[]) .nilFunc).run Tryd.prog w = .ok (.bool false) w := fun _ => by kernel_rfl

set_option maxRecDepth 100000 in
theorem clos3 (w : World) (hv : Vars w) : Calls Tryd.prog 51 #[] w (Gives [10000, 40000, 90000, 18000, 70000, 150000] w) := by
  obtain ⟨f0, f1, p0, t0, t1, t2, t3, t4, t5, r0, r1, r2, r3, c0⟩ := hv
  have i0 := idxS0
  have i1 := idxS1
  have i2 := idxP0
  have i3 := idxP1
  have hb : Below w.heap.size w w := Below.refl _ _
  go_enter Tryd.func51, Tryd.ntmps51
  go_wp2_with (first | (go_at_call 36; refine (pairB36 _).mono ?_; rintro e w1 ⟨rfl, hb1⟩; replace hb := hb.trans (hb1.mono hb.size); clear hb1) | (go_at_call 37; refine (pairB37 _).mono ?_; rintro e w1 ⟨rfl, hb1⟩; replace hb := hb.trans (hb1.mono hb.size); clear hb1) | go_in)
  have hsz := hb.size
  go_ret
  exact ⟨_, rfl, hsz, by simp, heap_new _ _, hb.alloc hsz _⟩
theorem call51 : ∀ w, (callFunc 51 #[]).run Tryd.prog w = .ok (.enter 51 #[]) w := fun _ => by kernel_rfl
theorem fnil51 : ∀ w, (binOp BinOp.eql 60 (.func (.func 51) #[] #[]) .nilFunc).run Tryd.prog w = .ok (.bool false) w := fun _ => by kernel_rfl

set_option maxRecDepth 100000 in
theorem clos4 (w : World) (hv : Vars w) : Calls Tryd.prog 52 #[] w (Gives [1000, 1500, 2800, 3500] w) := by
  obtain ⟨f0, f1, p0, t0, t1, t2, t3, t4, t5, r0, r1, r2, r3, c0⟩ := hv
  have i0 := idxS0
  have i1 := idxS1
  have i2 := idxP0
  have i3 := idxP1
  have hb : Below w.heap.size w w := Below.refl _ _
  go_enter Tryd.func52, Tryd.ntmps52
  go_wp2_with (first | (go_at_call 36; refine (pairB36 _).mono ?_; rintro e w1 ⟨rfl, hb1⟩; replace hb := hb.trans (hb1.mono hb.size); clear hb1) | (go_at_call 37; refine (pairB37 _).mono ?_; rintro e w1 ⟨rfl, hb1⟩; replace hb := hb.trans (hb1.mono hb.size); clear hb1) | go_in)
  have hsz := hb.size
  go_ret
  exact ⟨_, rfl, hsz, by simp, heap_new _ _, hb.alloc hsz _⟩
theorem call52 : ∀ w, (callFunc 52 #[]).run Tryd.prog w = .ok (.enter 52 #[]) w := fun _ => by kernel_rfl
theorem fnil52 : ∀ w, (binOp BinOp.eql 60 (.func (.func 52) #[] #[]) .nilFunc).run Tryd.prog w = .ok (.bool false) w := fun _ => by kernel_rfl

set_option maxRecDepth 100000 in
theorem clos5 (w : World) (hv : Vars w) : Calls Tryd.prog 53 #[] w (Gives [500, 900] w) := by
  obtain ⟨f0, f1, p0, t0, t1, t2, t3, t4, t5, r0, r1, r2, r3, c0⟩ := hv
  have i0 := idxS0
  have i1 := idxS1
  have i2 := idxP0
  have i3 := idxP1
  have hb : Below w.heap.size w w := Below.refl _ _
  go_enter Tryd.func53, Tryd.ntmps53
  go_wp2_with (first | (go_at_call 36; refine (pairB36 _).mono ?_; rintro e w1 ⟨rfl, hb1⟩; replace hb := hb.trans (hb1.mono hb.size); clear hb1) | (go_at_call 37; refine (pairB37 _).mono ?_; rintro e w1 ⟨rfl, hb1⟩; replace hb := hb.trans (hb1.mono hb.size); clear hb1) | go_in)
  have hsz := hb.size
  go_ret
  exact ⟨_, rfl, hsz, by simp, heap_new _ _, hb.alloc hsz _⟩
theorem call53 : ∀ w, (callFunc 53 #[]).run Tryd.prog w = .ok (.enter 53 #[]) w := fun _ => by kernel_rfl
theorem fnil53 : ∀ w, (binOp BinOp.eql 60 (.func (.func 53) #[] #[]) .nilFunc).run Tryd.prog w = .ok (.bool false) w := fun _ => by kernel_rfl

set_option maxRecDepth 100000 in
theorem clos6 (w : World) (hv : Vars w) : Calls Tryd.prog 54 #[] w (Gives [60000] w) := by
  obtain ⟨f0, f1, p0, t0, t1, t2, t3, t4, t5, r0, r1, r2, r3, c0⟩ := hv
  have i0 := idxS0
  have i1 := idxS1
  have i2 := idxP0
  have i3 := idxP1
  have hb : Below w.heap.size w w := Below.refl _ _
  go_enter Tryd.func54, Tryd.ntmps54
  go_wp2_with (first | (go_at_call 36; refine (pairB36 _).mono ?_; rintro e w1 ⟨rfl, hb1⟩; replace hb := hb.trans (hb1.mono hb.size); clear hb1) | (go_at_call 37; refine (pairB37 _).mono ?_; rintro e w1 ⟨rfl, hb1⟩; replace hb := hb.trans (hb1.mono hb.size); clear hb1) | go_in)
  have hsz := hb.size
  go_ret
  exact ⟨_, rfl, hsz, by simp, heap_new _ _, hb.alloc hsz _⟩
theorem call54 : ∀ w, (callFunc 54 #[]).run Tryd.prog w = .ok (.enter 54 #[]) w := fun _ => by kernel_rfl
theorem fnil54 : ∀ w, (binOp BinOp.eql 60 (.func (.func 54) #[] #[]) .nilFunc).run Tryd.prog w = .ok (.bool false) w := fun _ => by kernel_rfl

theorem fnil : ∀ w, (binOp BinOp.eql 60 .nilFunc .nilFunc).run Tryd.prog w = .ok (.bool true) w := fun _ => by kernel_rfl
set_option maxRecDepth 100000 in
theorem fact_lo (s : ByteArray) (f : FuncId) (l : List Int) (i : Int) (w : World) (hv : Vars w)
    (hlook : (Instr.lookup 61 (.map (some w.heap.size)) (.string s) false).run Tryd.prog (w.alloc (.map ents7 7)) = .ok (.func (.func f) #[] #[]) (w.alloc (.map ents7 7)))
    (hfn : ∀ w, (binOp BinOp.eql 60 (.func (.func f) #[] #[]) .nilFunc).run Tryd.prog w = .ok (.bool false) w)
    (hcall : ∀ w, (callFunc f #[]).run Tryd.prog w = .ok (.enter f #[]) w)
    (hclos : ∀ w, Vars w → Calls Tryd.prog f #[] w (Gives l w)) (hi : i < 0) :
    Calls Tryd.prog 8 #[.string s, .int .i64 i] w fun e w' => e = .returned (.tuple #[.int .i64 (factV l i), .bool (factB l i)]) ∧ Below w.heap.size w w' := by
  have hv1 := hv.below ((Below.refl _ w).alloc (Nat.le_refl _) (.map ents7 7))
  have hX : Hid _ := factV_lo l i hi
  go_enter Tryd.func8, Tryd.ntmps8
  go_wp2_with (go_at_call 29; refine (facts_any _).mono ?_; rintro e w' ⟨rfl, rfl⟩)
  refine (hclos _ hv1).mono ?_
  rintro e w' ⟨B, rfl, hB, hs, hh, hb⟩
  clear hlook hfn hcall hclos hv1 hv hh
  go_wp2
  go_ret2
  exact ⟨ret2 hX.out, ((Below.refl _ w).alloc (Nat.le_refl _) _).trans (hb.mono (by simp))⟩
set_option maxRecDepth 100000 in
theorem rfact_lo (s : ByteArray) (l : List Int) (i : Int) (w : World)
    (hnum : Calls Tryd.prog 30 #[.string s] w (Gives l w)) (hi : i < 0) :
    Calls Tryd.prog 9 #[.string s, .int .i64 i] w fun e w' => e = .returned (.tuple #[.int .i64 (factV l i), .bool (factB l i)]) ∧ Below w.heap.size w w' := by
  have hX : Hid _ := factV_lo l i hi
  go_enter Tryd.func9, Tryd.ntmps9
  go_wp2_with fail
  refine hnum.mono ?_
  rintro e w' ⟨B, rfl, hB, hs, hh, hb⟩
  clear hnum hh
  go_wp2
  go_ret2
  exact ⟨ret2 hX.out, hb⟩
set_option maxRecDepth 100000 in
theorem fact_hi (s : ByteArray) (f : FuncId) (l : List Int) (i : Int) (w : World) (hv : Vars w)
    (hlook : (Instr.lookup 61 (.map (some w.heap.size)) (.string s) false).run Tryd.prog (w.alloc (.map ents7 7)) = .ok (.func (.func f) #[] #[]) (w.alloc (.map ents7 7)))
    (hfn : ∀ w, (binOp BinOp.eql 60 (.func (.func f) #[] #[]) .nilFunc).run Tryd.prog w = .ok (.bool false) w)
    (hcall : ∀ w, (callFunc f #[]).run Tryd.prog w = .ok (.enter f #[]) w)
    (hclos : ∀ w, Vars w → Calls Tryd.prog f #[] w (Gives l w)) (_hn : l.length ≤ 6) (hi : (l.length : Int) ≤ i) :
    Calls Tryd.prog 8 #[.string s, .int .i64 i] w fun e w' => e = .returned (.tuple #[.int .i64 (factV l i), .bool (factB l i)]) ∧ Below w.heap.size w w' := by
  have hv1 := hv.below ((Below.refl _ w).alloc (Nat.le_refl _) (.map ents7 7))
  have hX : Hid _ := factV_hi l i hi
  have hj : ¬ i < (l.length : Int) := by omega
  go_enter Tryd.func8, Tryd.ntmps8
  go_wp2_with (go_at_call 29; refine (facts_any _).mono ?_; rintro e w' ⟨rfl, rfl⟩)
  refine (hclos _ hv1).mono ?_
  rintro e w' ⟨B, rfl, hB, hs, hh, hb⟩
  clear hlook hfn hcall hclos hv1 hv hh
  go_wp2
  go_ret2
  exact ⟨ret2 hX.out, ((Below.refl _ w).alloc (Nat.le_refl _) _).trans (hb.mono (by simp))⟩
set_option maxRecDepth 100000 in
theorem rfact_hi (s : ByteArray) (l : List Int) (i : Int) (w : World)
    (hnum : Calls Tryd.prog 30 #[.string s] w (Gives l w)) (_hn : l.length ≤ 6) (hi : (l.length : Int) ≤ i) :
    Calls Tryd.prog 9 #[.string s, .int .i64 i] w fun e w' => e = .returned (.tuple #[.int .i64 (factV l i), .bool (factB l i)]) ∧ Below w.heap.size w w' := by
  have hX : Hid _ := factV_hi l i hi
  have hj : ¬ i < (l.length : Int) := by omega
  go_enter Tryd.func9, Tryd.ntmps9
  go_wp2_with fail
  refine hnum.mono ?_
  rintro e w' ⟨B, rfl, hB, hs, hh, hb⟩
  clear hnum hh
  go_wp2
  go_ret2
  exact ⟨ret2 hX.out, hb⟩
set_option maxRecDepth 100000 in
theorem fact_in (s : ByteArray) (f : FuncId) (l : List Int) (i : Int) (w : World) (hv : Vars w)
    (hlook : (Instr.lookup 61 (.map (some w.heap.size)) (.string s) false).run Tryd.prog (w.alloc (.map ents7 7)) = .ok (.func (.func f) #[] #[]) (w.alloc (.map ents7 7)))
    (hfn : ∀ w, (binOp BinOp.eql 60 (.func (.func f) #[] #[]) .nilFunc).run Tryd.prog w = .ok (.bool false) w)
    (hcall : ∀ w, (callFunc f #[]).run Tryd.prog w = .ok (.enter f #[]) w)
    (hclos : ∀ w, Vars w → Calls Tryd.prog f #[] w (Gives l w)) (_hn : l.length ≤ 6) (h0 : 0 ≤ i) (hi : i < (l.length : Int)) :
    Calls Tryd.prog 8 #[.string s, .int .i64 i] w fun e w' => e = .returned (.tuple #[.int .i64 (factV l i), .bool (factB l i)]) ∧ Below w.heap.size w w' := by
  have hv1 := hv.below ((Below.refl _ w).alloc (Nat.le_refl _) (.map ents7 7))
  have hX : Hid _ := factV_in l i h0 hi
  go_enter Tryd.func8, Tryd.ntmps8
  go_wp2_with (go_at_call 29; refine (facts_any _).mono ?_; rintro e w' ⟨rfl, rfl⟩)
  refine (hclos _ hv1).mono ?_
  rintro e w' ⟨B, rfl, hB, hs, hh, hb⟩
  have hci : w'.cell? ⟨B, i.toNat, none⟩ = some (.int .i64 (l.getD i.toNat 0)) := (cell_of w' B _ _ hh _).trans (ints_at l _ (by omega))
  clear hlook hfn hcall hclos hv1 hv hh
  go_wp2
  go_ret2
  exact ⟨ret2 hX.out, ((Below.refl _ w).alloc (Nat.le_refl _) _).trans (hb.mono (by simp))⟩
set_option maxRecDepth 100000 in
theorem rfact_in (s : ByteArray) (l : List Int) (i : Int) (w : World)
    (hnum : Calls Tryd.prog 30 #[.string s] w (Gives l w)) (_hn : l.length ≤ 6) (h0 : 0 ≤ i) (hi : i < (l.length : Int)) :
    Calls Tryd.prog 9 #[.string s, .int .i64 i] w fun e w' => e = .returned (.tuple #[.int .i64 (factV l i), .bool (factB l i)]) ∧ Below w.heap.size w w' := by
  have hX : Hid _ := factV_in l i h0 hi
  go_enter Tryd.func9, Tryd.ntmps9
  go_wp2_with fail
  refine hnum.mono ?_
  rintro e w' ⟨B, rfl, hB, hs, hh, hb⟩
  have hci : w'.cell? ⟨B, i.toNat, none⟩ = some (.int .i64 (l.getD i.toNat 0)) := (cell_of w' B _ _ hh _).trans (ints_at l _ (by omega))
  clear hnum hh
  go_wp2
  go_ret2
  exact ⟨ret2 hX.out, hb⟩
set_option maxRecDepth 100000 in
theorem fact_none (s : ByteArray) (i : Int) (w : World)
    (hlook : (Instr.lookup 61 (.map (some w.heap.size)) (.string s) false).run Tryd.prog (w.alloc (.map ents7 7)) = .ok .nilFunc (w.alloc (.map ents7 7))) :
    Calls Tryd.prog 8 #[.string s, .int .i64 i] w fun e w' => e = .returned (.tuple #[.int .i64 (factV [] i), .bool (factB [] i)]) ∧ Below w.heap.size w w' := by
  have hfn := fnil
  have hX : Hid (factV [] i = 0 ∧ factB [] i = false) := by
    show _ ∧ _
    unfold factV factB
    exact ⟨if_neg (by simp), decide_eq_false (by simp)⟩
  go_enter Tryd.func8, Tryd.ntmps8
  go_wp2_with (go_at_call 29; refine (facts_any _).mono ?_; rintro e w' ⟨rfl, rfl⟩)
  go_ret2
  exact ⟨ret2 hX.out, ((Below.refl _ w).alloc (Nat.le_refl _) _)⟩

set_option maxRecDepth 100000 in
theorem sum_in (s : ByteArray) (f : FuncId) (l : List Int) (w : World) (hv : Vars w)
    (hlook : (Instr.lookup 61 (.map (some w.heap.size)) (.string s) false).run Tryd.prog (w.alloc (.map ents7 7)) = .ok (.func (.func f) #[] #[]) (w.alloc (.map ents7 7)))
    (hfn : ∀ w, (binOp BinOp.eql 60 (.func (.func f) #[] #[]) .nilFunc).run Tryd.prog w = .ok (.bool false) w)
    (hcall : ∀ w, (callFunc f #[]).run Tryd.prog w = .ok (.enter f #[]) w)
    (hclos : ∀ w, Vars w → Calls Tryd.prog f #[] w (Gives l w)) (hl : Small l) :
    Calls Tryd.prog 10 #[.string s] w fun e w' => e = .returned (.tuple #[.int .i64 l.sum, .bool true]) ∧ Below w.heap.size w w' := by
  have hv1 := hv.below ((Below.refl _ w).alloc (Nat.le_refl _) (.map ents7 7))
  have hl6 := hl.1
  have hL : Hid (Small l) := hl
  clear hl
  go_enter Tryd.func10, Tryd.ntmps10
  go_wp2_with (go_at_call 29; refine (facts_any _).mono ?_; rintro e w' ⟨rfl, rfl⟩)
  refine (hclos _ hv1).mono ?_
  rintro e w' ⟨B, rfl, hB, hs, hh, hb⟩
  have hC : Hid (∀ k : Nat, k < l.length → w'.cell? ⟨B, k, none⟩ = some (.int .i64 (l.getD k 0))) := fun k hk => (cell_of w' B _ _ hh _).trans (ints_at l _ hk)
  clear hlook hfn hcall hclos hv1 hv hh
  go_wp2
  go_loop [5, 16] (fun t i => ∃ k : Nat, k ≤ l.length ∧ i = .int .i64 k ∧ t = .int .i64 (l.take k).sum) (fun _ i => l.length - (intOf i).toNat)
  case atStart => exact ⟨0, Nat.zero_le _, rfl, rfl⟩
  case round =>
    obtain ⟨k, hk, rfl, rfl⟩ := hrel
    obtain ⟨b1, b2⟩ := hL.out.take k
    by_cases hlt : k < l.length
    · obtain ⟨b3, b4⟩ := hL.out.at k
      have hc := hC.out k hlt
      have hS : Hid _ := sum_snoc l k hlt
      generalize l.getD k 0 = x at *
      go_wp2
      go_round
      case rel => exact ⟨k + 1, by omega, by go_num, by rw [hS.out]⟩
      case measure => simp [intOf]; omega
    · go_wp2
      go_ret2
      exact ⟨ret2 ⟨by rw [List.take_of_length_le (by omega)], rfl⟩, ((Below.refl _ w).alloc (Nat.le_refl _) _).trans (hb.mono (by simp))⟩

end Go.Proofs.YtakbkdimknnopaaDoor
