/- Fact, Sum of the program and of the reference as one function of the name; the chapter's example; the names; the factor. -/
import Derived.Test.YtakbkdimknnopaaDoorB
import Derived.BigQuiet
import Derived.Deep.QuietTactic
namespace Go.Proofs.YtakbkdimknnopaaDoor
open Go.RowKit

set_option maxRecDepth 100000 in
theorem num0 (w : World) : Calls Tryd.prog 30 #[.string ⟨#[99, 112, 105]⟩] w (Gives [1000] w) := by
  go_enter Tryd.func30, Tryd.ntmps30
  go_wp2
  go_ret
  exact ⟨_, rfl, Nat.le_refl _, by simp, heap_new _ _, (Below.refl _ _).alloc (Nat.le_refl _) _⟩
theorem small0 : Small [1000] := by unfold Small; decide
theorem nums0 : nums ⟨#[99, 112, 105]⟩ = [1000] := by decide

set_option maxRecDepth 100000 in
theorem num1 (w : World) : Calls Tryd.prog 30 #[.string ⟨#[102, 97, 99, 116, 111, 114]⟩] w (Gives [1, 1] w) := by
  go_enter Tryd.func30, Tryd.ntmps30
  go_wp2
  go_ret
  exact ⟨_, rfl, Nat.le_refl _, by simp, heap_new _ _, (Below.refl _ _).alloc (Nat.le_refl _) _⟩
theorem small1 : Small [1, 1] := by unfold Small; decide
theorem nums1 : nums ⟨#[102, 97, 99, 116, 111, 114]⟩ = [1, 1] := by decide

set_option maxRecDepth 100000 in
theorem num2 (w : World) : Calls Tryd.prog 30 #[.string ⟨#[115, 116, 97, 110, 100, 97, 114, 100]⟩] w (Gives [4000, 7000] w) := by
  go_enter Tryd.func30, Tryd.ntmps30
  go_wp2
  go_ret
  exact ⟨_, rfl, Nat.le_refl _, by simp, heap_new _ _, (Below.refl _ _).alloc (Nat.le_refl _) _⟩
theorem small2 : Small [4000, 7000] := by unfold Small; decide
theorem nums2 : nums ⟨#[115, 116, 97, 110, 100, 97, 114, 100]⟩ = [4000, 7000] := by decide

set_option maxRecDepth 100000 in
theorem num3 (w : World) : Calls Tryd.prog 30 #[.string ⟨#[116, 111, 112]⟩] w (Gives [10000, 40000, 90000, 18000, 70000, 150000] w) := by
  go_enter Tryd.func30, Tryd.ntmps30
  go_wp2
  go_ret
  exact ⟨_, rfl, Nat.le_refl _, by simp, heap_new _ _, (Below.refl _ _).alloc (Nat.le_refl _) _⟩
theorem small3 : Small [10000, 40000, 90000, 18000, 70000, 150000] := by unfold Small; decide
theorem nums3 : nums ⟨#[116, 111, 112]⟩ = [10000, 40000, 90000, 18000, 70000, 150000] := by decide

set_option maxRecDepth 100000 in
theorem num4 (w : World) : Calls Tryd.prog 30 #[.string ⟨#[114, 97, 116, 101]⟩] w (Gives [1000, 1500, 2800, 3500] w) := by
  go_enter Tryd.func30, Tryd.ntmps30
  go_wp2
  go_ret
  exact ⟨_, rfl, Nat.le_refl _, by simp, heap_new _ _, (Below.refl _ _).alloc (Nat.le_refl _) _⟩
theorem small4 : Small [1000, 1500, 2800, 3500] := by unfold Small; decide
theorem nums4 : nums ⟨#[114, 97, 116, 101]⟩ = [1000, 1500, 2800, 3500] := by decide

set_option maxRecDepth 100000 in
theorem num5 (w : World) : Calls Tryd.prog 30 #[.string ⟨#[99, 114, 101, 100, 105, 116]⟩] w (Gives [500, 900] w) := by
  go_enter Tryd.func30, Tryd.ntmps30
  go_wp2
  go_ret
  exact ⟨_, rfl, Nat.le_refl _, by simp, heap_new _ _, (Below.refl _ _).alloc (Nat.le_refl _) _⟩
theorem small5 : Small [500, 900] := by unfold Small; decide
theorem nums5 : nums ⟨#[99, 114, 101, 100, 105, 116]⟩ = [500, 900] := by decide

set_option maxRecDepth 100000 in
theorem num6 (w : World) : Calls Tryd.prog 30 #[.string ⟨#[112, 104, 97, 115, 101]⟩] w (Gives [60000] w) := by
  go_enter Tryd.func30, Tryd.ntmps30
  go_wp2
  go_ret
  exact ⟨_, rfl, Nat.le_refl _, by simp, heap_new _ _, (Below.refl _ _).alloc (Nat.le_refl _) _⟩
theorem small6 : Small [60000] := by unfold Small; decide
theorem nums6 : nums ⟨#[112, 104, 97, 115, 101]⟩ = [60000] := by decide

theorem tne {s : ByteArray} {a : Array UInt8} (h : s ≠ ⟨a⟩) : (s.toList == a.toList) = false := by
  cases e : (s.toList == a.toList) with
  | false => rfl
  | true =>
    refine absurd ?_ h
    have h2 := eq_of_beq e
    rw [ByteArray.toList_eq] at h2
    cases s
    exact congrArg ByteArray.mk (Array.ext' h2)

set_option maxRecDepth 100000 in
theorem num_none (w : World) (s : ByteArray) (h0 : s ≠ ⟨#[99, 112, 105]⟩) (h1 : s ≠ ⟨#[102, 97, 99, 116, 111, 114]⟩) (h2 : s ≠ ⟨#[115, 116, 97, 110, 100, 97, 114, 100]⟩) (h3 : s ≠ ⟨#[116, 111, 112]⟩) (h4 : s ≠ ⟨#[114, 97, 116, 101]⟩) (h5 : s ≠ ⟨#[99, 114, 101, 100, 105, 116]⟩) (h6 : s ≠ ⟨#[112, 104, 97, 115, 101]⟩) : Calls Tryd.prog 30 #[.string s] w fun e w' => e = .returned (.slice none 0 0) ∧ w' = w := by
  have k0 : (s.toList == [99, 112, 105]) = false := tne h0
  have k1 : (s.toList == [102, 97, 99, 116, 111, 114]) = false := tne h1
  have k2 : (s.toList == [115, 116, 97, 110, 100, 97, 114, 100]) = false := tne h2
  have k3 : (s.toList == [116, 111, 112]) = false := tne h3
  have k4 : (s.toList == [114, 97, 116, 101]) = false := tne h4
  have k5 : (s.toList == [99, 114, 101, 100, 105, 116]) = false := tne h5
  have k6 : (s.toList == [112, 104, 97, 115, 101]) = false := tne h6
  clear h0 h1 h2 h3 h4 h5 h6
  go_enter Tryd.func30, Tryd.ntmps30
  go_wp2
  go_ret
  exact ⟨rfl, rfl⟩

theorem nums_none {s : ByteArray} (h0 : s ≠ ⟨#[99, 112, 105]⟩) (h1 : s ≠ ⟨#[102, 97, 99, 116, 111, 114]⟩) (h2 : s ≠ ⟨#[115, 116, 97, 110, 100, 97, 114, 100]⟩) (h3 : s ≠ ⟨#[116, 111, 112]⟩) (h4 : s ≠ ⟨#[114, 97, 116, 101]⟩) (h5 : s ≠ ⟨#[99, 114, 101, 100, 105, 116]⟩) (h6 : s ≠ ⟨#[112, 104, 97, 115, 101]⟩) : nums s = [] := by simp [nums, h0, h1, h2, h3, h4, h5, h6]
theorem fact_gen (s : ByteArray) (f : FuncId) (l : List Int) (i : Int) (w : World) (hv : Vars w)
    (hlook : (Instr.lookup 61 (.map (some w.heap.size)) (.string s) false).run Tryd.prog (w.alloc (.map ents7 7)) = .ok (.func (.func f) #[] #[]) (w.alloc (.map ents7 7)))
    (hfn : ∀ w, (binOp BinOp.eql 60 (.func (.func f) #[] #[]) .nilFunc).run Tryd.prog w = .ok (.bool false) w)
    (hcall : ∀ w, (callFunc f #[]).run Tryd.prog w = .ok (.enter f #[]) w)
    (hclos : ∀ w, Vars w → Calls Tryd.prog f #[] w (Gives l w)) (hl : Small l) :
    Calls Tryd.prog 8 #[.string s, .int .i64 i] w fun e w' => e = .returned (.tuple #[.int .i64 (factV l i), .bool (factB l i)]) ∧ Below w.heap.size w w' := by
  rcases (show i < 0 ∨ (l.length : Int) ≤ i ∨ 0 ≤ i ∧ i < (l.length : Int) by omega) with h | h | ⟨h0, h⟩
  · exact fact_lo s f l i w hv hlook hfn hcall hclos h
  · exact fact_hi s f l i w hv hlook hfn hcall hclos hl.1 h
  · exact fact_in s f l i w hv hlook hfn hcall hclos hl.1 h0 h
theorem rfact_gen (s : ByteArray) (l : List Int) (i : Int) (w : World) (hnum : Calls Tryd.prog 30 #[.string s] w (Gives l w)) (hl : Small l) :
    Calls Tryd.prog 9 #[.string s, .int .i64 i] w fun e w' => e = .returned (.tuple #[.int .i64 (factV l i), .bool (factB l i)]) ∧ Below w.heap.size w w' := by
  rcases (show i < 0 ∨ (l.length : Int) ≤ i ∨ 0 ≤ i ∧ i < (l.length : Int) by omega) with h | h | ⟨h0, h⟩
  · exact rfact_lo s l i w hnum h
  · exact rfact_hi s l i w hnum hl.1 h
  · exact rfact_in s l i w hnum hl.1 h0 h
theorem fact_all (s : ByteArray) (i : Int) (w : World) (hv : Vars w) :
    Calls Tryd.prog 8 #[.string s, .int .i64 i] w fun e w' => e = .returned (.tuple #[.int .i64 (factV (nums s) i), .bool (factB (nums s) i)]) ∧ Below w.heap.size w w' := by
  by_cases h0 : s = ⟨#[99, 112, 105]⟩
  · subst h0; rw [nums0]
    exact fact_gen _ 47 _ i w hv (look0 w) fnil47 call47 clos0 small0
  by_cases h1 : s = ⟨#[102, 97, 99, 116, 111, 114]⟩
  · subst h1; rw [nums1]
    exact fact_gen _ 49 _ i w hv (look1 w) fnil49 call49 clos1 small1
  by_cases h2 : s = ⟨#[115, 116, 97, 110, 100, 97, 114, 100]⟩
  · subst h2; rw [nums2]
    exact fact_gen _ 50 _ i w hv (look2 w) fnil50 call50 clos2 small2
  by_cases h3 : s = ⟨#[116, 111, 112]⟩
  · subst h3; rw [nums3]
    exact fact_gen _ 51 _ i w hv (look3 w) fnil51 call51 clos3 small3
  by_cases h4 : s = ⟨#[114, 97, 116, 101]⟩
  · subst h4; rw [nums4]
    exact fact_gen _ 52 _ i w hv (look4 w) fnil52 call52 clos4 small4
  by_cases h5 : s = ⟨#[99, 114, 101, 100, 105, 116]⟩
  · subst h5; rw [nums5]
    exact fact_gen _ 53 _ i w hv (look5 w) fnil53 call53 clos5 small5
  by_cases h6 : s = ⟨#[112, 104, 97, 115, 101]⟩
  · subst h6; rw [nums6]
    exact fact_gen _ 54 _ i w hv (look6 w) fnil54 call54 clos6 small6
  rw [nums_none h0 h1 h2 h3 h4 h5 h6]
  exact fact_none s i w (look_none w s h0 h1 h2 h3 h4 h5 h6)
set_option maxRecDepth 100000 in
theorem rfact_none (s : ByteArray) (i : Int) (w : World) (hnum : Calls Tryd.prog 30 #[.string s] w fun e w' => e = .returned (.slice none 0 0) ∧ w' = w) :
    Calls Tryd.prog 9 #[.string s, .int .i64 i] w fun e w' => e = .returned (.tuple #[.int .i64 (factV [] i), .bool (factB [] i)]) ∧ Below w.heap.size w w' := by
  have hX : Hid (factV [] i = 0 ∧ factB [] i = false) := by
    show _ ∧ _
    unfold factV factB
    exact ⟨if_neg (by simp), decide_eq_false (by simp)⟩
  go_enter Tryd.func9, Tryd.ntmps9
  go_wp2_with fail
  refine hnum.mono ?_
  rintro e w' ⟨rfl, rfl⟩
  clear hnum
  by_cases h : i < 0
  · go_wp2
    go_ret2
    exact ⟨ret2 hX.out, Below.refl _ _⟩
  · go_wp2
    go_ret2
    exact ⟨ret2 hX.out, Below.refl _ _⟩
theorem rfact_all (s : ByteArray) (i : Int) (w : World) :
    Calls Tryd.prog 9 #[.string s, .int .i64 i] w fun e w' => e = .returned (.tuple #[.int .i64 (factV (nums s) i), .bool (factB (nums s) i)]) ∧ Below w.heap.size w w' := by
  by_cases h0 : s = ⟨#[99, 112, 105]⟩
  · subst h0; rw [nums0]
    exact rfact_gen _ _ i w (num0 w) small0
  by_cases h1 : s = ⟨#[102, 97, 99, 116, 111, 114]⟩
  · subst h1; rw [nums1]
    exact rfact_gen _ _ i w (num1 w) small1
  by_cases h2 : s = ⟨#[115, 116, 97, 110, 100, 97, 114, 100]⟩
  · subst h2; rw [nums2]
    exact rfact_gen _ _ i w (num2 w) small2
  by_cases h3 : s = ⟨#[116, 111, 112]⟩
  · subst h3; rw [nums3]
    exact rfact_gen _ _ i w (num3 w) small3
  by_cases h4 : s = ⟨#[114, 97, 116, 101]⟩
  · subst h4; rw [nums4]
    exact rfact_gen _ _ i w (num4 w) small4
  by_cases h5 : s = ⟨#[99, 114, 101, 100, 105, 116]⟩
  · subst h5; rw [nums5]
    exact rfact_gen _ _ i w (num5 w) small5
  by_cases h6 : s = ⟨#[112, 104, 97, 115, 101]⟩
  · subst h6; rw [nums6]
    exact rfact_gen _ _ i w (num6 w) small6
  rw [nums_none h0 h1 h2 h3 h4 h5 h6]
  exact rfact_none s i w (num_none w s h0 h1 h2 h3 h4 h5 h6)
def sumB (l : List Int) : Bool := decide (0 < l.length)
theorem sum_none (s : ByteArray) (w : World)
    (hlook : (Instr.lookup 61 (.map (some w.heap.size)) (.string s) false).run Tryd.prog (w.alloc (.map ents7 7)) = .ok .nilFunc (w.alloc (.map ents7 7))) :
    Calls Tryd.prog 10 #[.string s] w fun e w' => e = .returned (.tuple #[.int .i64 0, .bool false]) ∧ Below w.heap.size w w' := by
  have hfn := fnil
  go_enter Tryd.func10, Tryd.ntmps10
  go_wp2_with (go_at_call 29; refine (facts_any _).mono ?_; rintro e w' ⟨rfl, rfl⟩)
  go_ret2
  exact ⟨rfl, ((Below.refl _ w).alloc (Nat.le_refl _) _)⟩
theorem sum_all (s : ByteArray) (w : World) (hv : Vars w) :
    Calls Tryd.prog 10 #[.string s] w fun e w' => e = .returned (.tuple #[.int .i64 (nums s).sum, .bool (sumB (nums s))]) ∧ Below w.heap.size w w' := by
  by_cases h0 : s = ⟨#[99, 112, 105]⟩
  · subst h0; rw [nums0]
    exact sum_in _ 47 _ w hv (look0 w) fnil47 call47 clos0 small0
  by_cases h1 : s = ⟨#[102, 97, 99, 116, 111, 114]⟩
  · subst h1; rw [nums1]
    exact sum_in _ 49 _ w hv (look1 w) fnil49 call49 clos1 small1
  by_cases h2 : s = ⟨#[115, 116, 97, 110, 100, 97, 114, 100]⟩
  · subst h2; rw [nums2]
    exact sum_in _ 50 _ w hv (look2 w) fnil50 call50 clos2 small2
  by_cases h3 : s = ⟨#[116, 111, 112]⟩
  · subst h3; rw [nums3]
    exact sum_in _ 51 _ w hv (look3 w) fnil51 call51 clos3 small3
  by_cases h4 : s = ⟨#[114, 97, 116, 101]⟩
  · subst h4; rw [nums4]
    exact sum_in _ 52 _ w hv (look4 w) fnil52 call52 clos4 small4
  by_cases h5 : s = ⟨#[99, 114, 101, 100, 105, 116]⟩
  · subst h5; rw [nums5]
    exact sum_in _ 53 _ w hv (look5 w) fnil53 call53 clos5 small5
  by_cases h6 : s = ⟨#[112, 104, 97, 115, 101]⟩
  · subst h6; rw [nums6]
    exact sum_in _ 54 _ w hv (look6 w) fnil54 call54 clos6 small6
  rw [nums_none h0 h1 h2 h3 h4 h5 h6]
  exact sum_none s w (look_none w s h0 h1 h2 h3 h4 h5 h6)
set_option maxRecDepth 100000 in
theorem rsum_in (s : ByteArray) (l : List Int) (w : World) (hnum : Calls Tryd.prog 30 #[.string s] w (Gives l w)) (hl : Small l) (hp : 0 < l.length) :
    Calls Tryd.prog 11 #[.string s] w fun e w' => e = .returned (.tuple #[.int .i64 l.sum, .bool true]) ∧ Below w.heap.size w w' := by
  have hl6 := hl.1
  have hL : Hid (Small l) := hl
  clear hl
  go_enter Tryd.func11, Tryd.ntmps11
  go_wp2_with fail
  refine hnum.mono ?_
  rintro e w' ⟨B, rfl, hB, hs, hh, hb⟩
  have hC : Hid (∀ k : Nat, k < l.length → w'.cell? ⟨B, k, none⟩ = some (.int .i64 (l.getD k 0))) := fun k hk => (cell_of w' B _ _ hh _).trans (ints_at l _ hk)
  clear hnum hh
  go_wp2
  go_loop [5, 6] (fun t i => ∃ k : Nat, k ≤ l.length ∧ i = .int .i64 k ∧ t = .int .i64 (l.take k).sum) (fun _ i => l.length - (intOf i).toNat)
  case atStart => exact ⟨0, Nat.zero_le _, rfl, rfl⟩
  case round =>
    obtain ⟨k, hk, rfl, rfl⟩ := hrel
    obtain ⟨b1, b2⟩ := hL.out.take k
    by_cases hlt : k < l.length
    · obtain ⟨b3, b4⟩ := hL.out.at k
      have hc := hC.out k hlt
      have hS : Hid _ := sum_snoc l k hlt
      generalize l.getD k 0 = x at *
      go_wp2
      go_round
      case rel => exact ⟨k + 1, by omega, by go_num, by rw [hS.out]⟩
      case measure => simp [intOf]; omega
    · go_wp2
      go_ret2
      exact ⟨ret2 ⟨by rw [List.take_of_length_le (by omega)], by simp⟩, hb⟩
set_option maxRecDepth 100000 in
theorem rsum_none (s : ByteArray) (w : World) (hnum : Calls Tryd.prog 30 #[.string s] w fun e w' => e = .returned (.slice none 0 0) ∧ w' = w) :
    Calls Tryd.prog 11 #[.string s] w fun e w' => e = .returned (.tuple #[.int .i64 0, .bool false]) ∧ Below w.heap.size w w' := by
  go_enter Tryd.func11, Tryd.ntmps11
  go_wp2_with fail
  refine hnum.mono ?_
  rintro e w' ⟨rfl, rfl⟩
  clear hnum
  go_wp2
  refine wp_loop_rounds 1 ?_
  rw [rounds_succ]
  go_wp2
  go_ret2
  exact ⟨rfl, Below.refl _ _⟩
theorem rsum_all (s : ByteArray) (w : World) :
    Calls Tryd.prog 11 #[.string s] w fun e w' => e = .returned (.tuple #[.int .i64 (nums s).sum, .bool (sumB (nums s))]) ∧ Below w.heap.size w w' := by
  by_cases h0 : s = ⟨#[99, 112, 105]⟩
  · subst h0; rw [nums0]
    exact rsum_in _ _ w (num0 w) small0 (by decide)
  by_cases h1 : s = ⟨#[102, 97, 99, 116, 111, 114]⟩
  · subst h1; rw [nums1]
    exact rsum_in _ _ w (num1 w) small1 (by decide)
  by_cases h2 : s = ⟨#[115, 116, 97, 110, 100, 97, 114, 100]⟩
  · subst h2; rw [nums2]
    exact rsum_in _ _ w (num2 w) small2 (by decide)
  by_cases h3 : s = ⟨#[116, 111, 112]⟩
  · subst h3; rw [nums3]
    exact rsum_in _ _ w (num3 w) small3 (by decide)
  by_cases h4 : s = ⟨#[114, 97, 116, 101]⟩
  · subst h4; rw [nums4]
    exact rsum_in _ _ w (num4 w) small4 (by decide)
  by_cases h5 : s = ⟨#[99, 114, 101, 100, 105, 116]⟩
  · subst h5; rw [nums5]
    exact rsum_in _ _ w (num5 w) small5 (by decide)
  by_cases h6 : s = ⟨#[112, 104, 97, 115, 101]⟩
  · subst h6; rw [nums6]
    exact rsum_in _ _ w (num6 w) small6 (by decide)
  rw [nums_none h0 h1 h2 h3 h4 h5 h6]
  exact rsum_none s w (num_none w s h0 h1 h2 h3 h4 h5 h6)

end Go.Proofs.YtakbkdimknnopaaDoor
