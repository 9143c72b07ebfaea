/- y1.Provs. -/
import Derived.Test.YtakbkdimknnopaaDoorS8
import Derived.Deep.RegionHeld3
namespace Go.Proofs.YtakbkdimknnopaaDoor
open Go.RowKit

theorem step_build {P : Program} {ops : Array Oper} {o : Oper} {a : Act} {w : World} {K : Act → World → Prop} {Q : Exit → Act → World → Prop} {E : Prop} (hgd : o.guard = none) (t e : TypeId) (len : Nat) (parts : Array (Nat × Operand)) (ho : o.op = .buildSlice t len parts)
    (cells : Array Value) (ie : TypeInfo) (z : Value)
    (hu : P.underlying t = some (.slice e)) (hie : P.info? e = some ie) (hz : ie.zero = some z) (hsmall : ¬ len * ie.size > 2 ^ 24) (hpos : ¬ len * ie.size = 0)
    (hf : Instr.fill (fun i => some (i * ie.size, ie.size)) ((Array.range (len * ie.size)).map (z.cells[· % z.cells.size]!)) (parts.map fun (i, x) => (i, a.eval x)).toList = some cells)
    (h : K (a.put o.dst (.slice (some ⟨w.heap.size, 0, none⟩) len len)) (w.alloc (.cells cells e))) :
    if Region.wanted o (yielded ops a.tmps) = true then Oper.wp P o a w K Q else E := by
  have hw : Region.wanted o (yielded ops a.tmps) = true := by simp [Region.wanted, hgd]
  rw [if_pos hw]
  exact wp_buildSlice t e len parts ho cells ie z hu hie hz hsmall hpos hf h

def bs (parts : Array (Nat × Value)) : Sem Value := Instr.buildSlice 39 13 parts
def provsT (x0 x1 x2 x3 x4 x5 : ByteArray) (g1 c1 g2 c2 : Nat) : List Value := [.string ⟨#[121, 49, 46, 115, 116, 97, 110, 100, 97, 114, 100, 46, 115, 105, 110, 103, 108, 101]⟩, .string ⟨#[112, 46, 115, 116, 97, 110, 100, 97, 114, 100, 46, 115, 105, 110, 103, 108, 101]⟩, .int .i64 730485, .int .i64 730850, .int .i64 730454, .int .i64 0, .string ⟨#[]⟩, .int .i64 1, .int .i64 4000, .int .i64 1, .slice none 0 0, .string ⟨#[]⟩, .int .i64 0, .int .i64 0, .int .i64 0, .string ⟨#[121, 49, 46, 115, 116, 97, 110, 100, 97, 114, 100, 46, 106, 111, 105, 110, 116]⟩, .string ⟨#[112, 46, 115, 116, 97, 110, 100, 97, 114, 100, 46, 106, 111, 105, 110, 116]⟩, .int .i64 730485, .int .i64 730850, .int .i64 730454, .int .i64 0, .string ⟨#[]⟩, .int .i64 1, .int .i64 7000, .int .i64 1, .slice none 0 0, .string ⟨#[]⟩, .int .i64 0, .int .i64 0, .int .i64 0, .string ⟨#[121, 49, 46, 99, 114, 101, 100, 105, 116, 46, 115, 105, 110, 103, 108, 101]⟩, .string ⟨#[112, 46, 99, 114, 101, 100, 105, 116, 46, 115, 105, 110, 103, 108, 101]⟩, .int .i64 730485, .int .i64 730850, .int .i64 730454, .int .i64 0, .string ⟨#[]⟩, .int .i64 1, .int .i64 500, .int .i64 1, .slice none 0 0, .string ⟨#[]⟩, .int .i64 0, .int .i64 0, .int .i64 0, .string ⟨#[121, 49, 46, 99, 114, 101, 100, 105, 116, 46, 106, 111, 105, 110, 116]⟩, .string ⟨#[112, 46, 99, 114, 101, 100, 105, 116, 46, 106, 111, 105, 110, 116]⟩, .int .i64 730485, .int .i64 730850, .int .i64 730454, .int .i64 0, .string ⟨#[]⟩, .int .i64 1, .int .i64 900, .int .i64 1, .slice none 0 0, .string ⟨#[]⟩, .int .i64 0, .int .i64 0, .int .i64 0, .string ⟨#[121, 49, 46, 112, 104, 97, 115, 101]⟩, .string ⟨#[112, 46, 112, 104, 97, 115, 101]⟩, .int .i64 730485, .int .i64 730850, .int .i64 730454, .int .i64 0, .string ⟨#[]⟩, .int .i64 1, .int .i64 60000, .int .i64 1, .slice none 0 0, .string ⟨#[]⟩, .int .i64 0, .int .i64 0, .int .i64 0, .string ⟨#[121, 49, 46, 115, 99, 97, 108, 101, 46, 115, 105, 110, 103, 108, 101]⟩, .string ⟨#[115, 46, 115, 105, 110, 103, 108, 101]⟩, .int .i64 730485, .int .i64 730850, .int .i64 730454, .int .i64 0, .string ⟨#[]⟩, .int .i64 2, .int .i64 0, .int .i64 0, (.slice (some ⟨g1, 0, none⟩) 4 c1), .string ⟨#[]⟩, .int .i64 0, .int .i64 0, .int .i64 0, .string ⟨#[121, 49, 46, 115, 99, 97, 108, 101, 46, 106, 111, 105, 110, 116]⟩, .string ⟨#[115, 46, 106, 111, 105, 110, 116]⟩, .int .i64 730485, .int .i64 730850, .int .i64 730454, .int .i64 0, .string ⟨#[]⟩, .int .i64 2, .int .i64 0, .int .i64 0, (.slice (some ⟨g2, 0, none⟩) 4 c2), .string ⟨#[]⟩, .int .i64 0, .int .i64 0, .int .i64 0, .string ⟨#[121, 49, 46, 108, 105, 110, 101, 46, 105, 110, 99, 111, 109, 101]⟩, .string ⟨#[108, 105, 110, 101, 46, 105, 110, 99, 111, 109, 101]⟩, .int .i64 730485, .int .i64 3652059, .int .i64 730454, .int .i64 0, .string ⟨#[]⟩, .int .i64 3, .int .i64 0, .int .i64 0, .slice none 0 0, .string x0, .int .i64 5, .int .i64 1, .int .i64 1, .string ⟨#[121, 49, 46, 108, 105, 110, 101, 46, 100, 101, 100, 117, 99, 116]⟩, .string ⟨#[108, 105, 110, 101, 46, 100, 101, 100, 117, 99, 116]⟩, .int .i64 730485, .int .i64 3652059, .int .i64 730454, .int .i64 0, .string ⟨#[]⟩, .int .i64 3, .int .i64 0, .int .i64 0, .slice none 0 0, .string x1, .int .i64 1, .int .i64 1, .int .i64 1, .string ⟨#[121, 49, 46, 108, 105, 110, 101, 46, 116, 97, 120, 97, 98, 108, 101]⟩, .string ⟨#[108, 105, 110, 101, 46, 116, 97, 120, 97, 98, 108, 101]⟩, .int .i64 730485, .int .i64 3652059, .int .i64 730454, .int .i64 0, .string ⟨#[]⟩, .int .i64 3, .int .i64 0, .int .i64 0, .slice none 0 0, .string x2, .int .i64 0, .int .i64 0, .int .i64 0, .string ⟨#[121, 49, 46, 108, 105, 110, 101, 46, 116, 97, 120]⟩, .string ⟨#[108, 105, 110, 101, 46, 116, 97, 120]⟩, .int .i64 730485, .int .i64 3652059, .int .i64 730454, .int .i64 0, .string ⟨#[]⟩, .int .i64 3, .int .i64 0, .int .i64 0, .slice none 0 0, .string x3, .int .i64 6, .int .i64 1, .int .i64 100, .string ⟨#[121, 49, 46, 108, 105, 110, 101, 46, 99, 114, 101, 100, 105, 116]⟩, .string ⟨#[108, 105, 110, 101, 46, 99, 114, 101, 100, 105, 116]⟩, .int .i64 730485, .int .i64 3652059, .int .i64 730454, .int .i64 0, .string ⟨#[]⟩, .int .i64 3, .int .i64 0, .int .i64 0, .slice none 0 0, .string x4, .int .i64 2, .int .i64 1, .int .i64 1, .string ⟨#[121, 49, 46, 108, 105, 110, 101, 46, 100, 117, 101]⟩, .string ⟨#[108, 105, 110, 101, 46, 100, 117, 101]⟩, .int .i64 730485, .int .i64 3652059, .int .i64 730454, .int .i64 0, .string ⟨#[]⟩, .int .i64 3, .int .i64 0, .int .i64 0, .slice none 0 0, .string x5, .int .i64 5, .int .i64 1, .int .i64 100]
theorem run_bs (x0 x1 x2 x3 x4 x5 : ByteArray) (g1 c1 g2 c2 : Nat) (w : World) : (bs #[(0, .agg #[.string ⟨#[121, 49, 46, 115, 116, 97, 110, 100, 97, 114, 100, 46, 115, 105, 110, 103, 108, 101]⟩, .string ⟨#[112, 46, 115, 116, 97, 110, 100, 97, 114, 100, 46, 115, 105, 110, 103, 108, 101]⟩, .int .i64 730485, .int .i64 730850, .int .i64 730454, .int .i64 0, .string ⟨#[]⟩, .int .i64 1, .int .i64 4000, .int .i64 1, .slice none 0 0, .string ⟨#[]⟩, .int .i64 0, .int .i64 0, .int .i64 0]), (1, .agg #[.string ⟨#[121, 49, 46, 115, 116, 97, 110, 100, 97, 114, 100, 46, 106, 111, 105, 110, 116]⟩, .string ⟨#[112, 46, 115, 116, 97, 110, 100, 97, 114, 100, 46, 106, 111, 105, 110, 116]⟩, .int .i64 730485, .int .i64 730850, .int .i64 730454, .int .i64 0, .string ⟨#[]⟩, .int .i64 1, .int .i64 7000, .int .i64 1, .slice none 0 0, .string ⟨#[]⟩, .int .i64 0, .int .i64 0, .int .i64 0]), (2, .agg #[.string ⟨#[121, 49, 46, 99, 114, 101, 100, 105, 116, 46, 115, 105, 110, 103, 108, 101]⟩, .string ⟨#[112, 46, 99, 114, 101, 100, 105, 116, 46, 115, 105, 110, 103, 108, 101]⟩, .int .i64 730485, .int .i64 730850, .int .i64 730454, .int .i64 0, .string ⟨#[]⟩, .int .i64 1, .int .i64 500, .int .i64 1, .slice none 0 0, .string ⟨#[]⟩, .int .i64 0, .int .i64 0, .int .i64 0]), (3, .agg #[.string ⟨#[121, 49, 46, 99, 114, 101, 100, 105, 116, 46, 106, 111, 105, 110, 116]⟩, .string ⟨#[112, 46, 99, 114, 101, 100, 105, 116, 46, 106, 111, 105, 110, 116]⟩, .int .i64 730485, .int .i64 730850, .int .i64 730454, .int .i64 0, .string ⟨#[]⟩, .int .i64 1, .int .i64 900, .int .i64 1, .slice none 0 0, .string ⟨#[]⟩, .int .i64 0, .int .i64 0, .int .i64 0]), (4, .agg #[.string ⟨#[121, 49, 46, 112, 104, 97, 115, 101]⟩, .string ⟨#[112, 46, 112, 104, 97, 115, 101]⟩, .int .i64 730485, .int .i64 730850, .int .i64 730454, .int .i64 0, .string ⟨#[]⟩, .int .i64 1, .int .i64 60000, .int .i64 1, .slice none 0 0, .string ⟨#[]⟩, .int .i64 0, .int .i64 0, .int .i64 0]), (5, .agg #[.string ⟨#[121, 49, 46, 115, 99, 97, 108, 101, 46, 115, 105, 110, 103, 108, 101]⟩, .string ⟨#[115, 46, 115, 105, 110, 103, 108, 101]⟩, .int .i64 730485, .int .i64 730850, .int .i64 730454, .int .i64 0, .string ⟨#[]⟩, .int .i64 2, .int .i64 0, .int .i64 0, (.slice (some ⟨g1, 0, none⟩) 4 c1), .string ⟨#[]⟩, .int .i64 0, .int .i64 0, .int .i64 0]), (6, .agg #[.string ⟨#[121, 49, 46, 115, 99, 97, 108, 101, 46, 106, 111, 105, 110, 116]⟩, .string ⟨#[115, 46, 106, 111, 105, 110, 116]⟩, .int .i64 730485, .int .i64 730850, .int .i64 730454, .int .i64 0, .string ⟨#[]⟩, .int .i64 2, .int .i64 0, .int .i64 0, (.slice (some ⟨g2, 0, none⟩) 4 c2), .string ⟨#[]⟩, .int .i64 0, .int .i64 0, .int .i64 0]), (7, .agg #[.string ⟨#[121, 49, 46, 108, 105, 110, 101, 46, 105, 110, 99, 111, 109, 101]⟩, .string ⟨#[108, 105, 110, 101, 46, 105, 110, 99, 111, 109, 101]⟩, .int .i64 730485, .int .i64 3652059, .int .i64 730454, .int .i64 0, .string ⟨#[]⟩, .int .i64 3, .int .i64 0, .int .i64 0, .slice none 0 0, .string x0, .int .i64 5, .int .i64 1, .int .i64 1]), (8, .agg #[.string ⟨#[121, 49, 46, 108, 105, 110, 101, 46, 100, 101, 100, 117, 99, 116]⟩, .string ⟨#[108, 105, 110, 101, 46, 100, 101, 100, 117, 99, 116]⟩, .int .i64 730485, .int .i64 3652059, .int .i64 730454, .int .i64 0, .string ⟨#[]⟩, .int .i64 3, .int .i64 0, .int .i64 0, .slice none 0 0, .string x1, .int .i64 1, .int .i64 1, .int .i64 1]), (9, .agg #[.string ⟨#[121, 49, 46, 108, 105, 110, 101, 46, 116, 97, 120, 97, 98, 108, 101]⟩, .string ⟨#[108, 105, 110, 101, 46, 116, 97, 120, 97, 98, 108, 101]⟩, .int .i64 730485, .int .i64 3652059, .int .i64 730454, .int .i64 0, .string ⟨#[]⟩, .int .i64 3, .int .i64 0, .int .i64 0, .slice none 0 0, .string x2, .int .i64 0, .int .i64 0, .int .i64 0]), (10, .agg #[.string ⟨#[121, 49, 46, 108, 105, 110, 101, 46, 116, 97, 120]⟩, .string ⟨#[108, 105, 110, 101, 46, 116, 97, 120]⟩, .int .i64 730485, .int .i64 3652059, .int .i64 730454, .int .i64 0, .string ⟨#[]⟩, .int .i64 3, .int .i64 0, .int .i64 0, .slice none 0 0, .string x3, .int .i64 6, .int .i64 1, .int .i64 100]), (11, .agg #[.string ⟨#[121, 49, 46, 108, 105, 110, 101, 46, 99, 114, 101, 100, 105, 116]⟩, .string ⟨#[108, 105, 110, 101, 46, 99, 114, 101, 100, 105, 116]⟩, .int .i64 730485, .int .i64 3652059, .int .i64 730454, .int .i64 0, .string ⟨#[]⟩, .int .i64 3, .int .i64 0, .int .i64 0, .slice none 0 0, .string x4, .int .i64 2, .int .i64 1, .int .i64 1]), (12, .agg #[.string ⟨#[121, 49, 46, 108, 105, 110, 101, 46, 100, 117, 101]⟩, .string ⟨#[108, 105, 110, 101, 46, 100, 117, 101]⟩, .int .i64 730485, .int .i64 3652059, .int .i64 730454, .int .i64 0, .string ⟨#[]⟩, .int .i64 3, .int .i64 0, .int .i64 0, .slice none 0 0, .string x5, .int .i64 5, .int .i64 1, .int .i64 100])]).run Tryd.prog w = .ok (.slice (some ⟨w.heap.size, 0, none⟩) 13 13) (w.alloc (.cells (provsT x0 x1 x2 x3 x4 x5 g1 c1 g2 c2).toArray 55)) := by
  obtain ⟨i0, hi, hz0, hz1, hz2⟩ := info_parts info55
  exact run_buildSlice w 39 55 13 _ _ i0 (.agg zero55) Tryd.underlying39 hi hz0 (by rw [hz1]; decide) (by rw [hz1]; decide) (by rw [hz1]; kernel_rfl)
theorem provsT_eq (g1 c1 g2 c2 : Nat) : provsT ⟨#[105, 110, 46, 119, 97, 103, 101, 115, 32, 43, 32, 105, 110, 46, 105, 110, 116, 101, 114, 101, 115, 116, 32, 43, 32, 105, 110, 46, 103, 97, 105, 110, 115]⟩ ⟨#[109, 97, 120, 40, 105, 102, 32, 105, 110, 46, 106, 111, 105, 110, 116, 32, 61, 32, 49, 32, 116, 104, 101, 110, 32, 112, 46, 115, 116, 97, 110, 100, 97, 114, 100, 46, 106, 111, 105, 110, 116, 32, 101, 108, 115, 101, 32, 112, 46, 115, 116, 97, 110, 100, 97, 114, 100, 46, 115, 105, 110, 103, 108, 101, 44, 32, 105, 110, 46, 105, 116, 101, 109, 105, 122, 101, 100, 41]⟩ ⟨#[109, 97, 120, 40, 108, 105, 110, 101, 46, 105, 110, 99, 111, 109, 101, 32, 45, 32, 108, 105, 110, 101, 46, 100, 101, 100, 117, 99, 116, 44, 32, 48, 41]⟩ ⟨#[105, 102, 32, 105, 110, 46, 106, 111, 105, 110, 116, 32, 61, 32, 49, 32, 116, 104, 101, 110, 32, 116, 97, 120, 40, 115, 46, 106, 111, 105, 110, 116, 44, 32, 108, 105, 110, 101, 46, 116, 97, 120, 97, 98, 108, 101, 41, 32, 101, 108, 115, 101, 32, 116, 97, 120, 40, 115, 46, 115, 105, 110, 103, 108, 101, 44, 32, 108, 105, 110, 101, 46, 116, 97, 120, 97, 98, 108, 101, 41]⟩ ⟨#[109, 97, 120, 40, 40, 105, 102, 32, 105, 110, 46, 106, 111, 105, 110, 116, 32, 61, 32, 49, 32, 116, 104, 101, 110, 32, 112, 46, 99, 114, 101, 100, 105, 116, 46, 106, 111, 105, 110, 116, 32, 101, 108, 115, 101, 32, 112, 46, 99, 114, 101, 100, 105, 116, 46, 115, 105, 110, 103, 108, 101, 41, 32, 45, 32, 53, 37, 32, 42, 32, 109, 97, 120, 40, 108, 105, 110, 101, 46, 105, 110, 99, 111, 109, 101, 32, 45, 32, 112, 46, 112, 104, 97, 115, 101, 44, 32, 48, 41, 44, 32, 48, 41]⟩ ⟨#[109, 97, 120, 40, 108, 105, 110, 101, 46, 116, 97, 120, 32, 45, 32, 108, 105, 110, 101, 46, 99, 114, 101, 100, 105, 116, 44, 32, 48, 41, 32, 45, 32, 105, 110, 46, 119, 105, 116, 104, 104, 101, 108, 100]⟩ g1 c1 g2 c2 = provsList (.slice (some ⟨g1, 0, none⟩) 4 c1) (.slice (some ⟨g2, 0, none⟩) 4 c2) := by kernel_rfl

theorem rule_income (text : ByteArray) (m a b : Int) (w : World) : Calls Tryd.prog 39 #[.string ⟨#[105, 110, 99, 111, 109, 101]⟩, .string text, .agg #[.int .i64 m, .int .i64 a, .int .i64 b]] w fun e w' => e = .returned (.agg #[.string ⟨#[121, 49, 46, 108, 105, 110, 101, 46, 105, 110, 99, 111, 109, 101]⟩, .string ⟨#[108, 105, 110, 101, 46, 105, 110, 99, 111, 109, 101]⟩, .int .i64 730485, .int .i64 3652059, .int .i64 730454, .int .i64 0, .string ⟨#[]⟩, .int .i64 3, .int .i64 0, .int .i64 0, .slice none 0 0, .string text, .int .i64 m, .int .i64 a, .int .i64 b]) ∧ Below w.heap.size w w' :=
  (rule39 ⟨#[105, 110, 99, 111, 109, 101]⟩ text m a b w (by decide) (by decide)).mono fun _ _ ⟨he, hb⟩ => ⟨he, hb⟩
theorem rule_deduct (text : ByteArray) (m a b : Int) (w : World) : Calls Tryd.prog 39 #[.string ⟨#[100, 101, 100, 117, 99, 116]⟩, .string text, .agg #[.int .i64 m, .int .i64 a, .int .i64 b]] w fun e w' => e = .returned (.agg #[.string ⟨#[121, 49, 46, 108, 105, 110, 101, 46, 100, 101, 100, 117, 99, 116]⟩, .string ⟨#[108, 105, 110, 101, 46, 100, 101, 100, 117, 99, 116]⟩, .int .i64 730485, .int .i64 3652059, .int .i64 730454, .int .i64 0, .string ⟨#[]⟩, .int .i64 3, .int .i64 0, .int .i64 0, .slice none 0 0, .string text, .int .i64 m, .int .i64 a, .int .i64 b]) ∧ Below w.heap.size w w' :=
  (rule39 ⟨#[100, 101, 100, 117, 99, 116]⟩ text m a b w (by decide) (by decide)).mono fun _ _ ⟨he, hb⟩ => ⟨he, hb⟩
theorem rule_taxable (text : ByteArray) (m a b : Int) (w : World) : Calls Tryd.prog 39 #[.string ⟨#[116, 97, 120, 97, 98, 108, 101]⟩, .string text, .agg #[.int .i64 m, .int .i64 a, .int .i64 b]] w fun e w' => e = .returned (.agg #[.string ⟨#[121, 49, 46, 108, 105, 110, 101, 46, 116, 97, 120, 97, 98, 108, 101]⟩, .string ⟨#[108, 105, 110, 101, 46, 116, 97, 120, 97, 98, 108, 101]⟩, .int .i64 730485, .int .i64 3652059, .int .i64 730454, .int .i64 0, .string ⟨#[]⟩, .int .i64 3, .int .i64 0, .int .i64 0, .slice none 0 0, .string text, .int .i64 m, .int .i64 a, .int .i64 b]) ∧ Below w.heap.size w w' :=
  (rule39 ⟨#[116, 97, 120, 97, 98, 108, 101]⟩ text m a b w (by decide) (by decide)).mono fun _ _ ⟨he, hb⟩ => ⟨he, hb⟩
theorem rule_tax (text : ByteArray) (m a b : Int) (w : World) : Calls Tryd.prog 39 #[.string ⟨#[116, 97, 120]⟩, .string text, .agg #[.int .i64 m, .int .i64 a, .int .i64 b]] w fun e w' => e = .returned (.agg #[.string ⟨#[121, 49, 46, 108, 105, 110, 101, 46, 116, 97, 120]⟩, .string ⟨#[108, 105, 110, 101, 46, 116, 97, 120]⟩, .int .i64 730485, .int .i64 3652059, .int .i64 730454, .int .i64 0, .string ⟨#[]⟩, .int .i64 3, .int .i64 0, .int .i64 0, .slice none 0 0, .string text, .int .i64 m, .int .i64 a, .int .i64 b]) ∧ Below w.heap.size w w' :=
  (rule39 ⟨#[116, 97, 120]⟩ text m a b w (by decide) (by decide)).mono fun _ _ ⟨he, hb⟩ => ⟨he, hb⟩
theorem rule_credit (text : ByteArray) (m a b : Int) (w : World) : Calls Tryd.prog 39 #[.string ⟨#[99, 114, 101, 100, 105, 116]⟩, .string text, .agg #[.int .i64 m, .int .i64 a, .int .i64 b]] w fun e w' => e = .returned (.agg #[.string ⟨#[121, 49, 46, 108, 105, 110, 101, 46, 99, 114, 101, 100, 105, 116]⟩, .string ⟨#[108, 105, 110, 101, 46, 99, 114, 101, 100, 105, 116]⟩, .int .i64 730485, .int .i64 3652059, .int .i64 730454, .int .i64 0, .string ⟨#[]⟩, .int .i64 3, .int .i64 0, .int .i64 0, .slice none 0 0, .string text, .int .i64 m, .int .i64 a, .int .i64 b]) ∧ Below w.heap.size w w' :=
  (rule39 ⟨#[99, 114, 101, 100, 105, 116]⟩ text m a b w (by decide) (by decide)).mono fun _ _ ⟨he, hb⟩ => ⟨he, hb⟩
theorem rule_due (text : ByteArray) (m a b : Int) (w : World) : Calls Tryd.prog 39 #[.string ⟨#[100, 117, 101]⟩, .string text, .agg #[.int .i64 m, .int .i64 a, .int .i64 b]] w fun e w' => e = .returned (.agg #[.string ⟨#[121, 49, 46, 108, 105, 110, 101, 46, 100, 117, 101]⟩, .string ⟨#[108, 105, 110, 101, 46, 100, 117, 101]⟩, .int .i64 730485, .int .i64 3652059, .int .i64 730454, .int .i64 0, .string ⟨#[]⟩, .int .i64 3, .int .i64 0, .int .i64 0, .slice none 0 0, .string text, .int .i64 m, .int .i64 a, .int .i64 b]) ∧ Below w.heap.size w w' :=
  (rule39 ⟨#[100, 117, 101]⟩ text m a b w (by decide) (by decide)).mono fun _ _ ⟨he, hb⟩ => ⟨he, hb⟩
set_option maxRecDepth 100000 in
set_option maxHeartbeats 8000000 in
theorem yprovs (w : World) (hv : Vars w) : Calls Tryd.prog 19 #[] w (GivesP w) := by
  obtain ⟨i0, hi, hz0, hz1, hz2⟩ := info_parts info55
  have j0 := idxS0
  have j1 := idxS1
  have j2 := idxP0
  have j3 := idxP1
  have hz := hv.size
  have B0 : Below w.heap.size w (((w.alloc (.cells #[.int .i64 1, .int .i64 1] 30)).alloc (.cells #[.int .i64 1, .int .i64 1] 30)).alloc (.cells #[.int .i64 1, .int .i64 100] 30)).drew := ((((Below.refl _ _).alloc (Nat.le_refl _) _).alloc (by simp) _).alloc (by simp; omega) _).drew
  have V0 : Vars (((w.alloc (.cells #[.int .i64 1, .int .i64 1] 30)).alloc (.cells #[.int .i64 1, .int .i64 1] 30)).alloc (.cells #[.int .i64 1, .int .i64 100] 30)).drew := hv.below B0
  have P0 : (((w.alloc (.cells #[.int .i64 1, .int .i64 1] 30)).alloc (.cells #[.int .i64 1, .int .i64 1] 30)).alloc (.cells #[.int .i64 1, .int .i64 100] 30)).drew.cell? ⟨1, 0, none⟩ = some (.int .i64 60000) := V0.p0
  have S0 : w.heap.size + 3 ≤ (((w.alloc (.cells #[.int .i64 1, .int .i64 1] 30)).alloc (.cells #[.int .i64 1, .int .i64 1] 30)).alloc (.cells #[.int .i64 1, .int .i64 100] 30)).drew.heap.size := by simp
  have C0 : (((w.alloc (.cells #[.int .i64 1, .int .i64 1] 30)).alloc (.cells #[.int .i64 1, .int .i64 1] 30)).alloc (.cells #[.int .i64 1, .int .i64 100] 30)).drew.cell? ⟨w.heap.size + 1, 0, none⟩ = some (.int .i64 1) ∧ (((w.alloc (.cells #[.int .i64 1, .int .i64 1] 30)).alloc (.cells #[.int .i64 1, .int .i64 1] 30)).alloc (.cells #[.int .i64 1, .int .i64 100] 30)).drew.cell? ⟨w.heap.size + 1, 1, none⟩ = some (.int .i64 1) ∧ (((w.alloc (.cells #[.int .i64 1, .int .i64 1] 30)).alloc (.cells #[.int .i64 1, .int .i64 1] 30)).alloc (.cells #[.int .i64 1, .int .i64 100] 30)).drew.cell? ⟨w.heap.size + 1 + 1, 0, none⟩ = some (.int .i64 1) ∧ (((w.alloc (.cells #[.int .i64 1, .int .i64 1] 30)).alloc (.cells #[.int .i64 1, .int .i64 1] 30)).alloc (.cells #[.int .i64 1, .int .i64 100] 30)).drew.cell? ⟨w.heap.size + 1 + 1, 1, none⟩ = some (.int .i64 100) := by
    have q1 : (((w.alloc (.cells #[.int .i64 1, .int .i64 1] 30)).alloc (.cells #[.int .i64 1, .int .i64 1] 30)).alloc (.cells #[.int .i64 1, .int .i64 100] 30)).drew.heap[w.heap.size + 1]? = some (.cells #[.int .i64 1, .int .i64 1] 30) := (Below.heap_alloc _ _ _ (by simp)).trans (heap_at _ _ _ (by simp))
    have q2 : (((w.alloc (.cells #[.int .i64 1, .int .i64 1] 30)).alloc (.cells #[.int .i64 1, .int .i64 1] 30)).alloc (.cells #[.int .i64 1, .int .i64 100] 30)).drew.heap[w.heap.size + 1 + 1]? = some (.cells #[.int .i64 1, .int .i64 100] 30) := heap_at _ _ _ (by simp)
    exact ⟨cell_of _ _ _ 30 q1 0, cell_of _ _ _ 30 q1 1, cell_of _ _ _ 30 q2 0, cell_of _ _ _ 30 q2 1⟩
  have K0 : Hid (((((w.alloc (.cells #[.int .i64 1, .int .i64 1] 30)).alloc (.cells #[.int .i64 1, .int .i64 1] 30)).alloc (.cells #[.int .i64 1, .int .i64 100] 30)).drew.cell? ⟨w.heap.size + 1, 0, none⟩ = some (.int .i64 1) ∧ (((w.alloc (.cells #[.int .i64 1, .int .i64 1] 30)).alloc (.cells #[.int .i64 1, .int .i64 1] 30)).alloc (.cells #[.int .i64 1, .int .i64 100] 30)).drew.cell? ⟨w.heap.size + 1, 1, none⟩ = some (.int .i64 1) ∧ (((w.alloc (.cells #[.int .i64 1, .int .i64 1] 30)).alloc (.cells #[.int .i64 1, .int .i64 1] 30)).alloc (.cells #[.int .i64 1, .int .i64 100] 30)).drew.cell? ⟨w.heap.size + 1 + 1, 0, none⟩ = some (.int .i64 1) ∧ (((w.alloc (.cells #[.int .i64 1, .int .i64 1] 30)).alloc (.cells #[.int .i64 1, .int .i64 1] 30)).alloc (.cells #[.int .i64 1, .int .i64 100] 30)).drew.cell? ⟨w.heap.size + 1 + 1, 1, none⟩ = some (.int .i64 100)) ∧ (((w.alloc (.cells #[.int .i64 1, .int .i64 1] 30)).alloc (.cells #[.int .i64 1, .int .i64 1] 30)).alloc (.cells #[.int .i64 1, .int .i64 100] 30)).drew.cell? ⟨1, 0, none⟩ = some (.int .i64 60000) ∧ Vars (((w.alloc (.cells #[.int .i64 1, .int .i64 1] 30)).alloc (.cells #[.int .i64 1, .int .i64 1] 30)).alloc (.cells #[.int .i64 1, .int .i64 100] 30)).drew ∧ w.heap.size + 3 ≤ (((w.alloc (.cells #[.int .i64 1, .int .i64 1] 30)).alloc (.cells #[.int .i64 1, .int .i64 1] 30)).alloc (.cells #[.int .i64 1, .int .i64 100] 30)).drew.heap.size ∧ Below w.heap.size w (((w.alloc (.cells #[.int .i64 1, .int .i64 1] 30)).alloc (.cells #[.int .i64 1, .int .i64 1] 30)).alloc (.cells #[.int .i64 1, .int .i64 100] 30)).drew) := ⟨C0, P0, V0, S0, B0⟩
  clear C0 P0 V0 S0 B0 hv
  go_enter Tryd.func19, Tryd.ntmps19
  go_wp2_with (go_at_call 34; refine (whole34 _ _).mono ?_; rintro e w' ⟨rfl, rfl⟩)
  obtain ⟨X, hX⟩ : ∃ X, X = (((w.alloc (.cells #[.int .i64 1, .int .i64 1] 30)).alloc (.cells #[.int .i64 1, .int .i64 1] 30)).alloc (.cells #[.int .i64 1, .int .i64 100] 30)) := ⟨_, rfl⟩
  rw [← hX] at K0 ⊢
  have hXs : w.heap.size + 3 ≤ X.heap.size := by rw [hX]; simp
  clear hX
  refine wp_region_held_drew (S := fun w' => w'.cell? ⟨w.heap.size + 1, 0, none⟩ = some (.int .i64 1) ∧ w'.cell? ⟨w.heap.size + 1, 1, none⟩ = some (.int .i64 1) ∧ w'.cell? ⟨w.heap.size + 1 + 1, 0, none⟩ = some (.int .i64 1) ∧ w'.cell? ⟨w.heap.size + 1 + 1, 1, none⟩ = some (.int .i64 100) ∧ w'.cell? ⟨1, 0, none⟩ = some (.int .i64 60000) ∧ Vars w' ∧ w.heap.size + 3 ≤ w'.heap.size ∧ Below w.heap.size w w') (by kernel_rfl) ?hS0 (fun hHeld => ?_)
  case hS0 => exact ⟨K0.out.1.1, K0.out.1.2.1, K0.out.1.2.2.1, K0.out.1.2.2.2, K0.out.2⟩
  clear K0
  refine wpAnyH_take (i := 12) (oi := ⟨some 17, _, _, _, _, _⟩) (v := ?_) rfl (by kernel_rfl) (by kernel_rfl) (by kernel_rfl) (fun _ _ _ h => h) (Or.inl ⟨by rfl, ?hy⟩) hHeld ?_
  case hy =>
    intro w hSw
    (try dsimp only at hSw)
    go_simp
    all_goals (with_reducible rfl)
  (try simp only [Act.put, List.setIfInBounds_toArray, List.set_cons_zero, List.set_cons_succ])
  refine wpAnyH_take (i := 13) (oi := ⟨some 18, _, _, _, _, _⟩) (v := ?_) rfl (by kernel_rfl) (by kernel_rfl) (by kernel_rfl) (fun _ _ _ h => h) (Or.inl ⟨by rfl, ?hy⟩) hHeld ?_
  case hy =>
    intro w hSw
    (try dsimp only at hSw)
    go_simp
    all_goals (with_reducible rfl)
  (try simp only [Act.put, List.setIfInBounds_toArray, List.set_cons_zero, List.set_cons_succ])
  refine wpAnyH_take (i := 17) (oi := ⟨some 22, _, _, _, _, _⟩) (v := ?_) rfl (by kernel_rfl) (by kernel_rfl) (by kernel_rfl) (fun _ _ _ h => h) (Or.inl ⟨by rfl, ?hy⟩) hHeld ?_
  case hy =>
    intro w hSw
    (try dsimp only at hSw)
    go_simp
    all_goals (with_reducible rfl)
  (try simp only [Act.put, List.setIfInBounds_toArray, List.set_cons_zero, List.set_cons_succ])
  refine wpAnyH_take (i := 18) (oi := ⟨some 23, _, _, _, _, _⟩) (v := ?_) rfl (by kernel_rfl) (by kernel_rfl) (by kernel_rfl) (fun _ _ _ h => h) (Or.inl ⟨by rfl, ?hy⟩) hHeld ?_
  case hy =>
    intro w hSw
    (try dsimp only at hSw)
    go_simp
    all_goals (with_reducible rfl)
  (try simp only [Act.put, List.setIfInBounds_toArray, List.set_cons_zero, List.set_cons_succ])
  refine wpAnyH_take (i := 20) (oi := ⟨some 25, _, _, _, _, _⟩) (v := ?_) rfl (by kernel_rfl) (by kernel_rfl) (by kernel_rfl) (fun _ _ _ h => h) (Or.inl ⟨by rfl, ?hy⟩) hHeld ?_
  case hy =>
    intro w hSw
    (try dsimp only at hSw)
    go_simp
    all_goals (with_reducible rfl)
  (try simp only [Act.put, List.setIfInBounds_toArray, List.set_cons_zero, List.set_cons_succ])
  refine wpAnyH_take (i := 21) (oi := ⟨some 26, _, _, _, _, _⟩) (v := ?_) rfl (by kernel_rfl) (by kernel_rfl) (by kernel_rfl) (fun _ _ _ h => h) (Or.inl ⟨by rfl, ?hy⟩) hHeld ?_
  case hy =>
    intro w hSw
    (try dsimp only at hSw)
    go_simp
    all_goals (with_reducible rfl)
  (try simp only [Act.put, List.setIfInBounds_toArray, List.set_cons_zero, List.set_cons_succ])
  refine wpAnyH_take (i := 23) (oi := ⟨some 28, _, _, _, _, _⟩) (v := ?_) rfl (by kernel_rfl) (by kernel_rfl) (by kernel_rfl) (fun _ _ _ h => h) (Or.inl ⟨by rfl, ?hy⟩) hHeld ?_
  case hy =>
    intro w hSw
    (try dsimp only at hSw)
    go_simp
    all_goals (with_reducible rfl)
  (try simp only [Act.put, List.setIfInBounds_toArray, List.set_cons_zero, List.set_cons_succ])
  refine wpAnyH_take (i := 25) (oi := ⟨some 30, _, _, _, _, _⟩) (v := ?_) rfl (by kernel_rfl) (by kernel_rfl) (by kernel_rfl) (fun _ _ _ h => h) (Or.inl ⟨by rfl, ?hy⟩) hHeld ?_
  case hy =>
    intro w hSw
    (try dsimp only at hSw)
    go_simp
    all_goals (with_reducible rfl)
  (try simp only [Act.put, List.setIfInBounds_toArray, List.set_cons_zero, List.set_cons_succ])
  refine wpAnyH_take (i := 26) (oi := ⟨some 31, _, _, _, _, _⟩) (v := ?_) rfl (by kernel_rfl) (by kernel_rfl) (by kernel_rfl) (fun _ _ _ h => h) (Or.inl ⟨by rfl, ?hy⟩) hHeld ?_
  case hy =>
    intro w hSw
    (try dsimp only at hSw)
    go_simp
    all_goals (with_reducible rfl)
  (try simp only [Act.put, List.setIfInBounds_toArray, List.set_cons_zero, List.set_cons_succ])
  refine wpAnyH_take (i := 28) (oi := ⟨some 33, _, _, _, _, _⟩) (v := ?_) rfl (by kernel_rfl) (by kernel_rfl) (by kernel_rfl) (fun _ _ _ h => h) (Or.inl ⟨by rfl, ?hy⟩) hHeld ?_
  case hy =>
    intro w hSw
    (try dsimp only at hSw)
    go_simp
    all_goals (with_reducible rfl)
  (try simp only [Act.put, List.setIfInBounds_toArray, List.set_cons_zero, List.set_cons_succ])
  refine wpAnyH_take (i := 29) (oi := ⟨some 34, _, _, _, _, _⟩) (v := ?_) rfl (by kernel_rfl) (by kernel_rfl) (by kernel_rfl) (fun _ _ _ h => h) (Or.inl ⟨by rfl, ?hy⟩) hHeld ?_
  case hy =>
    intro w hSw
    (try dsimp only at hSw)
    go_simp
    all_goals (with_reducible rfl)
  (try simp only [Act.put, List.setIfInBounds_toArray, List.set_cons_zero, List.set_cons_succ])
  refine wpAnyH_take (i := 31) (oi := ⟨some 36, _, _, _, _, _⟩) (v := ?_) rfl (by kernel_rfl) (by kernel_rfl) (by kernel_rfl) (fun _ _ _ h => h) (Or.inl ⟨by rfl, ?hy⟩) hHeld ?_
  case hy =>
    intro w hSw
    (try dsimp only at hSw)
    go_simp
    all_goals (with_reducible rfl)
  (try simp only [Act.put, List.setIfInBounds_toArray, List.set_cons_zero, List.set_cons_succ])
  refine wpAnyH_take (i := 32) (oi := ⟨some 37, _, _, _, _, _⟩) (v := ?_) rfl (by kernel_rfl) (by kernel_rfl) (by kernel_rfl) (fun _ _ _ h => h) (Or.inl ⟨by rfl, ?hy⟩) hHeld ?_
  case hy =>
    intro w hSw
    (try dsimp only at hSw)
    go_simp
    all_goals (with_reducible rfl)
  (try simp only [Act.put, List.setIfInBounds_toArray, List.set_cons_zero, List.set_cons_succ])
  refine wpAnyH_ready (rs := [0]) (by kernel_rfl) (by simp) ?_
  refine AllReadyH.cons (o := ⟨some 5, _, _, _, _, _⟩) rfl (fun K hK => ?_) AllReadyH.nil
  go_simp
  refine (pairB36 _).mono ?_
  rintro e w2 ⟨rfl, hbk⟩
  go_wp2_with fail
  refine hK.out _ _ ?hS (fun hHeldN => ?_)
  case hS =>
    have hh := hHeld
    (try dsimp only at hh)
    (try dsimp only)
    obtain ⟨a1, a2, a3, a4, a5, av, asz, ab⟩ := hh
    exact ⟨(hbk.cell (by first | omega | (simp <;> omega))).trans a1, (hbk.cell (by first | omega | (simp <;> omega))).trans a2, (hbk.cell (by first | omega | (simp <;> omega))).trans a3, (hbk.cell (by first | omega | (simp <;> omega))).trans a4, (hbk.cell (by first | omega | (simp <;> omega))).trans a5, av.below hbk, Nat.le_trans asz hbk.size, ab.trans (hbk.mono (by first | omega | (simp <;> omega)))⟩
  clear hbk
  clear hK K hHeld
  have hHeld := hHeldN
  clear hHeldN
  (try simp only [Act.put, List.setIfInBounds_toArray, List.set_cons_zero, List.set_cons_succ])
  refine wpAnyH_ready (rs := [1]) (by kernel_rfl) (by simp) ?_
  refine AllReadyH.cons (o := ⟨some 6, _, _, _, _, _⟩) rfl (fun K hK => ?_) AllReadyH.nil
  go_simp
  refine hK.out _ _ ?hS (fun hHeldN => ?_)
  case hS =>
    have hh := hHeld
    (try dsimp only at hh)
    (try dsimp only)
    obtain ⟨a1, a2, a3, a4, a5, av, asz, ab⟩ := hh
    exact ⟨a1, a2, a3, a4, a5, av, asz, ab⟩
  clear hK K hHeld
  have hHeld := hHeldN
  clear hHeldN
  (try simp only [Act.put, List.setIfInBounds_toArray, List.set_cons_zero, List.set_cons_succ])
  refine wpAnyH_ready (rs := [2]) (by kernel_rfl) (by simp) ?_
  refine AllReadyH.cons (o := ⟨some 7, _, _, _, _, _⟩) rfl (fun K hK => ?_) AllReadyH.nil
  go_simp
  refine (number35 _ _ _ _).mono ?_
  rintro e w2 ⟨rfl, hbk⟩
  go_wp2_with fail
  refine hK.out _ _ ?hS (fun hHeldN => ?_)
  case hS =>
    have hh := hHeld
    (try dsimp only at hh)
    (try dsimp only)
    obtain ⟨a1, a2, a3, a4, a5, av, asz, ab⟩ := hh
    exact ⟨(hbk.cell (by first | omega | (simp <;> omega))).trans a1, (hbk.cell (by first | omega | (simp <;> omega))).trans a2, (hbk.cell (by first | omega | (simp <;> omega))).trans a3, (hbk.cell (by first | omega | (simp <;> omega))).trans a4, (hbk.cell (by first | omega | (simp <;> omega))).trans a5, av.below hbk, Nat.le_trans asz hbk.size, ab.trans (hbk.mono (by first | omega | (simp <;> omega)))⟩
  clear hbk
  clear hK K hHeld
  have hHeld := hHeldN
  clear hHeldN
  (try simp only [Act.put, List.setIfInBounds_toArray, List.set_cons_zero, List.set_cons_succ])
  refine wpAnyH_ready (rs := [3]) (by kernel_rfl) (by simp) ?_
  refine AllReadyH.cons (o := ⟨some 8, _, _, _, _, _⟩) rfl (fun K hK => ?_) AllReadyH.nil
  go_simp
  refine (pairB36 _).mono ?_
  rintro e w2 ⟨rfl, hbk⟩
  go_wp2_with fail
  refine hK.out _ _ ?hS (fun hHeldN => ?_)
  case hS =>
    have hh := hHeld
    (try dsimp only at hh)
    (try dsimp only)
    obtain ⟨a1, a2, a3, a4, a5, av, asz, ab⟩ := hh
    exact ⟨(hbk.cell (by first | omega | (simp <;> omega))).trans a1, (hbk.cell (by first | omega | (simp <;> omega))).trans a2, (hbk.cell (by first | omega | (simp <;> omega))).trans a3, (hbk.cell (by first | omega | (simp <;> omega))).trans a4, (hbk.cell (by first | omega | (simp <;> omega))).trans a5, av.below hbk, Nat.le_trans asz hbk.size, ab.trans (hbk.mono (by first | omega | (simp <;> omega)))⟩
  clear hbk
  clear hK K hHeld
  have hHeld := hHeldN
  clear hHeldN
  (try simp only [Act.put, List.setIfInBounds_toArray, List.set_cons_zero, List.set_cons_succ])
  refine wpAnyH_ready (rs := [4]) (by kernel_rfl) (by simp) ?_
  refine AllReadyH.cons (o := ⟨some 9, _, _, _, _, _⟩) rfl (fun K hK => ?_) AllReadyH.nil
  go_simp
  refine hK.out _ _ ?hS (fun hHeldN => ?_)
  case hS =>
    have hh := hHeld
    (try dsimp only at hh)
    (try dsimp only)
    obtain ⟨a1, a2, a3, a4, a5, av, asz, ab⟩ := hh
    exact ⟨a1, a2, a3, a4, a5, av, asz, ab⟩
  clear hK K hHeld
  have hHeld := hHeldN
  clear hHeldN
  (try simp only [Act.put, List.setIfInBounds_toArray, List.set_cons_zero, List.set_cons_succ])
  refine wpAnyH_ready (rs := [5]) (by kernel_rfl) (by simp) ?_
  refine AllReadyH.cons (o := ⟨some 10, _, _, _, _, _⟩) rfl (fun K hK => ?_) AllReadyH.nil
  go_simp
  refine (number35 _ _ _ _).mono ?_
  rintro e w2 ⟨rfl, hbk⟩
  go_wp2_with fail
  refine hK.out _ _ ?hS (fun hHeldN => ?_)
  case hS =>
    have hh := hHeld
    (try dsimp only at hh)
    (try dsimp only)
    obtain ⟨a1, a2, a3, a4, a5, av, asz, ab⟩ := hh
    exact ⟨(hbk.cell (by first | omega | (simp <;> omega))).trans a1, (hbk.cell (by first | omega | (simp <;> omega))).trans a2, (hbk.cell (by first | omega | (simp <;> omega))).trans a3, (hbk.cell (by first | omega | (simp <;> omega))).trans a4, (hbk.cell (by first | omega | (simp <;> omega))).trans a5, av.below hbk, Nat.le_trans asz hbk.size, ab.trans (hbk.mono (by first | omega | (simp <;> omega)))⟩
  clear hbk
  clear hK K hHeld
  have hHeld := hHeldN
  clear hHeldN
  (try simp only [Act.put, List.setIfInBounds_toArray, List.set_cons_zero, List.set_cons_succ])
  refine wpAnyH_ready (rs := [6]) (by kernel_rfl) (by simp) ?_
  refine AllReadyH.cons (o := ⟨some 11, _, _, _, _, _⟩) rfl (fun K hK => ?_) AllReadyH.nil
  go_simp
  refine (pairB37 _).mono ?_
  rintro e w2 ⟨rfl, hbk⟩
  go_wp2_with fail
  refine hK.out _ _ ?hS (fun hHeldN => ?_)
  case hS =>
    have hh := hHeld
    (try dsimp only at hh)
    (try dsimp only)
    obtain ⟨a1, a2, a3, a4, a5, av, asz, ab⟩ := hh
    exact ⟨(hbk.cell (by first | omega | (simp <;> omega))).trans a1, (hbk.cell (by first | omega | (simp <;> omega))).trans a2, (hbk.cell (by first | omega | (simp <;> omega))).trans a3, (hbk.cell (by first | omega | (simp <;> omega))).trans a4, (hbk.cell (by first | omega | (simp <;> omega))).trans a5, av.below hbk, Nat.le_trans asz hbk.size, ab.trans (hbk.mono (by first | omega | (simp <;> omega)))⟩
  clear hbk
  clear hK K hHeld
  have hHeld := hHeldN
  clear hHeldN
  (try simp only [Act.put, List.setIfInBounds_toArray, List.set_cons_zero, List.set_cons_succ])
  refine wpAnyH_ready (rs := [7]) (by kernel_rfl) (by simp) ?_
  refine AllReadyH.cons (o := ⟨some 12, _, _, _, _, _⟩) rfl (fun K hK => ?_) AllReadyH.nil
  go_simp
  refine hK.out _ _ ?hS (fun hHeldN => ?_)
  case hS =>
    have hh := hHeld
    (try dsimp only at hh)
    (try dsimp only)
    obtain ⟨a1, a2, a3, a4, a5, av, asz, ab⟩ := hh
    exact ⟨a1, a2, a3, a4, a5, av, asz, ab⟩
  clear hK K hHeld
  have hHeld := hHeldN
  clear hHeldN
  (try simp only [Act.put, List.setIfInBounds_toArray, List.set_cons_zero, List.set_cons_succ])
  refine wpAnyH_ready (rs := [8]) (by kernel_rfl) (by simp) ?_
  refine AllReadyH.cons (o := ⟨some 13, _, _, _, _, _⟩) rfl (fun K hK => ?_) AllReadyH.nil
  go_simp
  refine (number35 _ _ _ _).mono ?_
  rintro e w2 ⟨rfl, hbk⟩
  go_wp2_with fail
  refine hK.out _ _ ?hS (fun hHeldN => ?_)
  case hS =>
    have hh := hHeld
    (try dsimp only at hh)
    (try dsimp only)
    obtain ⟨a1, a2, a3, a4, a5, av, asz, ab⟩ := hh
    exact ⟨(hbk.cell (by first | omega | (simp <;> omega))).trans a1, (hbk.cell (by first | omega | (simp <;> omega))).trans a2, (hbk.cell (by first | omega | (simp <;> omega))).trans a3, (hbk.cell (by first | omega | (simp <;> omega))).trans a4, (hbk.cell (by first | omega | (simp <;> omega))).trans a5, av.below hbk, Nat.le_trans asz hbk.size, ab.trans (hbk.mono (by first | omega | (simp <;> omega)))⟩
  clear hbk
  clear hK K hHeld
  have hHeld := hHeldN
  clear hHeldN
  (try simp only [Act.put, List.setIfInBounds_toArray, List.set_cons_zero, List.set_cons_succ])
  refine wpAnyH_ready (rs := [9]) (by kernel_rfl) (by simp) ?_
  refine AllReadyH.cons (o := ⟨some 14, _, _, _, _, _⟩) rfl (fun K hK => ?_) AllReadyH.nil
  go_simp
  refine (pairB37 _).mono ?_
  rintro e w2 ⟨rfl, hbk⟩
  go_wp2_with fail
  refine hK.out _ _ ?hS (fun hHeldN => ?_)
  case hS =>
    have hh := hHeld
    (try dsimp only at hh)
    (try dsimp only)
    obtain ⟨a1, a2, a3, a4, a5, av, asz, ab⟩ := hh
    exact ⟨(hbk.cell (by first | omega | (simp <;> omega))).trans a1, (hbk.cell (by first | omega | (simp <;> omega))).trans a2, (hbk.cell (by first | omega | (simp <;> omega))).trans a3, (hbk.cell (by first | omega | (simp <;> omega))).trans a4, (hbk.cell (by first | omega | (simp <;> omega))).trans a5, av.below hbk, Nat.le_trans asz hbk.size, ab.trans (hbk.mono (by first | omega | (simp <;> omega)))⟩
  clear hbk
  clear hK K hHeld
  have hHeld := hHeldN
  clear hHeldN
  (try simp only [Act.put, List.setIfInBounds_toArray, List.set_cons_zero, List.set_cons_succ])
  refine wpAnyH_ready (rs := [10]) (by kernel_rfl) (by simp) ?_
  refine AllReadyH.cons (o := ⟨some 15, _, _, _, _, _⟩) rfl (fun K hK => ?_) AllReadyH.nil
  go_simp
  refine hK.out _ _ ?hS (fun hHeldN => ?_)
  case hS =>
    have hh := hHeld
    (try dsimp only at hh)
    (try dsimp only)
    obtain ⟨a1, a2, a3, a4, a5, av, asz, ab⟩ := hh
    exact ⟨a1, a2, a3, a4, a5, av, asz, ab⟩
  clear hK K hHeld
  have hHeld := hHeldN
  clear hHeldN
  (try simp only [Act.put, List.setIfInBounds_toArray, List.set_cons_zero, List.set_cons_succ])
  refine wpAnyH_ready (rs := [11]) (by kernel_rfl) (by simp) ?_
  refine AllReadyH.cons (o := ⟨some 16, _, _, _, _, _⟩) rfl (fun K hK => ?_) AllReadyH.nil
  go_simp
  refine (number35 _ _ _ _).mono ?_
  rintro e w2 ⟨rfl, hbk⟩
  go_wp2_with fail
  refine hK.out _ _ ?hS (fun hHeldN => ?_)
  case hS =>
    have hh := hHeld
    (try dsimp only at hh)
    (try dsimp only)
    obtain ⟨a1, a2, a3, a4, a5, av, asz, ab⟩ := hh
    exact ⟨(hbk.cell (by first | omega | (simp <;> omega))).trans a1, (hbk.cell (by first | omega | (simp <;> omega))).trans a2, (hbk.cell (by first | omega | (simp <;> omega))).trans a3, (hbk.cell (by first | omega | (simp <;> omega))).trans a4, (hbk.cell (by first | omega | (simp <;> omega))).trans a5, av.below hbk, Nat.le_trans asz hbk.size, ab.trans (hbk.mono (by first | omega | (simp <;> omega)))⟩
  clear hbk
  clear hK K hHeld
  have hHeld := hHeldN
  clear hHeldN
  (try simp only [Act.put, List.setIfInBounds_toArray, List.set_cons_zero, List.set_cons_succ])
  refine wpAnyH_ready (rs := [14]) (by kernel_rfl) (by simp) ?_
  refine AllReadyH.cons (o := ⟨some 19, _, _, _, _, _⟩) rfl (fun K hK => ?_) AllReadyH.nil
  go_simp
  refine (number35 _ _ _ _).mono ?_
  rintro e w2 ⟨rfl, hbk⟩
  go_wp2_with fail
  refine hK.out _ _ ?hS (fun hHeldN => ?_)
  case hS =>
    have hh := hHeld
    (try dsimp only at hh)
    (try dsimp only)
    obtain ⟨a1, a2, a3, a4, a5, av, asz, ab⟩ := hh
    exact ⟨(hbk.cell (by first | omega | (simp <;> omega))).trans a1, (hbk.cell (by first | omega | (simp <;> omega))).trans a2, (hbk.cell (by first | omega | (simp <;> omega))).trans a3, (hbk.cell (by first | omega | (simp <;> omega))).trans a4, (hbk.cell (by first | omega | (simp <;> omega))).trans a5, av.below hbk, Nat.le_trans asz hbk.size, ab.trans (hbk.mono (by first | omega | (simp <;> omega)))⟩
  clear hbk
  clear hK K hHeld
  have hHeld := hHeldN
  clear hHeldN
  (try simp only [Act.put, List.setIfInBounds_toArray, List.set_cons_zero, List.set_cons_succ])
  refine wpAnyH_ready (rs := [15]) (by kernel_rfl) (by simp) ?_
  refine AllReadyH.cons (o := ⟨some 20, _, _, _, _, _⟩) rfl (fun K hK => ?_) AllReadyH.nil
  go_simp
  refine (scl38_false _ _ _ hHeld.2.2.2.2.2.1).mono ?_
  rintro e w2 ⟨g1, c1, rfl, ho1, hbk⟩
  replace ho1 := own_mono ho1 (Nat.le_trans (Nat.le_add_right _ 3) hHeld.2.2.2.2.2.2.1)
  go_wp2_with fail
  refine hK.out _ _ ?hS (fun hHeldN => ?_)
  case hS =>
    have hh := hHeld
    (try dsimp only at hh)
    (try dsimp only)
    obtain ⟨a1, a2, a3, a4, a5, av, asz, ab⟩ := hh
    exact ⟨(hbk.cell (by first | omega | (simp <;> omega))).trans a1, (hbk.cell (by first | omega | (simp <;> omega))).trans a2, (hbk.cell (by first | omega | (simp <;> omega))).trans a3, (hbk.cell (by first | omega | (simp <;> omega))).trans a4, (hbk.cell (by first | omega | (simp <;> omega))).trans a5, av.below hbk, Nat.le_trans asz hbk.size, ab.trans (hbk.mono (by first | omega | (simp <;> omega)))⟩
  clear hbk
  clear hK K hHeld
  have hHeld := hHeldN
  clear hHeldN
  (try simp only [Act.put, List.setIfInBounds_toArray, List.set_cons_zero, List.set_cons_succ])
  refine wpAnyH_ready (rs := [16]) (by kernel_rfl) (by simp) ?_
  refine AllReadyH.cons (o := ⟨some 21, _, _, _, _, _⟩) rfl (fun K hK => ?_) AllReadyH.nil
  go_simp
  refine (scl38_true _ _ _ hHeld.2.2.2.2.2.1).mono ?_
  rintro e w2 ⟨g2, c2, rfl, ho2, hbk⟩
  replace ho2 := own_mono ho2 (Nat.le_trans (Nat.le_add_right _ 3) hHeld.2.2.2.2.2.2.1)
  replace ho1 := own_below ho1 hbk
  go_wp2_with fail
  refine hK.out _ _ ?hS (fun hHeldN => ?_)
  case hS =>
    have hh := hHeld
    (try dsimp only at hh)
    (try dsimp only)
    obtain ⟨a1, a2, a3, a4, a5, av, asz, ab⟩ := hh
    exact ⟨(hbk.cell (by first | omega | (simp <;> omega))).trans a1, (hbk.cell (by first | omega | (simp <;> omega))).trans a2, (hbk.cell (by first | omega | (simp <;> omega))).trans a3, (hbk.cell (by first | omega | (simp <;> omega))).trans a4, (hbk.cell (by first | omega | (simp <;> omega))).trans a5, av.below hbk, Nat.le_trans asz hbk.size, ab.trans (hbk.mono (by first | omega | (simp <;> omega)))⟩
  clear hbk
  clear hK K hHeld
  have hHeld := hHeldN
  clear hHeldN
  (try simp only [Act.put, List.setIfInBounds_toArray, List.set_cons_zero, List.set_cons_succ])
  refine wpAnyH_ready (rs := [19]) (by kernel_rfl) (by simp) ?_
  refine AllReadyH.cons (o := ⟨some 24, _, _, _, _, _⟩) rfl (fun K hK => ?_) AllReadyH.nil
  go_simp
  refine (rule_income _ _ _ _ _).mono ?_
  rintro e w2 ⟨rfl, hbk⟩
  replace ho1 := own_below ho1 hbk
  replace ho2 := own_below ho2 hbk
  go_wp2_with fail
  refine hK.out _ _ ?hS (fun hHeldN => ?_)
  case hS =>
    have hh := hHeld
    (try dsimp only at hh)
    (try dsimp only)
    obtain ⟨a1, a2, a3, a4, a5, av, asz, ab⟩ := hh
    exact ⟨(hbk.cell (by first | omega | (simp <;> omega))).trans a1, (hbk.cell (by first | omega | (simp <;> omega))).trans a2, (hbk.cell (by first | omega | (simp <;> omega))).trans a3, (hbk.cell (by first | omega | (simp <;> omega))).trans a4, (hbk.cell (by first | omega | (simp <;> omega))).trans a5, av.below hbk, Nat.le_trans asz hbk.size, ab.trans (hbk.mono (by first | omega | (simp <;> omega)))⟩
  clear hbk
  clear hK K hHeld
  have hHeld := hHeldN
  clear hHeldN
  (try simp only [Act.put, List.setIfInBounds_toArray, List.set_cons_zero, List.set_cons_succ])
  refine wpAnyH_ready (rs := [22]) (by kernel_rfl) (by simp) ?_
  refine AllReadyH.cons (o := ⟨some 27, _, _, _, _, _⟩) rfl (fun K hK => ?_) AllReadyH.nil
  go_simp
  refine (rule_deduct _ _ _ _ _).mono ?_
  rintro e w2 ⟨rfl, hbk⟩
  replace ho1 := own_below ho1 hbk
  replace ho2 := own_below ho2 hbk
  go_wp2_with fail
  refine hK.out _ _ ?hS (fun hHeldN => ?_)
  case hS =>
    have hh := hHeld
    (try dsimp only at hh)
    (try dsimp only)
    obtain ⟨a1, a2, a3, a4, a5, av, asz, ab⟩ := hh
    exact ⟨(hbk.cell (by first | omega | (simp <;> omega))).trans a1, (hbk.cell (by first | omega | (simp <;> omega))).trans a2, (hbk.cell (by first | omega | (simp <;> omega))).trans a3, (hbk.cell (by first | omega | (simp <;> omega))).trans a4, (hbk.cell (by first | omega | (simp <;> omega))).trans a5, av.below hbk, Nat.le_trans asz hbk.size, ab.trans (hbk.mono (by first | omega | (simp <;> omega)))⟩
  clear hbk
  clear hK K hHeld
  have hHeld := hHeldN
  clear hHeldN
  (try simp only [Act.put, List.setIfInBounds_toArray, List.set_cons_zero, List.set_cons_succ])
  refine wpAnyH_ready (rs := [24]) (by kernel_rfl) (by simp) ?_
  refine AllReadyH.cons (o := ⟨some 29, _, _, _, _, _⟩) rfl (fun K hK => ?_) AllReadyH.nil
  go_simp
  refine (rule_taxable _ _ _ _ _).mono ?_
  rintro e w2 ⟨rfl, hbk⟩
  replace ho1 := own_below ho1 hbk
  replace ho2 := own_below ho2 hbk
  go_wp2_with fail
  refine hK.out _ _ ?hS (fun hHeldN => ?_)
  case hS =>
    have hh := hHeld
    (try dsimp only at hh)
    (try dsimp only)
    obtain ⟨a1, a2, a3, a4, a5, av, asz, ab⟩ := hh
    exact ⟨(hbk.cell (by first | omega | (simp <;> omega))).trans a1, (hbk.cell (by first | omega | (simp <;> omega))).trans a2, (hbk.cell (by first | omega | (simp <;> omega))).trans a3, (hbk.cell (by first | omega | (simp <;> omega))).trans a4, (hbk.cell (by first | omega | (simp <;> omega))).trans a5, av.below hbk, Nat.le_trans asz hbk.size, ab.trans (hbk.mono (by first | omega | (simp <;> omega)))⟩
  clear hbk
  clear hK K hHeld
  have hHeld := hHeldN
  clear hHeldN
  (try simp only [Act.put, List.setIfInBounds_toArray, List.set_cons_zero, List.set_cons_succ])
  refine wpAnyH_ready (rs := [27]) (by kernel_rfl) (by simp) ?_
  refine AllReadyH.cons (o := ⟨some 32, _, _, _, _, _⟩) rfl (fun K hK => ?_) AllReadyH.nil
  go_simp
  refine (rule_tax _ _ _ _ _).mono ?_
  rintro e w2 ⟨rfl, hbk⟩
  replace ho1 := own_below ho1 hbk
  replace ho2 := own_below ho2 hbk
  go_wp2_with fail
  refine hK.out _ _ ?hS (fun hHeldN => ?_)
  case hS =>
    have hh := hHeld
    (try dsimp only at hh)
    (try dsimp only)
    obtain ⟨a1, a2, a3, a4, a5, av, asz, ab⟩ := hh
    exact ⟨(hbk.cell (by first | omega | (simp <;> omega))).trans a1, (hbk.cell (by first | omega | (simp <;> omega))).trans a2, (hbk.cell (by first | omega | (simp <;> omega))).trans a3, (hbk.cell (by first | omega | (simp <;> omega))).trans a4, (hbk.cell (by first | omega | (simp <;> omega))).trans a5, av.below hbk, Nat.le_trans asz hbk.size, ab.trans (hbk.mono (by first | omega | (simp <;> omega)))⟩
  clear hbk
  clear hK K hHeld
  have hHeld := hHeldN
  clear hHeldN
  (try simp only [Act.put, List.setIfInBounds_toArray, List.set_cons_zero, List.set_cons_succ])
  refine wpAnyH_ready (rs := [30]) (by kernel_rfl) (by simp) ?_
  refine AllReadyH.cons (o := ⟨some 35, _, _, _, _, _⟩) rfl (fun K hK => ?_) AllReadyH.nil
  go_simp
  refine (rule_credit _ _ _ _ _).mono ?_
  rintro e w2 ⟨rfl, hbk⟩
  replace ho1 := own_below ho1 hbk
  replace ho2 := own_below ho2 hbk
  go_wp2_with fail
  refine hK.out _ _ ?hS (fun hHeldN => ?_)
  case hS =>
    have hh := hHeld
    (try dsimp only at hh)
    (try dsimp only)
    obtain ⟨a1, a2, a3, a4, a5, av, asz, ab⟩ := hh
    exact ⟨(hbk.cell (by first | omega | (simp <;> omega))).trans a1, (hbk.cell (by first | omega | (simp <;> omega))).trans a2, (hbk.cell (by first | omega | (simp <;> omega))).trans a3, (hbk.cell (by first | omega | (simp <;> omega))).trans a4, (hbk.cell (by first | omega | (simp <;> omega))).trans a5, av.below hbk, Nat.le_trans asz hbk.size, ab.trans (hbk.mono (by first | omega | (simp <;> omega)))⟩
  clear hbk
  clear hK K hHeld
  have hHeld := hHeldN
  clear hHeldN
  (try simp only [Act.put, List.setIfInBounds_toArray, List.set_cons_zero, List.set_cons_succ])
  refine wpAnyH_ready (rs := [33]) (by kernel_rfl) (by simp) ?_
  refine AllReadyH.cons (o := ⟨some 38, _, _, _, _, _⟩) rfl (fun K hK => ?_) AllReadyH.nil
  go_simp
  refine (rule_due _ _ _ _ _).mono ?_
  rintro e w2 ⟨rfl, hbk⟩
  replace ho1 := own_below ho1 hbk
  replace ho2 := own_below ho2 hbk
  go_wp2_with fail
  refine hK.out _ _ ?hS (fun hHeldN => ?_)
  case hS =>
    have hh := hHeld
    (try dsimp only at hh)
    (try dsimp only)
    obtain ⟨a1, a2, a3, a4, a5, av, asz, ab⟩ := hh
    exact ⟨(hbk.cell (by first | omega | (simp <;> omega))).trans a1, (hbk.cell (by first | omega | (simp <;> omega))).trans a2, (hbk.cell (by first | omega | (simp <;> omega))).trans a3, (hbk.cell (by first | omega | (simp <;> omega))).trans a4, (hbk.cell (by first | omega | (simp <;> omega))).trans a5, av.below hbk, Nat.le_trans asz hbk.size, ab.trans (hbk.mono (by first | omega | (simp <;> omega)))⟩
  clear hbk
  clear hK K hHeld
  have hHeld := hHeldN
  clear hHeldN
  (try simp only [Act.put, List.setIfInBounds_toArray, List.set_cons_zero, List.set_cons_succ])
  refine wpAnyH_ready (rs := [34]) (by kernel_rfl) (by simp) ?_
  refine AllReadyH.cons (o := ⟨some 39, _, _, _, _, _⟩) rfl (fun K hK => ?_) AllReadyH.nil
  refine step_build (by rfl) 39 55 13 _ (by rfl) (provsList (.slice (some ⟨g1, 0, none⟩) 4 c1) (.slice (some ⟨g2, 0, none⟩) 4 c2)).toArray i0 (.agg zero55) Tryd.underlying39 hi hz0 (by rw [hz1]; decide) (by rw [hz1]; decide) (by rw [hz1]; kernel_rfl) ?_
  have hal := (Below.refl w2.heap.size w2).alloc (Nat.le_refl _) (.cells (provsList (.slice (some ⟨g1, 0, none⟩) 4 c1) (.slice (some ⟨g2, 0, none⟩) 4 c2)).toArray 55)
  refine hK.out _ _ ?hS (fun hHeldN => ?_)
  case hS =>
    have hh := hHeld
    (try dsimp only at hh)
    (try dsimp only)
    obtain ⟨a1, a2, a3, a4, a5, av, asz, ab⟩ := hh
    exact ⟨(hal.cell (by first | omega | (simp <;> omega))).trans a1, (hal.cell (by first | omega | (simp <;> omega))).trans a2, (hal.cell (by first | omega | (simp <;> omega))).trans a3, (hal.cell (by first | omega | (simp <;> omega))).trans a4, (hal.cell (by first | omega | (simp <;> omega))).trans a5, av.below hal, Nat.le_trans asz hal.size, ab.trans (hal.mono (by first | omega | (simp <;> omega)))⟩
  clear hK K hHeld
  have hHeld := hHeldN
  clear hHeldN
  (try simp only [Act.put, List.setIfInBounds_toArray, List.set_cons_zero, List.set_cons_succ])
  refine wpAnyH_take (i := 35) (oi := ⟨some 0, _, _, _, _, _⟩) (v := ?_) rfl (by kernel_rfl) (by kernel_rfl) (by kernel_rfl) (fun _ _ _ h => h) (Or.inl ⟨by rfl, ?hy⟩) hHeld ?_
  case hy =>
    intro w hSw
    (try dsimp only at hSw)
    go_simp
    all_goals (with_reducible rfl)
  (try simp only [Act.put, List.setIfInBounds_toArray, List.set_cons_zero])
  refine wpAnyH_done (by kernel_rfl) ?_ _
  have hq := hHeld
  (try dsimp only at hq)
  obtain ⟨_, _, _, _, _, _, qs, qb⟩ := hq
  have q1 : w.heap.size ≤ w2.heap.size := by simp at qs; omega
  have HR : Hid (_ ∧ _ ∧ _) := ⟨ho1.alloc (.cells (provsList (.slice (some ⟨g1, 0, none⟩) 4 c1) (.slice (some ⟨g2, 0, none⟩) 4 c2)).toArray 55), ho2.alloc (.cells (provsList (.slice (some ⟨g1, 0, none⟩) 4 c1) (.slice (some ⟨g2, 0, none⟩) 4 c2)).toArray 55), qb⟩
  clear hHeld qs qb ho1 ho2 hal hi hz0 j0 j1 j2 j3
  go_wp2
  go_ret
  exact ⟨_, g1, c1, g2, c2, rfl, q1, by simp, heap_new _ _, HR.out⟩

end Go.Proofs.YtakbkdimknnopaaDoor
