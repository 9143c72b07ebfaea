/- The first year's facts: what y1.Fact, y1.Sum and the reference's two functions compute, for every name and every number; on the condition that the package's five variables hold what they are laid with. -/
import Derived.Test.YtakbkdimknnopaaDoorRows
import Derived.WalkKit
import Derived.ProofKit
import Derived.WalkSpells
import Derived.WalkLawsBesides
namespace Go.Proofs.YtakbkdimknnopaaDoor
open Go.RowKit

theorem push_set (h : Array Obj) (o o' : Obj) : (h.push o).setIfInBounds h.size o' = h.push o' := by
  apply Array.ext_getElem?
  intro i
  rw [Array.getElem?_setIfInBounds, Array.getElem?_push, Array.getElem?_push]
  by_cases hi : i = h.size
  · subst hi; simp
  · rw [if_neg (fun e => hi e.symm), if_neg hi, if_neg hi]
theorem setIf_alloc (w : World) (o o' : Obj) : { w.alloc o with heap := (w.alloc o).heap.setIfInBounds w.heap.size o' } = w.alloc o' := by
  show World.mk ((w.heap.push o).setIfInBounds w.heap.size o') w.tape w.drawn w.os w.output = World.mk (w.heap.push o') w.tape w.drawn w.os w.output
  rw [push_set]
theorem ins (w : World) (es : Array MapEntry) (c : Nat) (k : ByteArray) (v : Value) (hf : Instr.findNow .string (.string k) es.toList 0 = some none) :
    (Instr.mapUpdate 61 (.map (some w.heap.size)) (.string k) v).run Tryd.prog (w.alloc (.map es c)) = .ok () (w.alloc (.map (es.push ⟨.string k, v, c⟩) (c + 1))) := by
  have hb : (w.alloc (.map es c)).heap[w.heap.size]? = some (.map es c) := by show (w.heap.push _)[w.heap.size]? = _; simp
  have hc : (Instr.checkKey false 10000 9 (.string k)).run Tryd.prog (w.alloc (.map es c)) = .ok () (w.alloc (.map es c)) := MapKept.run_checkKey (k := .string k) Tryd.underlying9 (by simp [MapKept.IsKey]) false 9999
  simp [Instr.mapUpdate, run_underlying Tryd.underlying61, MapKept.run_getObj_map hb, hc, MapKept.run_findKey Tryd.underlying9 hf, MapKept.run_setObj_map _ hb, Result.andThen]
  exact setIf_alloc w _ _

def ents0 : Array MapEntry := #[]
def ents1 : Array MapEntry := #[⟨.string ⟨#[99, 112, 105]⟩, .func (.func 47) #[] #[], 0⟩]
def ents2 : Array MapEntry := #[⟨.string ⟨#[99, 112, 105]⟩, .func (.func 47) #[] #[], 0⟩, ⟨.string ⟨#[102, 97, 99, 116, 111, 114]⟩, .func (.func 49) #[] #[], 1⟩]
def ents3 : Array MapEntry := #[⟨.string ⟨#[99, 112, 105]⟩, .func (.func 47) #[] #[], 0⟩, ⟨.string ⟨#[102, 97, 99, 116, 111, 114]⟩, .func (.func 49) #[] #[], 1⟩, ⟨.string ⟨#[115, 116, 97, 110, 100, 97, 114, 100]⟩, .func (.func 50) #[] #[], 2⟩]
def ents4 : Array MapEntry := #[⟨.string ⟨#[99, 112, 105]⟩, .func (.func 47) #[] #[], 0⟩, ⟨.string ⟨#[102, 97, 99, 116, 111, 114]⟩, .func (.func 49) #[] #[], 1⟩, ⟨.string ⟨#[115, 116, 97, 110, 100, 97, 114, 100]⟩, .func (.func 50) #[] #[], 2⟩, ⟨.string ⟨#[116, 111, 112]⟩, .func (.func 51) #[] #[], 3⟩]
def ents5 : Array MapEntry := #[⟨.string ⟨#[99, 112, 105]⟩, .func (.func 47) #[] #[], 0⟩, ⟨.string ⟨#[102, 97, 99, 116, 111, 114]⟩, .func (.func 49) #[] #[], 1⟩, ⟨.string ⟨#[115, 116, 97, 110, 100, 97, 114, 100]⟩, .func (.func 50) #[] #[], 2⟩, ⟨.string ⟨#[116, 111, 112]⟩, .func (.func 51) #[] #[], 3⟩, ⟨.string ⟨#[114, 97, 116, 101]⟩, .func (.func 52) #[] #[], 4⟩]
def ents6 : Array MapEntry := #[⟨.string ⟨#[99, 112, 105]⟩, .func (.func 47) #[] #[], 0⟩, ⟨.string ⟨#[102, 97, 99, 116, 111, 114]⟩, .func (.func 49) #[] #[], 1⟩, ⟨.string ⟨#[115, 116, 97, 110, 100, 97, 114, 100]⟩, .func (.func 50) #[] #[], 2⟩, ⟨.string ⟨#[116, 111, 112]⟩, .func (.func 51) #[] #[], 3⟩, ⟨.string ⟨#[114, 97, 116, 101]⟩, .func (.func 52) #[] #[], 4⟩, ⟨.string ⟨#[99, 114, 101, 100, 105, 116]⟩, .func (.func 53) #[] #[], 5⟩]
def ents7 : Array MapEntry := #[⟨.string ⟨#[99, 112, 105]⟩, .func (.func 47) #[] #[], 0⟩, ⟨.string ⟨#[102, 97, 99, 116, 111, 114]⟩, .func (.func 49) #[] #[], 1⟩, ⟨.string ⟨#[115, 116, 97, 110, 100, 97, 114, 100]⟩, .func (.func 50) #[] #[], 2⟩, ⟨.string ⟨#[116, 111, 112]⟩, .func (.func 51) #[] #[], 3⟩, ⟨.string ⟨#[114, 97, 116, 101]⟩, .func (.func 52) #[] #[], 4⟩, ⟨.string ⟨#[99, 114, 101, 100, 105, 116]⟩, .func (.func 53) #[] #[], 5⟩, ⟨.string ⟨#[112, 104, 97, 115, 101]⟩, .func (.func 54) #[] #[], 6⟩]
theorem ins0 (w : World) : (Instr.mapUpdate 61 (.map (some w.heap.size)) (.string ⟨#[99, 112, 105]⟩) (.func (.func 47) #[] #[])).run Tryd.prog (w.alloc (.map ents0 0)) = .ok () (w.alloc (.map ents1 1)) := ins w ents0 0 ⟨#[99, 112, 105]⟩ (.func (.func 47) #[] #[]) (by rfl)
theorem ins1 (w : World) : (Instr.mapUpdate 61 (.map (some w.heap.size)) (.string ⟨#[102, 97, 99, 116, 111, 114]⟩) (.func (.func 49) #[] #[])).run Tryd.prog (w.alloc (.map ents1 1)) = .ok () (w.alloc (.map ents2 2)) := ins w ents1 1 ⟨#[102, 97, 99, 116, 111, 114]⟩ (.func (.func 49) #[] #[]) (by rfl)
theorem ins2 (w : World) : (Instr.mapUpdate 61 (.map (some w.heap.size)) (.string ⟨#[115, 116, 97, 110, 100, 97, 114, 100]⟩) (.func (.func 50) #[] #[])).run Tryd.prog (w.alloc (.map ents2 2)) = .ok () (w.alloc (.map ents3 3)) := ins w ents2 2 ⟨#[115, 116, 97, 110, 100, 97, 114, 100]⟩ (.func (.func 50) #[] #[]) (by rfl)
theorem ins3 (w : World) : (Instr.mapUpdate 61 (.map (some w.heap.size)) (.string ⟨#[116, 111, 112]⟩) (.func (.func 51) #[] #[])).run Tryd.prog (w.alloc (.map ents3 3)) = .ok () (w.alloc (.map ents4 4)) := ins w ents3 3 ⟨#[116, 111, 112]⟩ (.func (.func 51) #[] #[]) (by rfl)
theorem ins4 (w : World) : (Instr.mapUpdate 61 (.map (some w.heap.size)) (.string ⟨#[114, 97, 116, 101]⟩) (.func (.func 52) #[] #[])).run Tryd.prog (w.alloc (.map ents4 4)) = .ok () (w.alloc (.map ents5 5)) := ins w ents4 4 ⟨#[114, 97, 116, 101]⟩ (.func (.func 52) #[] #[]) (by rfl)
theorem ins5 (w : World) : (Instr.mapUpdate 61 (.map (some w.heap.size)) (.string ⟨#[99, 114, 101, 100, 105, 116]⟩) (.func (.func 53) #[] #[])).run Tryd.prog (w.alloc (.map ents5 5)) = .ok () (w.alloc (.map ents6 6)) := ins w ents5 5 ⟨#[99, 114, 101, 100, 105, 116]⟩ (.func (.func 53) #[] #[]) (by rfl)
theorem ins6 (w : World) : (Instr.mapUpdate 61 (.map (some w.heap.size)) (.string ⟨#[112, 104, 97, 115, 101]⟩) (.func (.func 54) #[] #[])).run Tryd.prog (w.alloc (.map ents6 6)) = .ok () (w.alloc (.map ents7 7)) := ins w ents6 6 ⟨#[112, 104, 97, 115, 101]⟩ (.func (.func 54) #[] #[]) (by rfl)

set_option maxRecDepth 100000 in
theorem facts_any (w : World) :
    Calls Tryd.prog 29 #[] w fun e w' => e = .returned (.map (some w.heap.size)) ∧ w' = w.alloc (.map ents7 7) := by
  have hmm : (Instr.makeMap 61 none).run Tryd.prog w = .ok (.map (some w.heap.size)) (w.alloc (.map ents0 0)) := run_makeMap 61 w
  have h0 := ins0 w
  have h1 := ins1 w
  have h2 := ins2 w
  have h3 := ins3 w
  have h4 := ins4 w
  have h5 := ins5 w
  have h6 := ins6 w
  go_enter Tryd.func29, Tryd.ntmps29
  go_wp2
  go_ret
  exact ⟨rfl, rfl⟩

def nums (s : ByteArray) : List Int :=
  if s = ⟨#[99, 112, 105]⟩ then [1000] else
  if s = ⟨#[102, 97, 99, 116, 111, 114]⟩ then [1, 1] else
  if s = ⟨#[115, 116, 97, 110, 100, 97, 114, 100]⟩ then [4000, 7000] else
  if s = ⟨#[116, 111, 112]⟩ then [10000, 40000, 90000, 18000, 70000, 150000] else
  if s = ⟨#[114, 97, 116, 101]⟩ then [1000, 1500, 2800, 3500] else
  if s = ⟨#[99, 114, 101, 100, 105, 116]⟩ then [500, 900] else
  if s = ⟨#[112, 104, 97, 115, 101]⟩ then [60000] else
  []
theorem look (w : World) (s : ByteArray) (v : Value) (hf : (∃ i, Instr.findNow .string (.string s) ents7.toList 0 = some (some (i, v))) ∨ Instr.findNow .string (.string s) ents7.toList 0 = some none ∧ v = .nilFunc) :
    (Instr.lookup 61 (.map (some w.heap.size)) (.string s) false).run Tryd.prog (w.alloc (.map ents7 7)) = .ok v (w.alloc (.map ents7 7)) := by
  have hb : (w.alloc (.map ents7 7)).heap[w.heap.size]? = some (.map ents7 7) := by show (w.heap.push _)[w.heap.size]? = _; simp
  have hc : (Instr.checkKey ents7.isEmpty 10000 9 (.string s)).run Tryd.prog (w.alloc (.map ents7 7)) = .ok () (w.alloc (.map ents7 7)) := MapKept.run_checkKey (k := .string s) Tryd.underlying9 (by simp [MapKept.IsKey]) _ 9999
  have hz : ∀ w, (zeroValue 60).run Tryd.prog w = .ok .nilFunc w := fun _ => by kernel_rfl
  rcases hf with ⟨i, hf⟩ | ⟨hf, rfl⟩
  · simp [Instr.lookup, run_underlying Tryd.underlying61, MapKept.run_getObj_map hb, hc, MapKept.run_findKey Tryd.underlying9 hf, Result.andThen]
  · simp [Instr.lookup, run_underlying Tryd.underlying61, MapKept.run_getObj_map hb, hc, MapKept.run_findKey Tryd.underlying9 hf, Result.andThen, hz]

theorem look0 (w : World) : (Instr.lookup 61 (.map (some w.heap.size)) (.string ⟨#[99, 112, 105]⟩) false).run Tryd.prog (w.alloc (.map ents7 7)) = .ok (.func (.func 47) #[] #[]) (w.alloc (.map ents7 7)) := look w _ _ (Or.inl ⟨0, by rfl⟩)
theorem look1 (w : World) : (Instr.lookup 61 (.map (some w.heap.size)) (.string ⟨#[102, 97, 99, 116, 111, 114]⟩) false).run Tryd.prog (w.alloc (.map ents7 7)) = .ok (.func (.func 49) #[] #[]) (w.alloc (.map ents7 7)) := look w _ _ (Or.inl ⟨1, by rfl⟩)
theorem look2 (w : World) : (Instr.lookup 61 (.map (some w.heap.size)) (.string ⟨#[115, 116, 97, 110, 100, 97, 114, 100]⟩) false).run Tryd.prog (w.alloc (.map ents7 7)) = .ok (.func (.func 50) #[] #[]) (w.alloc (.map ents7 7)) := look w _ _ (Or.inl ⟨2, by rfl⟩)
theorem look3 (w : World) : (Instr.lookup 61 (.map (some w.heap.size)) (.string ⟨#[116, 111, 112]⟩) false).run Tryd.prog (w.alloc (.map ents7 7)) = .ok (.func (.func 51) #[] #[]) (w.alloc (.map ents7 7)) := look w _ _ (Or.inl ⟨3, by rfl⟩)
theorem look4 (w : World) : (Instr.lookup 61 (.map (some w.heap.size)) (.string ⟨#[114, 97, 116, 101]⟩) false).run Tryd.prog (w.alloc (.map ents7 7)) = .ok (.func (.func 52) #[] #[]) (w.alloc (.map ents7 7)) := look w _ _ (Or.inl ⟨4, by rfl⟩)
theorem look5 (w : World) : (Instr.lookup 61 (.map (some w.heap.size)) (.string ⟨#[99, 114, 101, 100, 105, 116]⟩) false).run Tryd.prog (w.alloc (.map ents7 7)) = .ok (.func (.func 53) #[] #[]) (w.alloc (.map ents7 7)) := look w _ _ (Or.inl ⟨5, by rfl⟩)
theorem look6 (w : World) : (Instr.lookup 61 (.map (some w.heap.size)) (.string ⟨#[112, 104, 97, 115, 101]⟩) false).run Tryd.prog (w.alloc (.map ents7 7)) = .ok (.func (.func 54) #[] #[]) (w.alloc (.map ents7 7)) := look w _ _ (Or.inl ⟨6, by rfl⟩)
theorem bne_of {s t : ByteArray} (h : s ≠ t) : (s == t) = false := by
  cases e : s == t with
  | false => rfl
  | true => exact absurd ((MapKept.bytes_beq _ _).1 e) h
theorem look_none (w : World) (s : ByteArray) (h0 : s ≠ ⟨#[99, 112, 105]⟩) (h1 : s ≠ ⟨#[102, 97, 99, 116, 111, 114]⟩) (h2 : s ≠ ⟨#[115, 116, 97, 110, 100, 97, 114, 100]⟩) (h3 : s ≠ ⟨#[116, 111, 112]⟩) (h4 : s ≠ ⟨#[114, 97, 116, 101]⟩) (h5 : s ≠ ⟨#[99, 114, 101, 100, 105, 116]⟩) (h6 : s ≠ ⟨#[112, 104, 97, 115, 101]⟩) : (Instr.lookup 61 (.map (some w.heap.size)) (.string s) false).run Tryd.prog (w.alloc (.map ents7 7)) = .ok .nilFunc (w.alloc (.map ents7 7)) := look w _ _ (Or.inr ⟨by simp [ents7, Instr.findNow, Instr.sameNow, bne_of h0, bne_of h1, bne_of h2, bne_of h3, bne_of h4, bne_of h5, bne_of h6], rfl⟩)

/-- What the package's variables hold. -/
structure Vars (w : World) : Prop where
  f0 : w.cell? ⟨0, 0, none⟩ = some (.int .i64 1)
  f1 : w.cell? ⟨0, 1, none⟩ = some (.int .i64 1)
  p0 : w.cell? ⟨1, 0, none⟩ = some (.int .i64 60000)
  t0 : w.cell? ⟨2, 0, none⟩ = some (.int .i64 10000)
  t1 : w.cell? ⟨2, 1, none⟩ = some (.int .i64 40000)
  t2 : w.cell? ⟨2, 2, none⟩ = some (.int .i64 90000)
  t3 : w.cell? ⟨2, 3, none⟩ = some (.int .i64 18000)
  t4 : w.cell? ⟨2, 4, none⟩ = some (.int .i64 70000)
  t5 : w.cell? ⟨2, 5, none⟩ = some (.int .i64 150000)
  r0 : w.cell? ⟨3, 0, none⟩ = some (.int .i64 1000)
  r1 : w.cell? ⟨3, 1, none⟩ = some (.int .i64 1500)
  r2 : w.cell? ⟨3, 2, none⟩ = some (.int .i64 2800)
  r3 : w.cell? ⟨3, 3, none⟩ = some (.int .i64 3500)
  c0 : w.cell? ⟨4, 0, none⟩ = some (.int .i64 1000)
theorem Vars.below {w w' : World} (h : Vars w) (hb : Below w.heap.size w w') : Vars w' := by
  have k : ∀ {a v}, w.cell? a = some v → w'.cell? a = some v := fun hc => (hb.cell (World.block_lt_of_cell? w _ hc)).trans hc
  exact ⟨k h.f0, k h.f1, k h.p0, k h.t0, k h.t1, k h.t2, k h.t3, k h.t4, k h.t5, k h.r0, k h.r1, k h.r2, k h.r3, k h.c0⟩
theorem Vars.size {w : World} (h : Vars w) : 4 < w.heap.size := World.block_lt_of_cell? w _ h.c0

end Go.Proofs.YtakbkdimknnopaaDoor
