/-
  NARROWER THAN 'FOR EVERY INPUT', by the rows' own cells (each row's printed sentence says how): Y1Facts: laid · Y1Notes: laid · Y1Provs: laid · Y1Source: laid.
  DERIVED. THE GIVEN ROWS OF THIS SEAT. 4 by the template 'for every input the law returns true; each argument reads behind the call as it read before'; 0 by the template 'total and deterministic' (their statements: YtakbkdimknnopaaDoorTotals.lean).
  GIVEN WITH THE SEED: the statements are not yours to turn. If you find one false, say at which input.
  Laid BY PROGRAM, IN A SANDBOX (cutbox-rows.mjs): the forced cells as the released guide's own fill.sh prints them over the translation af70d23dea75544c… (all of the seat's roots in one cut). By AI agents, Wed Nov 11 2026. No macro, syntax, notation, axiom, sorry.
-/
import Derived.Test.YtakbkdimknnopaaDoorChecked
import GoSem.Claim
import GoSem.ClaimJoined
import GoSem.ClaimMapViews
import Derived.JoinedTies
import Derived.KernelRfl
namespace Go.Proofs.YtakbkdimknnopaaDoor
/- THE CELL 'sum', in the pinned program and in every row, IS THE sha256 OF THE DUMP (.gsa) THAT YtakbkdimknnopaaDoorProg.lean LOADS. Nothing in Lean hashes anything: it is a label: what it is worth is what the hold of that sum in a sandbox is worth. -/
noncomputable def Tryd.pinned : Pinned := { name := "ytakbkdimknnopaadoor", sum := "af70d23dea75544c5cecd1e9b0f23405055efe8c0cb4369ed54d4a65442140b7", checked := Tryd.checked }
namespace Rows
def none {H : Type} : Left H := { results := [], args := [] }

/- WHAT THE LISTED PACKAGE-LEVEL VARIABLES READ AS WHEN THE CALL BEGINS. Each datum BY PROGRAM (the guide's laid-datum.mjs) off the statement by which the dump's own 'gosem.cut.vars' lays the variable. In a bare row this is a premise. The card (YtakbkdimknnopaaDoorCards.lean) ties it to the program's text. -/
def laid_tithe_y1_cpi {H : Type} : DataW H := .agg [.lit (.int .i64 1000)]
def laid_tithe_y1_factor {H : Type} : DataW H := .agg [.lit (.int .i64 1), .lit (.int .i64 1)]
def laid_tithe_y1_top {H : Type} : DataW H := .agg [.lit (.int .i64 10000), .lit (.int .i64 40000), .lit (.int .i64 90000), .lit (.int .i64 18000), .lit (.int .i64 70000), .lit (.int .i64 150000)]
def laid_tithe_y1_rate {H : Type} : DataW H := .agg [.lit (.int .i64 1000), .lit (.int .i64 1500), .lit (.int .i64 2800), .lit (.int .i64 3500)]
def laid_tithe_y1_phase {H : Type} : DataW H := .agg [.lit (.int .i64 60000)]
def laid_tithe_api_ErrRange {H : Type} : DataW H := .iface "*errors.errorString" (.ptr (.agg [.lit (.string [97, 32, 110, 117, 109, 98, 101, 114, 32, 98, 101, 121, 111, 110, 100, 32, 116, 104, 101, 32, 114, 97, 110, 103, 101])]))
def laid_tithe_api_ErrZero {H : Type} : DataW H := .iface "*errors.errorString" (.ptr (.agg [.lit (.string [100, 105, 118, 105, 100, 101, 100, 32, 98, 121, 32, 122, 101, 114, 111])]))

/-- 'tithelaw17.Y1Facts': WHATEVER THE INPUT: true; the input reads as it did. -/
def y1FactsSpec : ChangeSpec := { name := "y1Facts", fn := fun _ => fun
  | [d1, d2] => { results := [.lit (.bool true)], args := [d1, d2] }
  | _ => none }
def y1FactsRow : OpenClaim := { program := "ytakbkdimknnopaadoor", sum := "af70d23dea75544c5cecd1e9b0f23405055efe8c0cb4369ed54d4a65442140b7", func := "tithe/tithelaw17.Y1Facts", spec := "y1Facts", unfollowed := true, recurses := true, named := ["tithe/y1.cpi", "tithe/y1.factor", "tithe/y1.top", "tithe/y1.rate", "tithe/y1.phase"], apart := false, laid := [("tithe/y1.cpi", laid_tithe_y1_cpi), ("tithe/y1.factor", laid_tithe_y1_factor), ("tithe/y1.top", laid_tithe_y1_top), ("tithe/y1.rate", laid_tithe_y1_rate), ("tithe/y1.phase", laid_tithe_y1_phase)] }
def Y1FactsSaid : Prop := y1FactsRow.holds Tryd.pinned (OpenSpec.ofChange y1FactsSpec)

/-- ITS FALSE NEIGHBOUR: 'it returns false'. Refute it at one input. -/
def y1FactsWrong : ChangeSpec := { name := "y1Facts", fn := fun _ => fun
  | [d1, d2] => { results := [.lit (.bool false)], args := [d1, d2] }
  | _ => none }
def Y1FactsWrongFalsely : Prop := y1FactsRow.holds Tryd.pinned (OpenSpec.ofChange y1FactsWrong)

/-- 'tithelaw17.Y1Notes': WHATEVER THE INPUT: true; the input reads as it did. -/
def y1NotesSpec : ChangeSpec := { name := "y1Notes", fn := fun _ => fun
  | [d] => { results := [.lit (.bool true)], args := [d] }
  | _ => none }
def y1NotesRow : OpenClaim := { program := "ytakbkdimknnopaadoor", sum := "af70d23dea75544c5cecd1e9b0f23405055efe8c0cb4369ed54d4a65442140b7", func := "tithe/tithelaw17.Y1Notes", spec := "y1Notes", unfollowed := true, recurses := true, named := ["tithe/y1.cpi", "tithe/y1.factor", "tithe/y1.top", "tithe/y1.rate", "tithe/y1.phase"], apart := false, laid := [("tithe/y1.cpi", laid_tithe_y1_cpi), ("tithe/y1.factor", laid_tithe_y1_factor), ("tithe/y1.top", laid_tithe_y1_top), ("tithe/y1.rate", laid_tithe_y1_rate), ("tithe/y1.phase", laid_tithe_y1_phase)] }
def Y1NotesSaid : Prop := y1NotesRow.holds Tryd.pinned (OpenSpec.ofChange y1NotesSpec)

/-- ITS FALSE NEIGHBOUR: 'it returns false'. Refute it at one input. -/
def y1NotesWrong : ChangeSpec := { name := "y1Notes", fn := fun _ => fun
  | [d] => { results := [.lit (.bool false)], args := [d] }
  | _ => none }
def Y1NotesWrongFalsely : Prop := y1NotesRow.holds Tryd.pinned (OpenSpec.ofChange y1NotesWrong)

/-- 'tithelaw17.Y1Provs': WHATEVER THE INPUT: true; the input reads as it did. -/
def y1ProvsSpec : ChangeSpec := { name := "y1Provs", fn := fun _ => fun
  | [d1, d2] => { results := [.lit (.bool true)], args := [d1, d2] }
  | _ => none }
def y1ProvsRow : OpenClaim := { program := "ytakbkdimknnopaadoor", sum := "af70d23dea75544c5cecd1e9b0f23405055efe8c0cb4369ed54d4a65442140b7", func := "tithe/tithelaw17.Y1Provs", spec := "y1Provs", unfollowed := true, recurses := true, named := ["tithe/y1.cpi", "tithe/y1.factor", "tithe/y1.top", "tithe/y1.rate", "tithe/y1.phase", "tithe/api.ErrZero", "tithe/api.ErrRange"], apart := false, laid := [("tithe/api.ErrRange", laid_tithe_api_ErrRange), ("tithe/api.ErrZero", laid_tithe_api_ErrZero), ("tithe/y1.cpi", laid_tithe_y1_cpi), ("tithe/y1.factor", laid_tithe_y1_factor), ("tithe/y1.top", laid_tithe_y1_top), ("tithe/y1.rate", laid_tithe_y1_rate), ("tithe/y1.phase", laid_tithe_y1_phase)] }
def Y1ProvsSaid : Prop := y1ProvsRow.holds Tryd.pinned (OpenSpec.ofChange y1ProvsSpec)

/-- ITS FALSE NEIGHBOUR: 'it returns false'. Refute it at one input. -/
def y1ProvsWrong : ChangeSpec := { name := "y1Provs", fn := fun _ => fun
  | [d1, d2] => { results := [.lit (.bool false)], args := [d1, d2] }
  | _ => none }
def Y1ProvsWrongFalsely : Prop := y1ProvsRow.holds Tryd.pinned (OpenSpec.ofChange y1ProvsWrong)

/-- 'tithelaw17.Y1Source': WHATEVER THE INPUT: true; the input reads as it did. -/
def y1SourceSpec : ChangeSpec := { name := "y1Source", fn := fun _ => fun
  | [d] => { results := [.lit (.bool true)], args := [d] }
  | _ => none }
def y1SourceRow : OpenClaim := { program := "ytakbkdimknnopaadoor", sum := "af70d23dea75544c5cecd1e9b0f23405055efe8c0cb4369ed54d4a65442140b7", func := "tithe/tithelaw17.Y1Source", spec := "y1Source", unfollowed := true, recurses := true, named := ["tithe/y1.cpi", "tithe/y1.factor", "tithe/y1.top", "tithe/y1.rate", "tithe/y1.phase", "tithe/api.ErrZero", "tithe/api.ErrRange"], apart := false, laid := [("tithe/api.ErrRange", laid_tithe_api_ErrRange), ("tithe/api.ErrZero", laid_tithe_api_ErrZero), ("tithe/y1.cpi", laid_tithe_y1_cpi), ("tithe/y1.factor", laid_tithe_y1_factor), ("tithe/y1.top", laid_tithe_y1_top), ("tithe/y1.rate", laid_tithe_y1_rate), ("tithe/y1.phase", laid_tithe_y1_phase)] }
def Y1SourceSaid : Prop := y1SourceRow.holds Tryd.pinned (OpenSpec.ofChange y1SourceSpec)

/-- ITS FALSE NEIGHBOUR: 'it returns false'. Refute it at one input. -/
def y1SourceWrong : ChangeSpec := { name := "y1Source", fn := fun _ => fun
  | [d] => { results := [.lit (.bool false)], args := [d] }
  | _ => none }
def Y1SourceWrongFalsely : Prop := y1SourceRow.holds Tryd.pinned (OpenSpec.ofChange y1SourceWrong)

/- THE SECOND FORM. 'bulk': how many values and letters a reading holds, each counted each time it is reached (what is shared counts as often as it is met; a slice's spare places count too). A statement '..UptoSaid' is the law's where the arguments, and the package variables that the reading takes, are together of bulk at most 1048576: NARROWER than '..Said'. Prove '..Said' where nothing that the law and all that it calls make is longer than what came in: it says more and counts as full. Else prove '..UptoSaid'. A law counts once. -/
mutual
def uptoBulk {H : Type} : DataW H → Nat
  | .lit (.string bytes) => bytes.length + 1
  | .lit _ => 1
  | .nil => 1
  | .ptr d => uptoBulk d + 1
  | .slice elems spare => uptoBulkAll elems + uptoBulkAll spare + 1
  | .agg parts => uptoBulkAll parts + 1
  | .iface _ d => uptoBulk d + 1
  | .map entries => uptoBulkEntries entries + 1
  | .held _ => 1
def uptoBulkAll {H : Type} : List (DataW H) → Nat
  | [] => 0
  | d :: r => uptoBulk d + uptoBulkAll r
def uptoBulkEntries {H : Type} : List (Lit × DataW H) → Nat
  | [] => 0
  | x :: r => uptoBulkEntry x + uptoBulkEntries r
def uptoBulkEntry {H : Type} : Lit × DataW H → Nat
  | (.string bytes, d) => bytes.length + uptoBulk d + 1
  | (_, d) => uptoBulk d + 1
 end
def uptoSmall : (H : Type) → List (DataW H) → Bool := fun _ ds => decide (uptoBulkAll ds ≤ 1048576)
def OpenSpec.upto (s : _root_.Go.ChangeSpec) : _root_.Go.OpenSpec := { _root_.Go.OpenSpec.ofChange s with cond := some uptoSmall }

/-- 'tithelaw17.Y1Facts', WHERE WHAT IT READS IS OF BULK AT MOST 1048576: true; the input reads as it did. -/
def y1FactsUptoRow : OpenClaim := { program := "ytakbkdimknnopaadoor", sum := "af70d23dea75544c5cecd1e9b0f23405055efe8c0cb4369ed54d4a65442140b7", func := "tithe/tithelaw17.Y1Facts", spec := "y1Facts", unfollowed := true, recurses := true, named := ["tithe/y1.cpi", "tithe/y1.factor", "tithe/y1.top", "tithe/y1.rate", "tithe/y1.phase"], apart := false, laid := [("tithe/y1.cpi", laid_tithe_y1_cpi), ("tithe/y1.factor", laid_tithe_y1_factor), ("tithe/y1.top", laid_tithe_y1_top), ("tithe/y1.rate", laid_tithe_y1_rate), ("tithe/y1.phase", laid_tithe_y1_phase)], narrowed := true }
def Y1FactsUptoSaid : Prop := y1FactsUptoRow.holds Tryd.pinned (OpenSpec.upto y1FactsSpec)

/-- 'tithelaw17.Y1Notes', WHERE WHAT IT READS IS OF BULK AT MOST 1048576: true; the input reads as it did. -/
def y1NotesUptoRow : OpenClaim := { program := "ytakbkdimknnopaadoor", sum := "af70d23dea75544c5cecd1e9b0f23405055efe8c0cb4369ed54d4a65442140b7", func := "tithe/tithelaw17.Y1Notes", spec := "y1Notes", unfollowed := true, recurses := true, named := ["tithe/y1.cpi", "tithe/y1.factor", "tithe/y1.top", "tithe/y1.rate", "tithe/y1.phase"], apart := false, laid := [("tithe/y1.cpi", laid_tithe_y1_cpi), ("tithe/y1.factor", laid_tithe_y1_factor), ("tithe/y1.top", laid_tithe_y1_top), ("tithe/y1.rate", laid_tithe_y1_rate), ("tithe/y1.phase", laid_tithe_y1_phase)], narrowed := true }
def Y1NotesUptoSaid : Prop := y1NotesUptoRow.holds Tryd.pinned (OpenSpec.upto y1NotesSpec)

/-- 'tithelaw17.Y1Provs', WHERE WHAT IT READS IS OF BULK AT MOST 1048576: true; the input reads as it did. -/
def y1ProvsUptoRow : OpenClaim := { program := "ytakbkdimknnopaadoor", sum := "af70d23dea75544c5cecd1e9b0f23405055efe8c0cb4369ed54d4a65442140b7", func := "tithe/tithelaw17.Y1Provs", spec := "y1Provs", unfollowed := true, recurses := true, named := ["tithe/y1.cpi", "tithe/y1.factor", "tithe/y1.top", "tithe/y1.rate", "tithe/y1.phase", "tithe/api.ErrZero", "tithe/api.ErrRange"], apart := false, laid := [("tithe/api.ErrRange", laid_tithe_api_ErrRange), ("tithe/api.ErrZero", laid_tithe_api_ErrZero), ("tithe/y1.cpi", laid_tithe_y1_cpi), ("tithe/y1.factor", laid_tithe_y1_factor), ("tithe/y1.top", laid_tithe_y1_top), ("tithe/y1.rate", laid_tithe_y1_rate), ("tithe/y1.phase", laid_tithe_y1_phase)], narrowed := true }
def Y1ProvsUptoSaid : Prop := y1ProvsUptoRow.holds Tryd.pinned (OpenSpec.upto y1ProvsSpec)

/-- 'tithelaw17.Y1Source', WHERE WHAT IT READS IS OF BULK AT MOST 1048576: true; the input reads as it did. -/
def y1SourceUptoRow : OpenClaim := { program := "ytakbkdimknnopaadoor", sum := "af70d23dea75544c5cecd1e9b0f23405055efe8c0cb4369ed54d4a65442140b7", func := "tithe/tithelaw17.Y1Source", spec := "y1Source", unfollowed := true, recurses := true, named := ["tithe/y1.cpi", "tithe/y1.factor", "tithe/y1.top", "tithe/y1.rate", "tithe/y1.phase", "tithe/api.ErrZero", "tithe/api.ErrRange"], apart := false, laid := [("tithe/api.ErrRange", laid_tithe_api_ErrRange), ("tithe/api.ErrZero", laid_tithe_api_ErrZero), ("tithe/y1.cpi", laid_tithe_y1_cpi), ("tithe/y1.factor", laid_tithe_y1_factor), ("tithe/y1.top", laid_tithe_y1_top), ("tithe/y1.rate", laid_tithe_y1_rate), ("tithe/y1.phase", laid_tithe_y1_phase)], narrowed := true }
def Y1SourceUptoSaid : Prop := y1SourceUptoRow.holds Tryd.pinned (OpenSpec.upto y1SourceSpec)

end Rows
end Go.Proofs.YtakbkdimknnopaaDoor
