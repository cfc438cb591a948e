/-
  No cell of these rows narrows 'for every input' (looked for: loops, veiled, ifaces, maps, wideKeys, modest, calm, conditions, laid).
  DERIVED. THE GIVEN ROWS OF THIS SEAT. 3 by the template 'for every input the law returns true; each argument reads behind the call as it read before'; 0 by the template 'total and deterministic' (their statements: YtbmlhdecnfplaaaTotals.lean).
  GIVEN WITH THE SEED: the statements are not yours to turn. If you find one false, say at which input.
  Laid BY PROGRAM, IN A SANDBOX (cutbox-rows.mjs): the forced cells as the released guide's own fill.sh prints them over the translation f70c9ccecdc65bbc… (all of the seat's roots in one cut). By AI agents, Wed Nov 11 2026. No macro, syntax, notation, axiom, sorry.
-/
import Derived.Test.YtbmlhdecnfplaaaChecked
import GoSem.Claim
import GoSem.ClaimJoined
import GoSem.ClaimMapViews
import Derived.JoinedTies
import Derived.KernelRfl
namespace Go.Proofs.Ytbmlhdecnfplaaa
/- THE CELL 'sum', in the pinned program and in every row, IS THE sha256 OF THE DUMP (.gsa) THAT YtbmlhdecnfplaaaProg.lean LOADS. Nothing in Lean hashes anything: it is a label: what it is worth is what the hold of that sum in a sandbox is worth. -/
noncomputable def Try.pinned : Pinned := { name := "ytbmlhdecnfplaaa", sum := "f70c9ccecdc65bbccf24b3187c52abc648078cf9593edfe9b49115f3303fddf9", checked := Try.checked }
namespace Rows
def none {H : Type} : Left H := { results := [], args := [] }

/-- 'quarrylaw21.HeadHard': WHATEVER THE INPUT: true; the input reads as it did. -/
def headHardSpec : ChangeSpec := { name := "headHard", fn := fun _ => fun
  | [d1, d2, d3] => { results := [.lit (.bool true)], args := [d1, d2, d3] }
  | _ => none }
def headHardRow : OpenClaim := { program := "ytbmlhdecnfplaaa", sum := "f70c9ccecdc65bbccf24b3187c52abc648078cf9593edfe9b49115f3303fddf9", func := "quarry/quarrylaw21.HeadHard", spec := "headHard", inPlace := ["math/bits.Add64", "math/bits.Sub64"], named := ["math/bits.divideError", "math/bits.overflowError"], apart := false }
def HeadHardSaid : Prop := headHardRow.holds Try.pinned (OpenSpec.ofChange headHardSpec)

/-- ITS FALSE NEIGHBOUR: 'it returns false'. Refute it at one input. -/
def headHardWrong : ChangeSpec := { name := "headHard", fn := fun _ => fun
  | [d1, d2, d3] => { results := [.lit (.bool false)], args := [d1, d2, d3] }
  | _ => none }
def HeadHardWrongFalsely : Prop := headHardRow.holds Try.pinned (OpenSpec.ofChange headHardWrong)

/-- 'quarrylaw21.HeadSlow': WHATEVER THE INPUT: true; the input reads as it did. -/
def headSlowSpec : ChangeSpec := { name := "headSlow", fn := fun _ => fun
  | [d1, d2, d3] => { results := [.lit (.bool true)], args := [d1, d2, d3] }
  | _ => none }
def headSlowRow : OpenClaim := { program := "ytbmlhdecnfplaaa", sum := "f70c9ccecdc65bbccf24b3187c52abc648078cf9593edfe9b49115f3303fddf9", func := "quarry/quarrylaw21.HeadSlow", spec := "headSlow", inPlace := ["math/bits.Add64", "math/bits.Sub64"], unfollowed := true, recurses := true, named := ["math/bits.divideError", "math/bits.overflowError"], apart := false }
def HeadSlowSaid : Prop := headSlowRow.holds Try.pinned (OpenSpec.ofChange headSlowSpec)

/-- ITS FALSE NEIGHBOUR: 'it returns false'. Refute it at one input. -/
def headSlowWrong : ChangeSpec := { name := "headSlow", fn := fun _ => fun
  | [d1, d2, d3] => { results := [.lit (.bool false)], args := [d1, d2, d3] }
  | _ => none }
def HeadSlowWrongFalsely : Prop := headSlowRow.holds Try.pinned (OpenSpec.ofChange headSlowWrong)

/-- 'quarrylaw21.HeadFees': WHATEVER THE INPUT: true; the input reads as it did. -/
def headFeesSpec : ChangeSpec := { name := "headFees", fn := fun _ => fun
  | [d1, d2, d3] => { results := [.lit (.bool true)], args := [d1, d2, d3] }
  | _ => none }
def headFeesRow : OpenClaim := { program := "ytbmlhdecnfplaaa", sum := "f70c9ccecdc65bbccf24b3187c52abc648078cf9593edfe9b49115f3303fddf9", func := "quarry/quarrylaw21.HeadFees", spec := "headFees", inPlace := ["math/bits.Add64", "math/bits.Sub64"], unfollowed := true, recurses := true, named := ["math/bits.divideError", "math/bits.overflowError"], apart := false }
def HeadFeesSaid : Prop := headFeesRow.holds Try.pinned (OpenSpec.ofChange headFeesSpec)

/-- ITS FALSE NEIGHBOUR: 'it returns false'. Refute it at one input. -/
def headFeesWrong : ChangeSpec := { name := "headFees", fn := fun _ => fun
  | [d1, d2, d3] => { results := [.lit (.bool false)], args := [d1, d2, d3] }
  | _ => none }
def HeadFeesWrongFalsely : Prop := headFeesRow.holds Try.pinned (OpenSpec.ofChange headFeesWrong)

/- THE SECOND FORM. 'bulk': how many values and letters a reading holds, each counted each time it is reached (what is shared counts as often as it is met; a slice's spare places count too). A statement '..UptoSaid' is the law's where the arguments, and the package variables that the reading takes, are together of bulk at most 1048576: NARROWER than '..Said'. Prove '..Said' where nothing that the law and all that it calls make is longer than what came in: it says more and counts as full. Else prove '..UptoSaid'. A law counts once. -/
mutual
def uptoBulk {H : Type} : DataW H → Nat
  | .lit (.string bytes) => bytes.length + 1
  | .lit _ => 1
  | .nil => 1
  | .ptr d => uptoBulk d + 1
  | .slice elems spare => uptoBulkAll elems + uptoBulkAll spare + 1
  | .agg parts => uptoBulkAll parts + 1
  | .iface _ d => uptoBulk d + 1
  | .map entries => uptoBulkEntries entries + 1
  | .held _ => 1
def uptoBulkAll {H : Type} : List (DataW H) → Nat
  | [] => 0
  | d :: r => uptoBulk d + uptoBulkAll r
def uptoBulkEntries {H : Type} : List (Lit × DataW H) → Nat
  | [] => 0
  | x :: r => uptoBulkEntry x + uptoBulkEntries r
def uptoBulkEntry {H : Type} : Lit × DataW H → Nat
  | (.string bytes, d) => bytes.length + uptoBulk d + 1
  | (_, d) => uptoBulk d + 1
 end
def uptoSmall : (H : Type) → List (DataW H) → Bool := fun _ ds => decide (uptoBulkAll ds ≤ 1048576)
def OpenSpec.upto (s : _root_.Go.ChangeSpec) : _root_.Go.OpenSpec := { _root_.Go.OpenSpec.ofChange s with cond := some uptoSmall }

/-- 'quarrylaw21.HeadHard', WHERE WHAT IT READS IS OF BULK AT MOST 1048576: true; the input reads as it did. -/
def headHardUptoRow : OpenClaim := { program := "ytbmlhdecnfplaaa", sum := "f70c9ccecdc65bbccf24b3187c52abc648078cf9593edfe9b49115f3303fddf9", func := "quarry/quarrylaw21.HeadHard", spec := "headHard", inPlace := ["math/bits.Add64", "math/bits.Sub64"], named := ["math/bits.divideError", "math/bits.overflowError"], apart := false, narrowed := true }
def HeadHardUptoSaid : Prop := headHardUptoRow.holds Try.pinned (OpenSpec.upto headHardSpec)

/-- 'quarrylaw21.HeadSlow', WHERE WHAT IT READS IS OF BULK AT MOST 1048576: true; the input reads as it did. -/
def headSlowUptoRow : OpenClaim := { program := "ytbmlhdecnfplaaa", sum := "f70c9ccecdc65bbccf24b3187c52abc648078cf9593edfe9b49115f3303fddf9", func := "quarry/quarrylaw21.HeadSlow", spec := "headSlow", inPlace := ["math/bits.Add64", "math/bits.Sub64"], unfollowed := true, recurses := true, named := ["math/bits.divideError", "math/bits.overflowError"], apart := false, narrowed := true }
def HeadSlowUptoSaid : Prop := headSlowUptoRow.holds Try.pinned (OpenSpec.upto headSlowSpec)

/-- 'quarrylaw21.HeadFees', WHERE WHAT IT READS IS OF BULK AT MOST 1048576: true; the input reads as it did. -/
def headFeesUptoRow : OpenClaim := { program := "ytbmlhdecnfplaaa", sum := "f70c9ccecdc65bbccf24b3187c52abc648078cf9593edfe9b49115f3303fddf9", func := "quarry/quarrylaw21.HeadFees", spec := "headFees", inPlace := ["math/bits.Add64", "math/bits.Sub64"], unfollowed := true, recurses := true, named := ["math/bits.divideError", "math/bits.overflowError"], apart := false, narrowed := true }
def HeadFeesUptoSaid : Prop := headFeesUptoRow.holds Try.pinned (OpenSpec.upto headFeesSpec)

end Rows
end Go.Proofs.Ytbmlhdecnfplaaa
