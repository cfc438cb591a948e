/-
  NARROWER THAN 'FOR EVERY INPUT', by the rows' own cells (each row's printed sentence says how): RlpEncode: loops · RlpBack: loops · RlpPieces: loops · RlpOwn: loops.
  DERIVED. THE GIVEN ROWS OF THIS SEAT. 8 by the template 'for every input the law returns true; each argument reads behind the call as it read before'; 0 by the template 'total and deterministic' (their statements: YtohmmgggaegbbaaTotals.lean).
  GIVEN WITH THE SEED: the statements are not yours to turn. If you find one false, say at which input.
  Laid BY PROGRAM, IN A SANDBOX (cutbox-rows.mjs): the forced cells as the released guide's own fill.sh prints them over the translation 1af662ecba06246f… (all of the seat's roots in one cut). By AI agents, Wed Nov 11 2026. No macro, syntax, notation, axiom, sorry.
-/
import Derived.Test.YtohmmgggaegbbaaChecked
import GoSem.Claim
import GoSem.ClaimJoined
import GoSem.ClaimMapViews
import Derived.JoinedTies
import Derived.KernelRfl
namespace Go.Proofs.Ytohmmgggaegbbaa
/- THE CELL 'sum', in the pinned program and in every row, IS THE sha256 OF THE DUMP (.gsa) THAT YtohmmgggaegbbaaProg.lean LOADS. Nothing in Lean hashes anything: it is a label: what it is worth is what the hold of that sum in a sandbox is worth. -/
noncomputable def Try.pinned : Pinned := { name := "ytohmmgggaegbbaa", sum := "1af662ecba06246fc34febd589442163d232cc8315fd6ff729a581f9e0391a14", checked := Try.checked }
namespace Rows
def none {H : Type} : Left H := { results := [], args := [] }

/-- 'quarrylaw05.RlpEncode': WHATEVER THE INPUT: true; the input reads as it did. -/
def rlpEncodeSpec : ChangeSpec := { name := "rlpEncode", fn := fun _ => fun
  | [d1, d2] => { results := [.lit (.bool true)], args := [d1, d2] }
  | _ => none }
def rlpEncodeRow : OpenClaim := { program := "ytohmmgggaegbbaa", sum := "1af662ecba06246fc34febd589442163d232cc8315fd6ff729a581f9e0391a14", func := "quarry/quarrylaw05.RlpEncode", spec := "rlpEncode", recurses := true, loops := true, apart := false }
def RlpEncodeSaid : Prop := rlpEncodeRow.holds Try.pinned (OpenSpec.ofChange rlpEncodeSpec)

/-- ITS FALSE NEIGHBOUR: 'it returns false'. Refute it at one input. -/
def rlpEncodeWrong : ChangeSpec := { name := "rlpEncode", fn := fun _ => fun
  | [d1, d2] => { results := [.lit (.bool false)], args := [d1, d2] }
  | _ => none }
def RlpEncodeWrongFalsely : Prop := rlpEncodeRow.holds Try.pinned (OpenSpec.ofChange rlpEncodeWrong)

/-- 'quarrylaw05.RlpDecode': WHATEVER THE INPUT: true; the input reads as it did. -/
def rlpDecodeSpec : ChangeSpec := { name := "rlpDecode", fn := fun _ => fun
  | [d] => { results := [.lit (.bool true)], args := [d] }
  | _ => none }
def rlpDecodeRow : OpenClaim := { program := "ytohmmgggaegbbaa", sum := "1af662ecba06246fc34febd589442163d232cc8315fd6ff729a581f9e0391a14", func := "quarry/quarrylaw05.RlpDecode", spec := "rlpDecode", recurses := true, apart := false }
def RlpDecodeSaid : Prop := rlpDecodeRow.holds Try.pinned (OpenSpec.ofChange rlpDecodeSpec)

/-- ITS FALSE NEIGHBOUR: 'it returns false'. Refute it at one input. -/
def rlpDecodeWrong : ChangeSpec := { name := "rlpDecode", fn := fun _ => fun
  | [d] => { results := [.lit (.bool false)], args := [d] }
  | _ => none }
def RlpDecodeWrongFalsely : Prop := rlpDecodeRow.holds Try.pinned (OpenSpec.ofChange rlpDecodeWrong)

/-- 'quarrylaw05.RlpBack': WHATEVER THE INPUT: true; the input reads as it did. -/
def rlpBackSpec : ChangeSpec := { name := "rlpBack", fn := fun _ => fun
  | [d1, d2, d3] => { results := [.lit (.bool true)], args := [d1, d2, d3] }
  | _ => none }
def rlpBackRow : OpenClaim := { program := "ytohmmgggaegbbaa", sum := "1af662ecba06246fc34febd589442163d232cc8315fd6ff729a581f9e0391a14", func := "quarry/quarrylaw05.RlpBack", spec := "rlpBack", recurses := true, loops := true, apart := false }
def RlpBackSaid : Prop := rlpBackRow.holds Try.pinned (OpenSpec.ofChange rlpBackSpec)

/-- ITS FALSE NEIGHBOUR: 'it returns false'. Refute it at one input. -/
def rlpBackWrong : ChangeSpec := { name := "rlpBack", fn := fun _ => fun
  | [d1, d2, d3] => { results := [.lit (.bool false)], args := [d1, d2, d3] }
  | _ => none }
def RlpBackWrongFalsely : Prop := rlpBackRow.holds Try.pinned (OpenSpec.ofChange rlpBackWrong)

/-- 'quarrylaw05.RlpEnvelope': WHATEVER THE INPUT: true; the input reads as it did. -/
def rlpEnvelopeSpec : ChangeSpec := { name := "rlpEnvelope", fn := fun _ => fun
  | [d] => { results := [.lit (.bool true)], args := [d] }
  | _ => none }
def rlpEnvelopeRow : OpenClaim := { program := "ytohmmgggaegbbaa", sum := "1af662ecba06246fc34febd589442163d232cc8315fd6ff729a581f9e0391a14", func := "quarry/quarrylaw05.RlpEnvelope", spec := "rlpEnvelope", recurses := true, apart := false }
def RlpEnvelopeSaid : Prop := rlpEnvelopeRow.holds Try.pinned (OpenSpec.ofChange rlpEnvelopeSpec)

/-- ITS FALSE NEIGHBOUR: 'it returns false'. Refute it at one input. -/
def rlpEnvelopeWrong : ChangeSpec := { name := "rlpEnvelope", fn := fun _ => fun
  | [d] => { results := [.lit (.bool false)], args := [d] }
  | _ => none }
def RlpEnvelopeWrongFalsely : Prop := rlpEnvelopeRow.holds Try.pinned (OpenSpec.ofChange rlpEnvelopeWrong)

/-- 'quarrylaw05.RlpSplit': WHATEVER THE INPUT: true; the input reads as it did. -/
def rlpSplitSpec : ChangeSpec := { name := "rlpSplit", fn := fun _ => fun
  | [d] => { results := [.lit (.bool true)], args := [d] }
  | _ => none }
def rlpSplitRow : OpenClaim := { program := "ytohmmgggaegbbaa", sum := "1af662ecba06246fc34febd589442163d232cc8315fd6ff729a581f9e0391a14", func := "quarry/quarrylaw05.RlpSplit", spec := "rlpSplit", recurses := true, apart := false }
def RlpSplitSaid : Prop := rlpSplitRow.holds Try.pinned (OpenSpec.ofChange rlpSplitSpec)

/-- ITS FALSE NEIGHBOUR: 'it returns false'. Refute it at one input. -/
def rlpSplitWrong : ChangeSpec := { name := "rlpSplit", fn := fun _ => fun
  | [d] => { results := [.lit (.bool false)], args := [d] }
  | _ => none }
def RlpSplitWrongFalsely : Prop := rlpSplitRow.holds Try.pinned (OpenSpec.ofChange rlpSplitWrong)

/-- 'quarrylaw05.RlpPieces': WHATEVER THE INPUT: true; the input reads as it did. -/
def rlpPiecesSpec : ChangeSpec := { name := "rlpPieces", fn := fun _ => fun
  | [d] => { results := [.lit (.bool true)], args := [d] }
  | _ => none }
def rlpPiecesRow : OpenClaim := { program := "ytohmmgggaegbbaa", sum := "1af662ecba06246fc34febd589442163d232cc8315fd6ff729a581f9e0391a14", func := "quarry/quarrylaw05.RlpPieces", spec := "rlpPieces", recurses := true, loops := true, apart := false }
def RlpPiecesSaid : Prop := rlpPiecesRow.holds Try.pinned (OpenSpec.ofChange rlpPiecesSpec)

/-- ITS FALSE NEIGHBOUR: 'it returns false'. Refute it at one input. -/
def rlpPiecesWrong : ChangeSpec := { name := "rlpPieces", fn := fun _ => fun
  | [d] => { results := [.lit (.bool false)], args := [d] }
  | _ => none }
def RlpPiecesWrongFalsely : Prop := rlpPiecesRow.holds Try.pinned (OpenSpec.ofChange rlpPiecesWrong)

/-- 'quarrylaw05.RlpOwn': WHATEVER THE INPUT: true; the input reads as it did. -/
def rlpOwnSpec : ChangeSpec := { name := "rlpOwn", fn := fun _ => fun
  | [d1, d2] => { results := [.lit (.bool true)], args := [d1, d2] }
  | _ => none }
def rlpOwnRow : OpenClaim := { program := "ytohmmgggaegbbaa", sum := "1af662ecba06246fc34febd589442163d232cc8315fd6ff729a581f9e0391a14", func := "quarry/quarrylaw05.RlpOwn", spec := "rlpOwn", recurses := true, loops := true, apart := false }
def RlpOwnSaid : Prop := rlpOwnRow.holds Try.pinned (OpenSpec.ofChange rlpOwnSpec)

/-- ITS FALSE NEIGHBOUR: 'it returns false'. Refute it at one input. -/
def rlpOwnWrong : ChangeSpec := { name := "rlpOwn", fn := fun _ => fun
  | [d1, d2] => { results := [.lit (.bool false)], args := [d1, d2] }
  | _ => none }
def RlpOwnWrongFalsely : Prop := rlpOwnRow.holds Try.pinned (OpenSpec.ofChange rlpOwnWrong)

/-- 'quarrylaw05.RlpNumbers': WHATEVER THE INPUT: true; the input reads as it did. -/
def rlpNumbersSpec : ChangeSpec := { name := "rlpNumbers", fn := fun _ => fun
  | [d1, d2] => { results := [.lit (.bool true)], args := [d1, d2] }
  | _ => none }
def rlpNumbersRow : OpenClaim := { program := "ytohmmgggaegbbaa", sum := "1af662ecba06246fc34febd589442163d232cc8315fd6ff729a581f9e0391a14", func := "quarry/quarrylaw05.RlpNumbers", spec := "rlpNumbers", recurses := true, apart := false }
def RlpNumbersSaid : Prop := rlpNumbersRow.holds Try.pinned (OpenSpec.ofChange rlpNumbersSpec)

/-- ITS FALSE NEIGHBOUR: 'it returns false'. Refute it at one input. -/
def rlpNumbersWrong : ChangeSpec := { name := "rlpNumbers", fn := fun _ => fun
  | [d1, d2] => { results := [.lit (.bool false)], args := [d1, d2] }
  | _ => none }
def RlpNumbersWrongFalsely : Prop := rlpNumbersRow.holds Try.pinned (OpenSpec.ofChange rlpNumbersWrong)

/- THE SECOND FORM. 'bulk': how many values and letters a reading holds, each counted each time it is reached (what is shared counts as often as it is met; a slice's spare places count too). A statement '..UptoSaid' is the law's where the arguments, and the package variables that the reading takes, are together of bulk at most 1048576: NARROWER than '..Said'. Prove '..Said' where nothing that the law and all that it calls make is longer than what came in: it says more and counts as full. Else prove '..UptoSaid'. A law counts once. -/
mutual
def uptoBulk {H : Type} : DataW H → Nat
  | .lit (.string bytes) => bytes.length + 1
  | .lit _ => 1
  | .nil => 1
  | .ptr d => uptoBulk d + 1
  | .slice elems spare => uptoBulkAll elems + uptoBulkAll spare + 1
  | .agg parts => uptoBulkAll parts + 1
  | .iface _ d => uptoBulk d + 1
  | .map entries => uptoBulkEntries entries + 1
  | .held _ => 1
def uptoBulkAll {H : Type} : List (DataW H) → Nat
  | [] => 0
  | d :: r => uptoBulk d + uptoBulkAll r
def uptoBulkEntries {H : Type} : List (Lit × DataW H) → Nat
  | [] => 0
  | x :: r => uptoBulkEntry x + uptoBulkEntries r
def uptoBulkEntry {H : Type} : Lit × DataW H → Nat
  | (.string bytes, d) => bytes.length + uptoBulk d + 1
  | (_, d) => uptoBulk d + 1
 end
def uptoSmall : (H : Type) → List (DataW H) → Bool := fun _ ds => decide (uptoBulkAll ds ≤ 1048576)
def OpenSpec.upto (s : _root_.Go.ChangeSpec) : _root_.Go.OpenSpec := { _root_.Go.OpenSpec.ofChange s with cond := some uptoSmall }

/-- 'quarrylaw05.RlpEncode', WHERE WHAT IT READS IS OF BULK AT MOST 1048576: true; the input reads as it did. -/
def rlpEncodeUptoRow : OpenClaim := { program := "ytohmmgggaegbbaa", sum := "1af662ecba06246fc34febd589442163d232cc8315fd6ff729a581f9e0391a14", func := "quarry/quarrylaw05.RlpEncode", spec := "rlpEncode", recurses := true, loops := true, apart := false, narrowed := true }
def RlpEncodeUptoSaid : Prop := rlpEncodeUptoRow.holds Try.pinned (OpenSpec.upto rlpEncodeSpec)

/-- 'quarrylaw05.RlpDecode', WHERE WHAT IT READS IS OF BULK AT MOST 1048576: true; the input reads as it did. -/
def rlpDecodeUptoRow : OpenClaim := { program := "ytohmmgggaegbbaa", sum := "1af662ecba06246fc34febd589442163d232cc8315fd6ff729a581f9e0391a14", func := "quarry/quarrylaw05.RlpDecode", spec := "rlpDecode", recurses := true, apart := false, narrowed := true }
def RlpDecodeUptoSaid : Prop := rlpDecodeUptoRow.holds Try.pinned (OpenSpec.upto rlpDecodeSpec)

/-- 'quarrylaw05.RlpBack', WHERE WHAT IT READS IS OF BULK AT MOST 1048576: true; the input reads as it did. -/
def rlpBackUptoRow : OpenClaim := { program := "ytohmmgggaegbbaa", sum := "1af662ecba06246fc34febd589442163d232cc8315fd6ff729a581f9e0391a14", func := "quarry/quarrylaw05.RlpBack", spec := "rlpBack", recurses := true, loops := true, apart := false, narrowed := true }
def RlpBackUptoSaid : Prop := rlpBackUptoRow.holds Try.pinned (OpenSpec.upto rlpBackSpec)

/-- 'quarrylaw05.RlpEnvelope', WHERE WHAT IT READS IS OF BULK AT MOST 1048576: true; the input reads as it did. -/
def rlpEnvelopeUptoRow : OpenClaim := { program := "ytohmmgggaegbbaa", sum := "1af662ecba06246fc34febd589442163d232cc8315fd6ff729a581f9e0391a14", func := "quarry/quarrylaw05.RlpEnvelope", spec := "rlpEnvelope", recurses := true, apart := false, narrowed := true }
def RlpEnvelopeUptoSaid : Prop := rlpEnvelopeUptoRow.holds Try.pinned (OpenSpec.upto rlpEnvelopeSpec)

/-- 'quarrylaw05.RlpSplit', WHERE WHAT IT READS IS OF BULK AT MOST 1048576: true; the input reads as it did. -/
def rlpSplitUptoRow : OpenClaim := { program := "ytohmmgggaegbbaa", sum := "1af662ecba06246fc34febd589442163d232cc8315fd6ff729a581f9e0391a14", func := "quarry/quarrylaw05.RlpSplit", spec := "rlpSplit", recurses := true, apart := false, narrowed := true }
def RlpSplitUptoSaid : Prop := rlpSplitUptoRow.holds Try.pinned (OpenSpec.upto rlpSplitSpec)

/-- 'quarrylaw05.RlpPieces', WHERE WHAT IT READS IS OF BULK AT MOST 1048576: true; the input reads as it did. -/
def rlpPiecesUptoRow : OpenClaim := { program := "ytohmmgggaegbbaa", sum := "1af662ecba06246fc34febd589442163d232cc8315fd6ff729a581f9e0391a14", func := "quarry/quarrylaw05.RlpPieces", spec := "rlpPieces", recurses := true, loops := true, apart := false, narrowed := true }
def RlpPiecesUptoSaid : Prop := rlpPiecesUptoRow.holds Try.pinned (OpenSpec.upto rlpPiecesSpec)

/-- 'quarrylaw05.RlpOwn', WHERE WHAT IT READS IS OF BULK AT MOST 1048576: true; the input reads as it did. -/
def rlpOwnUptoRow : OpenClaim := { program := "ytohmmgggaegbbaa", sum := "1af662ecba06246fc34febd589442163d232cc8315fd6ff729a581f9e0391a14", func := "quarry/quarrylaw05.RlpOwn", spec := "rlpOwn", recurses := true, loops := true, apart := false, narrowed := true }
def RlpOwnUptoSaid : Prop := rlpOwnUptoRow.holds Try.pinned (OpenSpec.upto rlpOwnSpec)

/-- 'quarrylaw05.RlpNumbers', WHERE WHAT IT READS IS OF BULK AT MOST 1048576: true; the input reads as it did. -/
def rlpNumbersUptoRow : OpenClaim := { program := "ytohmmgggaegbbaa", sum := "1af662ecba06246fc34febd589442163d232cc8315fd6ff729a581f9e0391a14", func := "quarry/quarrylaw05.RlpNumbers", spec := "rlpNumbers", recurses := true, apart := false, narrowed := true }
def RlpNumbersUptoSaid : Prop := rlpNumbersUptoRow.holds Try.pinned (OpenSpec.upto rlpNumbersSpec)

end Rows
end Go.Proofs.Ytohmmgggaegbbaa
