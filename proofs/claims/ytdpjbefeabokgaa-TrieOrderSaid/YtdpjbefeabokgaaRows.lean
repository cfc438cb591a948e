/-
  No cell of these rows narrows 'for every input' (looked for: loops, veiled, ifaces, maps, wideKeys, modest, calm, conditions, laid).
  DERIVED. THE GIVEN ROWS OF THIS SEAT. 4 by the template 'for every input the law returns true; each argument reads behind the call as it read before'; 0 by the template 'total and deterministic' (their statements: YtdpjbefeabokgaaTotals.lean).
  GIVEN WITH THE SEED: the statements are not yours to turn. If you find one false, say at which input.
  Laid BY PROGRAM, IN A SANDBOX (cutbox-rows.mjs): the forced cells as the released guide's own fill.sh prints them over the translation f8b60114c68d4730… (all of the seat's roots in one cut). By AI agents, Wed Nov 11 2026. No macro, syntax, notation, axiom, sorry.
-/
import Derived.Test.YtdpjbefeabokgaaChecked
import GoSem.Claim
import GoSem.ClaimJoined
import GoSem.ClaimMapViews
import Derived.JoinedTies
import Derived.KernelRfl
namespace Go.Proofs.Ytdpjbefeabokgaa
/- THE CELL 'sum', in the pinned program and in every row, IS THE sha256 OF THE DUMP (.gsa) THAT YtdpjbefeabokgaaProg.lean LOADS. Nothing in Lean hashes anything: it is a label: what it is worth is what the hold of that sum in a sandbox is worth. -/
noncomputable def Try.pinned : Pinned := { name := "ytdpjbefeabokgaa", sum := "f8b60114c68d473093c78ba4d620a178d7c4cc2f659fe9305e83af6714010f74", checked := Try.checked }
namespace Rows
def none {H : Type} : Left H := { results := [], args := [] }

/-- 'quarrylaw12.TrieExact': WHATEVER THE INPUT: true; the input reads as it did. -/
def trieExactSpec : ChangeSpec := { name := "trieExact", fn := fun _ => fun
  | [d] => { results := [.lit (.bool true)], args := [d] }
  | _ => none }
def trieExactRow : OpenClaim := { program := "ytdpjbefeabokgaa", sum := "f8b60114c68d473093c78ba4d620a178d7c4cc2f659fe9305e83af6714010f74", func := "quarry/quarrylaw12.TrieExact", spec := "trieExact", unfollowed := true, recurses := true, apart := false }
def TrieExactSaid : Prop := trieExactRow.holds Try.pinned (OpenSpec.ofChange trieExactSpec)

/-- ITS FALSE NEIGHBOUR: 'it returns false'. Refute it at one input. -/
def trieExactWrong : ChangeSpec := { name := "trieExact", fn := fun _ => fun
  | [d] => { results := [.lit (.bool false)], args := [d] }
  | _ => none }
def TrieExactWrongFalsely : Prop := trieExactRow.holds Try.pinned (OpenSpec.ofChange trieExactWrong)

/-- 'quarrylaw12.TrieOrder': WHATEVER THE INPUT: true; the input reads as it did. -/
def trieOrderSpec : ChangeSpec := { name := "trieOrder", fn := fun _ => fun
  | [d1, d2, d3] => { results := [.lit (.bool true)], args := [d1, d2, d3] }
  | _ => none }
def trieOrderRow : OpenClaim := { program := "ytdpjbefeabokgaa", sum := "f8b60114c68d473093c78ba4d620a178d7c4cc2f659fe9305e83af6714010f74", func := "quarry/quarrylaw12.TrieOrder", spec := "trieOrder", unfollowed := true, recurses := true, apart := false }
def TrieOrderSaid : Prop := trieOrderRow.holds Try.pinned (OpenSpec.ofChange trieOrderSpec)

/-- ITS FALSE NEIGHBOUR: 'it returns false'. Refute it at one input. -/
def trieOrderWrong : ChangeSpec := { name := "trieOrder", fn := fun _ => fun
  | [d1, d2, d3] => { results := [.lit (.bool false)], args := [d1, d2, d3] }
  | _ => none }
def TrieOrderWrongFalsely : Prop := trieOrderRow.holds Try.pinned (OpenSpec.ofChange trieOrderWrong)

/-- 'quarrylaw12.TrieCompact': WHATEVER THE INPUT: true; the input reads as it did. -/
def trieCompactSpec : ChangeSpec := { name := "trieCompact", fn := fun _ => fun
  | [d1, d2] => { results := [.lit (.bool true)], args := [d1, d2] }
  | _ => none }
def trieCompactRow : OpenClaim := { program := "ytdpjbefeabokgaa", sum := "f8b60114c68d473093c78ba4d620a178d7c4cc2f659fe9305e83af6714010f74", func := "quarry/quarrylaw12.TrieCompact", spec := "trieCompact", unfollowed := true, recurses := true, apart := false }
def TrieCompactSaid : Prop := trieCompactRow.holds Try.pinned (OpenSpec.ofChange trieCompactSpec)

/-- ITS FALSE NEIGHBOUR: 'it returns false'. Refute it at one input. -/
def trieCompactWrong : ChangeSpec := { name := "trieCompact", fn := fun _ => fun
  | [d1, d2] => { results := [.lit (.bool false)], args := [d1, d2] }
  | _ => none }
def TrieCompactWrongFalsely : Prop := trieCompactRow.holds Try.pinned (OpenSpec.ofChange trieCompactWrong)

/-- 'quarrylaw12.TrieClash': WHATEVER THE INPUT: true; the input reads as it did. -/
def trieClashSpec : ChangeSpec := { name := "trieClash", fn := fun _ => fun
  | [d1, d2] => { results := [.lit (.bool true)], args := [d1, d2] }
  | _ => none }
def trieClashRow : OpenClaim := { program := "ytdpjbefeabokgaa", sum := "f8b60114c68d473093c78ba4d620a178d7c4cc2f659fe9305e83af6714010f74", func := "quarry/quarrylaw12.TrieClash", spec := "trieClash", unfollowed := true, recurses := true, apart := false }
def TrieClashSaid : Prop := trieClashRow.holds Try.pinned (OpenSpec.ofChange trieClashSpec)

/-- ITS FALSE NEIGHBOUR: 'it returns false'. Refute it at one input. -/
def trieClashWrong : ChangeSpec := { name := "trieClash", fn := fun _ => fun
  | [d1, d2] => { results := [.lit (.bool false)], args := [d1, d2] }
  | _ => none }
def TrieClashWrongFalsely : Prop := trieClashRow.holds Try.pinned (OpenSpec.ofChange trieClashWrong)

/- THE SECOND FORM. 'bulk': how many values and letters a reading holds, each counted each time it is reached (what is shared counts as often as it is met; a slice's spare places count too). A statement '..UptoSaid' is the law's where the arguments, and the package variables that the reading takes, are together of bulk at most 1048576: NARROWER than '..Said'. Prove '..Said' where nothing that the law and all that it calls make is longer than what came in: it says more and counts as full. Else prove '..UptoSaid'. A law counts once. -/
mutual
def uptoBulk {H : Type} : DataW H → Nat
  | .lit (.string bytes) => bytes.length + 1
  | .lit _ => 1
  | .nil => 1
  | .ptr d => uptoBulk d + 1
  | .slice elems spare => uptoBulkAll elems + uptoBulkAll spare + 1
  | .agg parts => uptoBulkAll parts + 1
  | .iface _ d => uptoBulk d + 1
  | .map entries => uptoBulkEntries entries + 1
  | .held _ => 1
def uptoBulkAll {H : Type} : List (DataW H) → Nat
  | [] => 0
  | d :: r => uptoBulk d + uptoBulkAll r
def uptoBulkEntries {H : Type} : List (Lit × DataW H) → Nat
  | [] => 0
  | x :: r => uptoBulkEntry x + uptoBulkEntries r
def uptoBulkEntry {H : Type} : Lit × DataW H → Nat
  | (.string bytes, d) => bytes.length + uptoBulk d + 1
  | (_, d) => uptoBulk d + 1
 end
def uptoSmall : (H : Type) → List (DataW H) → Bool := fun _ ds => decide (uptoBulkAll ds ≤ 1048576)
def OpenSpec.upto (s : _root_.Go.ChangeSpec) : _root_.Go.OpenSpec := { _root_.Go.OpenSpec.ofChange s with cond := some uptoSmall }

/-- 'quarrylaw12.TrieExact', WHERE WHAT IT READS IS OF BULK AT MOST 1048576: true; the input reads as it did. -/
def trieExactUptoRow : OpenClaim := { program := "ytdpjbefeabokgaa", sum := "f8b60114c68d473093c78ba4d620a178d7c4cc2f659fe9305e83af6714010f74", func := "quarry/quarrylaw12.TrieExact", spec := "trieExact", unfollowed := true, recurses := true, apart := false, narrowed := true }
def TrieExactUptoSaid : Prop := trieExactUptoRow.holds Try.pinned (OpenSpec.upto trieExactSpec)

/-- 'quarrylaw12.TrieOrder', WHERE WHAT IT READS IS OF BULK AT MOST 1048576: true; the input reads as it did. -/
def trieOrderUptoRow : OpenClaim := { program := "ytdpjbefeabokgaa", sum := "f8b60114c68d473093c78ba4d620a178d7c4cc2f659fe9305e83af6714010f74", func := "quarry/quarrylaw12.TrieOrder", spec := "trieOrder", unfollowed := true, recurses := true, apart := false, narrowed := true }
def TrieOrderUptoSaid : Prop := trieOrderUptoRow.holds Try.pinned (OpenSpec.upto trieOrderSpec)

/-- 'quarrylaw12.TrieCompact', WHERE WHAT IT READS IS OF BULK AT MOST 1048576: true; the input reads as it did. -/
def trieCompactUptoRow : OpenClaim := { program := "ytdpjbefeabokgaa", sum := "f8b60114c68d473093c78ba4d620a178d7c4cc2f659fe9305e83af6714010f74", func := "quarry/quarrylaw12.TrieCompact", spec := "trieCompact", unfollowed := true, recurses := true, apart := false, narrowed := true }
def TrieCompactUptoSaid : Prop := trieCompactUptoRow.holds Try.pinned (OpenSpec.upto trieCompactSpec)

/-- 'quarrylaw12.TrieClash', WHERE WHAT IT READS IS OF BULK AT MOST 1048576: true; the input reads as it did. -/
def trieClashUptoRow : OpenClaim := { program := "ytdpjbefeabokgaa", sum := "f8b60114c68d473093c78ba4d620a178d7c4cc2f659fe9305e83af6714010f74", func := "quarry/quarrylaw12.TrieClash", spec := "trieClash", unfollowed := true, recurses := true, apart := false, narrowed := true }
def TrieClashUptoSaid : Prop := trieClashUptoRow.holds Try.pinned (OpenSpec.upto trieClashSpec)

end Rows
end Go.Proofs.Ytdpjbefeabokgaa
