/-
  No cell of these rows narrows 'for every input' (looked for: loops, veiled, ifaces, maps, wideKeys, modest, calm, conditions, laid).
  DERIVED. THE GIVEN ROWS OF THIS SEAT. 5 by the template 'for every input the law returns true; each argument reads behind the call as it read before'; 0 by the template 'total and deterministic' (their statements: YtljacjjeinmfnaaTotals.lean).
  GIVEN WITH THE SEED: the statements are not yours to turn. If you find one false, say at which input.
  Laid BY PROGRAM, IN A SANDBOX (cutbox-rows.mjs): the forced cells as the released guide's own fill.sh prints them over the translation 0b56bea3e0323abc… (all of the seat's roots in one cut). By AI agents, Wed Nov 11 2026. No macro, syntax, notation, axiom, sorry.
-/
import Derived.Test.YtljacjjeinmfnaaChecked
import GoSem.Claim
import GoSem.ClaimJoined
import GoSem.ClaimMapViews
import Derived.JoinedTies
import Derived.KernelRfl
namespace Go.Proofs.Ytljacjjeinmfnaa
/- THE CELL 'sum', in the pinned program and in every row, IS THE sha256 OF THE DUMP (.gsa) THAT YtljacjjeinmfnaaProg.lean LOADS. Nothing in Lean hashes anything: it is a label: what it is worth is what the hold of that sum in a sandbox is worth. -/
noncomputable def Try.pinned : Pinned := { name := "ytljacjjeinmfnaa", sum := "0b56bea3e0323abc28c4a7c5881b740a583760c4e0af1b8b588903c42a2fd8e1", checked := Try.checked }
namespace Rows
def none {H : Type} : Left H := { results := [], args := [] }

/-- 'quarrylaw14.BookMade': WHATEVER THE INPUT: true; the input reads as it did. -/
def bookMadeSpec : ChangeSpec := { name := "bookMade", fn := fun _ => fun
  | [d] => { results := [.lit (.bool true)], args := [d] }
  | _ => none }
def bookMadeRow : OpenClaim := { program := "ytljacjjeinmfnaa", sum := "0b56bea3e0323abc28c4a7c5881b740a583760c4e0af1b8b588903c42a2fd8e1", func := "quarry/quarrylaw14.BookMade", spec := "bookMade", inPlace := ["math/bits.Sub64"], unfollowed := true, recurses := true, apart := false }
def BookMadeSaid : Prop := bookMadeRow.holds Try.pinned (OpenSpec.ofChange bookMadeSpec)

/-- ITS FALSE NEIGHBOUR: 'it returns false'. Refute it at one input. -/
def bookMadeWrong : ChangeSpec := { name := "bookMade", fn := fun _ => fun
  | [d] => { results := [.lit (.bool false)], args := [d] }
  | _ => none }
def BookMadeWrongFalsely : Prop := bookMadeRow.holds Try.pinned (OpenSpec.ofChange bookMadeWrong)

/-- 'quarrylaw14.BookBloom': WHATEVER THE INPUT: true; the input reads as it did. -/
def bookBloomSpec : ChangeSpec := { name := "bookBloom", fn := fun _ => fun
  | [d1, d2] => { results := [.lit (.bool true)], args := [d1, d2] }
  | _ => none }
def bookBloomRow : OpenClaim := { program := "ytljacjjeinmfnaa", sum := "0b56bea3e0323abc28c4a7c5881b740a583760c4e0af1b8b588903c42a2fd8e1", func := "quarry/quarrylaw14.BookBloom", spec := "bookBloom", inPlace := ["math/bits.Sub64"], unfollowed := true, recurses := true, apart := false }
def BookBloomSaid : Prop := bookBloomRow.holds Try.pinned (OpenSpec.ofChange bookBloomSpec)

/-- ITS FALSE NEIGHBOUR: 'it returns false'. Refute it at one input. -/
def bookBloomWrong : ChangeSpec := { name := "bookBloom", fn := fun _ => fun
  | [d1, d2] => { results := [.lit (.bool false)], args := [d1, d2] }
  | _ => none }
def BookBloomWrongFalsely : Prop := bookBloomRow.holds Try.pinned (OpenSpec.ofChange bookBloomWrong)

/-- 'quarrylaw14.BookReceipt': WHATEVER THE INPUT: true; the input reads as it did. -/
def bookReceiptSpec : ChangeSpec := { name := "bookReceipt", fn := fun _ => fun
  | [d1, d2] => { results := [.lit (.bool true)], args := [d1, d2] }
  | _ => none }
def bookReceiptRow : OpenClaim := { program := "ytljacjjeinmfnaa", sum := "0b56bea3e0323abc28c4a7c5881b740a583760c4e0af1b8b588903c42a2fd8e1", func := "quarry/quarrylaw14.BookReceipt", spec := "bookReceipt", inPlace := ["math/bits.Sub64"], unfollowed := true, recurses := true, apart := false }
def BookReceiptSaid : Prop := bookReceiptRow.holds Try.pinned (OpenSpec.ofChange bookReceiptSpec)

/-- ITS FALSE NEIGHBOUR: 'it returns false'. Refute it at one input. -/
def bookReceiptWrong : ChangeSpec := { name := "bookReceipt", fn := fun _ => fun
  | [d1, d2] => { results := [.lit (.bool false)], args := [d1, d2] }
  | _ => none }
def BookReceiptWrongFalsely : Prop := bookReceiptRow.holds Try.pinned (OpenSpec.ofChange bookReceiptWrong)

/-- 'quarrylaw14.BookOwn': WHATEVER THE INPUT: true; the input reads as it did. -/
def bookOwnSpec : ChangeSpec := { name := "bookOwn", fn := fun _ => fun
  | [d1, d2] => { results := [.lit (.bool true)], args := [d1, d2] }
  | _ => none }
def bookOwnRow : OpenClaim := { program := "ytljacjjeinmfnaa", sum := "0b56bea3e0323abc28c4a7c5881b740a583760c4e0af1b8b588903c42a2fd8e1", func := "quarry/quarrylaw14.BookOwn", spec := "bookOwn", inPlace := ["math/bits.Add64", "math/bits.Sub64"], unfollowed := true, recurses := true, apart := false }
def BookOwnSaid : Prop := bookOwnRow.holds Try.pinned (OpenSpec.ofChange bookOwnSpec)

/-- ITS FALSE NEIGHBOUR: 'it returns false'. Refute it at one input. -/
def bookOwnWrong : ChangeSpec := { name := "bookOwn", fn := fun _ => fun
  | [d1, d2] => { results := [.lit (.bool false)], args := [d1, d2] }
  | _ => none }
def BookOwnWrongFalsely : Prop := bookOwnRow.holds Try.pinned (OpenSpec.ofChange bookOwnWrong)

/-- 'quarrylaw14.BookBack': WHATEVER THE INPUT: true; the input reads as it did. -/
def bookBackSpec : ChangeSpec := { name := "bookBack", fn := fun _ => fun
  | [d1, d2] => { results := [.lit (.bool true)], args := [d1, d2] }
  | _ => none }
def bookBackRow : OpenClaim := { program := "ytljacjjeinmfnaa", sum := "0b56bea3e0323abc28c4a7c5881b740a583760c4e0af1b8b588903c42a2fd8e1", func := "quarry/quarrylaw14.BookBack", spec := "bookBack", inPlace := ["math/bits.Add64", "math/bits.Sub64"], unfollowed := true, recurses := true, apart := false }
def BookBackSaid : Prop := bookBackRow.holds Try.pinned (OpenSpec.ofChange bookBackSpec)

/-- ITS FALSE NEIGHBOUR: 'it returns false'. Refute it at one input. -/
def bookBackWrong : ChangeSpec := { name := "bookBack", fn := fun _ => fun
  | [d1, d2] => { results := [.lit (.bool false)], args := [d1, d2] }
  | _ => none }
def BookBackWrongFalsely : Prop := bookBackRow.holds Try.pinned (OpenSpec.ofChange bookBackWrong)

/- THE SECOND FORM. 'bulk': how many values and letters a reading holds, each counted each time it is reached (what is shared counts as often as it is met; a slice's spare places count too). A statement '..UptoSaid' is the law's where the arguments, and the package variables that the reading takes, are together of bulk at most 1048576: NARROWER than '..Said'. Prove '..Said' where nothing that the law and all that it calls make is longer than what came in: it says more and counts as full. Else prove '..UptoSaid'. A law counts once. -/
mutual
def uptoBulk {H : Type} : DataW H → Nat
  | .lit (.string bytes) => bytes.length + 1
  | .lit _ => 1
  | .nil => 1
  | .ptr d => uptoBulk d + 1
  | .slice elems spare => uptoBulkAll elems + uptoBulkAll spare + 1
  | .agg parts => uptoBulkAll parts + 1
  | .iface _ d => uptoBulk d + 1
  | .map entries => uptoBulkEntries entries + 1
  | .held _ => 1
def uptoBulkAll {H : Type} : List (DataW H) → Nat
  | [] => 0
  | d :: r => uptoBulk d + uptoBulkAll r
def uptoBulkEntries {H : Type} : List (Lit × DataW H) → Nat
  | [] => 0
  | x :: r => uptoBulkEntry x + uptoBulkEntries r
def uptoBulkEntry {H : Type} : Lit × DataW H → Nat
  | (.string bytes, d) => bytes.length + uptoBulk d + 1
  | (_, d) => uptoBulk d + 1
 end
def uptoSmall : (H : Type) → List (DataW H) → Bool := fun _ ds => decide (uptoBulkAll ds ≤ 1048576)
def OpenSpec.upto (s : _root_.Go.ChangeSpec) : _root_.Go.OpenSpec := { _root_.Go.OpenSpec.ofChange s with cond := some uptoSmall }

/-- 'quarrylaw14.BookMade', WHERE WHAT IT READS IS OF BULK AT MOST 1048576: true; the input reads as it did. -/
def bookMadeUptoRow : OpenClaim := { program := "ytljacjjeinmfnaa", sum := "0b56bea3e0323abc28c4a7c5881b740a583760c4e0af1b8b588903c42a2fd8e1", func := "quarry/quarrylaw14.BookMade", spec := "bookMade", inPlace := ["math/bits.Sub64"], unfollowed := true, recurses := true, apart := false, narrowed := true }
def BookMadeUptoSaid : Prop := bookMadeUptoRow.holds Try.pinned (OpenSpec.upto bookMadeSpec)

/-- 'quarrylaw14.BookBloom', WHERE WHAT IT READS IS OF BULK AT MOST 1048576: true; the input reads as it did. -/
def bookBloomUptoRow : OpenClaim := { program := "ytljacjjeinmfnaa", sum := "0b56bea3e0323abc28c4a7c5881b740a583760c4e0af1b8b588903c42a2fd8e1", func := "quarry/quarrylaw14.BookBloom", spec := "bookBloom", inPlace := ["math/bits.Sub64"], unfollowed := true, recurses := true, apart := false, narrowed := true }
def BookBloomUptoSaid : Prop := bookBloomUptoRow.holds Try.pinned (OpenSpec.upto bookBloomSpec)

/-- 'quarrylaw14.BookReceipt', WHERE WHAT IT READS IS OF BULK AT MOST 1048576: true; the input reads as it did. -/
def bookReceiptUptoRow : OpenClaim := { program := "ytljacjjeinmfnaa", sum := "0b56bea3e0323abc28c4a7c5881b740a583760c4e0af1b8b588903c42a2fd8e1", func := "quarry/quarrylaw14.BookReceipt", spec := "bookReceipt", inPlace := ["math/bits.Sub64"], unfollowed := true, recurses := true, apart := false, narrowed := true }
def BookReceiptUptoSaid : Prop := bookReceiptUptoRow.holds Try.pinned (OpenSpec.upto bookReceiptSpec)

/-- 'quarrylaw14.BookOwn', WHERE WHAT IT READS IS OF BULK AT MOST 1048576: true; the input reads as it did. -/
def bookOwnUptoRow : OpenClaim := { program := "ytljacjjeinmfnaa", sum := "0b56bea3e0323abc28c4a7c5881b740a583760c4e0af1b8b588903c42a2fd8e1", func := "quarry/quarrylaw14.BookOwn", spec := "bookOwn", inPlace := ["math/bits.Add64", "math/bits.Sub64"], unfollowed := true, recurses := true, apart := false, narrowed := true }
def BookOwnUptoSaid : Prop := bookOwnUptoRow.holds Try.pinned (OpenSpec.upto bookOwnSpec)

/-- 'quarrylaw14.BookBack', WHERE WHAT IT READS IS OF BULK AT MOST 1048576: true; the input reads as it did. -/
def bookBackUptoRow : OpenClaim := { program := "ytljacjjeinmfnaa", sum := "0b56bea3e0323abc28c4a7c5881b740a583760c4e0af1b8b588903c42a2fd8e1", func := "quarry/quarrylaw14.BookBack", spec := "bookBack", inPlace := ["math/bits.Add64", "math/bits.Sub64"], unfollowed := true, recurses := true, apart := false, narrowed := true }
def BookBackUptoSaid : Prop := bookBackUptoRow.holds Try.pinned (OpenSpec.upto bookBackSpec)

end Rows
end Go.Proofs.Ytljacjjeinmfnaa
