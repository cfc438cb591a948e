/-
  No cell of these rows narrows 'for every input' (looked for: loops, veiled, ifaces, maps, wideKeys, modest, calm, conditions, laid).
  DERIVED. THE GIVEN ROWS OF THIS SEAT. 4 by the template 'for every input the law returns true; each argument reads behind the call as it read before'; 0 by the template 'total and deterministic' (their statements: YtdpjbefeabokgaaGreatTotals.lean).
  GIVEN WITH THE SEED: the statements are not yours to turn. If you find one false, say at which input.
  Laid BY PROGRAM, IN A SANDBOX (cutbox-rows.mjs): the forced cells as the released guide's own fill.sh prints them over the translation 35ae0ebfbeaa49a8… (all of the seat's roots in one cut). By AI agents, Wed Nov 11 2026. No macro, syntax, notation, axiom, sorry.
-/
import Derived.Test.YtdpjbefeabokgaaGreatChecked
import GoSem.Claim
import GoSem.ClaimJoined
import GoSem.ClaimMapViews
import Derived.JoinedTies
import Derived.KernelRfl
namespace Go.Proofs.YtdpjbefeabokgaaGreat
/- THE CELL 'sum', in the pinned program and in every row, IS THE sha256 OF THE DUMP (.gsa) THAT YtdpjbefeabokgaaGreatProg.lean LOADS. Nothing in Lean hashes anything: it is a label: what it is worth is what the hold of that sum in a sandbox is worth. -/
noncomputable def Tryz.pinned : Pinned := { name := "ytdpjbefeabokgaagreat", sum := "35ae0ebfbeaa49a83148024d8e700ce8112680889d507f51211d56b1d9bbe37b", checked := Tryz.checked }
namespace Rows
def none {H : Type} : Left H := { results := [], args := [] }

/-- 'quarrylaw12.TrieList': WHATEVER THE INPUT: true; the input reads as it did. -/
def trieListSpec : ChangeSpec := { name := "trieList", fn := fun _ => fun
  | [d] => { results := [.lit (.bool true)], args := [d] }
  | _ => none }
def trieListRow : OpenClaim := { program := "ytdpjbefeabokgaagreat", sum := "35ae0ebfbeaa49a83148024d8e700ce8112680889d507f51211d56b1d9bbe37b", func := "quarry/quarrylaw12.TrieList", spec := "trieList", unfollowed := true, recurses := true, apart := false }
def TrieListSaid : Prop := trieListRow.holds Tryz.pinned (OpenSpec.ofChange trieListSpec)

/-- ITS FALSE NEIGHBOUR: 'it returns false'. Refute it at one input. -/
def trieListWrong : ChangeSpec := { name := "trieList", fn := fun _ => fun
  | [d] => { results := [.lit (.bool false)], args := [d] }
  | _ => none }
def TrieListWrongFalsely : Prop := trieListRow.holds Tryz.pinned (OpenSpec.ofChange trieListWrong)

/-- 'quarrylaw12.TrieProofs': WHATEVER THE INPUT: true; the input reads as it did. -/
def trieProofsSpec : ChangeSpec := { name := "trieProofs", fn := fun _ => fun
  | [d1, d2] => { results := [.lit (.bool true)], args := [d1, d2] }
  | _ => none }
def trieProofsRow : OpenClaim := { program := "ytdpjbefeabokgaagreat", sum := "35ae0ebfbeaa49a83148024d8e700ce8112680889d507f51211d56b1d9bbe37b", func := "quarry/quarrylaw12.TrieProofs", spec := "trieProofs", unfollowed := true, recurses := true, apart := false }
def TrieProofsSaid : Prop := trieProofsRow.holds Tryz.pinned (OpenSpec.ofChange trieProofsSpec)

/-- ITS FALSE NEIGHBOUR: 'it returns false'. Refute it at one input. -/
def trieProofsWrong : ChangeSpec := { name := "trieProofs", fn := fun _ => fun
  | [d1, d2] => { results := [.lit (.bool false)], args := [d1, d2] }
  | _ => none }
def TrieProofsWrongFalsely : Prop := trieProofsRow.holds Tryz.pinned (OpenSpec.ofChange trieProofsWrong)

/-- 'quarrylaw12.TrieSound': WHATEVER THE INPUT: true; the input reads as it did. -/
def trieSoundSpec : ChangeSpec := { name := "trieSound", fn := fun _ => fun
  | [d] => { results := [.lit (.bool true)], args := [d] }
  | _ => none }
def trieSoundRow : OpenClaim := { program := "ytdpjbefeabokgaagreat", sum := "35ae0ebfbeaa49a83148024d8e700ce8112680889d507f51211d56b1d9bbe37b", func := "quarry/quarrylaw12.TrieSound", spec := "trieSound", unfollowed := true, recurses := true, apart := false }
def TrieSoundSaid : Prop := trieSoundRow.holds Tryz.pinned (OpenSpec.ofChange trieSoundSpec)

/-- ITS FALSE NEIGHBOUR: 'it returns false'. Refute it at one input. -/
def trieSoundWrong : ChangeSpec := { name := "trieSound", fn := fun _ => fun
  | [d] => { results := [.lit (.bool false)], args := [d] }
  | _ => none }
def TrieSoundWrongFalsely : Prop := trieSoundRow.holds Tryz.pinned (OpenSpec.ofChange trieSoundWrong)

/-- 'quarrylaw12.TrieOwn': WHATEVER THE INPUT: true; the input reads as it did. -/
def trieOwnSpec : ChangeSpec := { name := "trieOwn", fn := fun _ => fun
  | [d1, d2] => { results := [.lit (.bool true)], args := [d1, d2] }
  | _ => none }
def trieOwnRow : OpenClaim := { program := "ytdpjbefeabokgaagreat", sum := "35ae0ebfbeaa49a83148024d8e700ce8112680889d507f51211d56b1d9bbe37b", func := "quarry/quarrylaw12.TrieOwn", spec := "trieOwn", unfollowed := true, recurses := true, apart := false }
def TrieOwnSaid : Prop := trieOwnRow.holds Tryz.pinned (OpenSpec.ofChange trieOwnSpec)

/-- ITS FALSE NEIGHBOUR: 'it returns false'. Refute it at one input. -/
def trieOwnWrong : ChangeSpec := { name := "trieOwn", fn := fun _ => fun
  | [d1, d2] => { results := [.lit (.bool false)], args := [d1, d2] }
  | _ => none }
def TrieOwnWrongFalsely : Prop := trieOwnRow.holds Tryz.pinned (OpenSpec.ofChange trieOwnWrong)

/- THE SECOND FORM. 'bulk': how many values and letters a reading holds, each counted each time it is reached (what is shared counts as often as it is met; a slice's spare places count too). A statement '..UptoSaid' is the law's where the arguments, and the package variables that the reading takes, are together of bulk at most 1048576: NARROWER than '..Said'. Prove '..Said' where nothing that the law and all that it calls make is longer than what came in: it says more and counts as full. Else prove '..UptoSaid'. A law counts once. -/
mutual
def uptoBulk {H : Type} : DataW H → Nat
  | .lit (.string bytes) => bytes.length + 1
  | .lit _ => 1
  | .nil => 1
  | .ptr d => uptoBulk d + 1
  | .slice elems spare => uptoBulkAll elems + uptoBulkAll spare + 1
  | .agg parts => uptoBulkAll parts + 1
  | .iface _ d => uptoBulk d + 1
  | .map entries => uptoBulkEntries entries + 1
  | .held _ => 1
def uptoBulkAll {H : Type} : List (DataW H) → Nat
  | [] => 0
  | d :: r => uptoBulk d + uptoBulkAll r
def uptoBulkEntries {H : Type} : List (Lit × DataW H) → Nat
  | [] => 0
  | x :: r => uptoBulkEntry x + uptoBulkEntries r
def uptoBulkEntry {H : Type} : Lit × DataW H → Nat
  | (.string bytes, d) => bytes.length + uptoBulk d + 1
  | (_, d) => uptoBulk d + 1
 end
def uptoSmall : (H : Type) → List (DataW H) → Bool := fun _ ds => decide (uptoBulkAll ds ≤ 1048576)
def OpenSpec.upto (s : _root_.Go.ChangeSpec) : _root_.Go.OpenSpec := { _root_.Go.OpenSpec.ofChange s with cond := some uptoSmall }

/-- 'quarrylaw12.TrieList', WHERE WHAT IT READS IS OF BULK AT MOST 1048576: true; the input reads as it did. -/
def trieListUptoRow : OpenClaim := { program := "ytdpjbefeabokgaagreat", sum := "35ae0ebfbeaa49a83148024d8e700ce8112680889d507f51211d56b1d9bbe37b", func := "quarry/quarrylaw12.TrieList", spec := "trieList", unfollowed := true, recurses := true, apart := false, narrowed := true }
def TrieListUptoSaid : Prop := trieListUptoRow.holds Tryz.pinned (OpenSpec.upto trieListSpec)

/-- 'quarrylaw12.TrieProofs', WHERE WHAT IT READS IS OF BULK AT MOST 1048576: true; the input reads as it did. -/
def trieProofsUptoRow : OpenClaim := { program := "ytdpjbefeabokgaagreat", sum := "35ae0ebfbeaa49a83148024d8e700ce8112680889d507f51211d56b1d9bbe37b", func := "quarry/quarrylaw12.TrieProofs", spec := "trieProofs", unfollowed := true, recurses := true, apart := false, narrowed := true }
def TrieProofsUptoSaid : Prop := trieProofsUptoRow.holds Tryz.pinned (OpenSpec.upto trieProofsSpec)

/-- 'quarrylaw12.TrieSound', WHERE WHAT IT READS IS OF BULK AT MOST 1048576: true; the input reads as it did. -/
def trieSoundUptoRow : OpenClaim := { program := "ytdpjbefeabokgaagreat", sum := "35ae0ebfbeaa49a83148024d8e700ce8112680889d507f51211d56b1d9bbe37b", func := "quarry/quarrylaw12.TrieSound", spec := "trieSound", unfollowed := true, recurses := true, apart := false, narrowed := true }
def TrieSoundUptoSaid : Prop := trieSoundUptoRow.holds Tryz.pinned (OpenSpec.upto trieSoundSpec)

/-- 'quarrylaw12.TrieOwn', WHERE WHAT IT READS IS OF BULK AT MOST 1048576: true; the input reads as it did. -/
def trieOwnUptoRow : OpenClaim := { program := "ytdpjbefeabokgaagreat", sum := "35ae0ebfbeaa49a83148024d8e700ce8112680889d507f51211d56b1d9bbe37b", func := "quarry/quarrylaw12.TrieOwn", spec := "trieOwn", unfollowed := true, recurses := true, apart := false, narrowed := true }
def TrieOwnUptoSaid : Prop := trieOwnUptoRow.holds Tryz.pinned (OpenSpec.upto trieOwnSpec)

end Rows
end Go.Proofs.YtdpjbefeabokgaaGreat
