/- The names of the operations, row by row; decimal digits. No condition. -/
import Derived.Test.YtdplcfineaikjaaDoorCU1
import Derived.Test.YtdplcfineaikjaaDoorF1
import Derived.Shelf.Strings.Fields
import Derived.Lib.ItoaNum
namespace Go.Proofs.YtdplcfineaikjaaDoor
set_option linter.unusedVariables false
set_option linter.unusedSimpArgs false
open Go Go.RowKit
/-- STOP ADD MUL SUB DIV SDIV MOD SMOD ADDMOD MULMOD EXP SIGNEXTEND -/
def rowT0 : List UInt8 := [83, 84, 79, 80, 32, 65, 68, 68, 32, 77, 85, 76, 32, 83, 85, 66, 32, 68, 73, 86, 32, 83, 68, 73, 86, 32, 77, 79, 68, 32, 83, 77, 79, 68, 32, 65, 68, 68, 77, 79, 68, 32, 77, 85, 76, 77, 79, 68, 32, 69, 88, 80, 32, 83, 73, 71, 78, 69, 88, 84, 69, 78, 68]
def rowN0 : List (List UInt8) := [[83, 84, 79, 80], [65, 68, 68], [77, 85, 76], [83, 85, 66], [68, 73, 86], [83, 68, 73, 86], [77, 79, 68], [83, 77, 79, 68], [65, 68, 68, 77, 79, 68], [77, 85, 76, 77, 79, 68], [69, 88, 80], [83, 73, 71, 78, 69, 88, 84, 69, 78, 68]]
theorem rowF0 : Lib.fields rowT0 = rowN0 := by decide +kernel
/-- LT GT SLT SGT EQ ISZERO AND OR XOR NOT BYTE SHL SHR SAR -/
def rowT1 : List UInt8 := [76, 84, 32, 71, 84, 32, 83, 76, 84, 32, 83, 71, 84, 32, 69, 81, 32, 73, 83, 90, 69, 82, 79, 32, 65, 78, 68, 32, 79, 82, 32, 88, 79, 82, 32, 78, 79, 84, 32, 66, 89, 84, 69, 32, 83, 72, 76, 32, 83, 72, 82, 32, 83, 65, 82]
def rowN1 : List (List UInt8) := [[76, 84], [71, 84], [83, 76, 84], [83, 71, 84], [69, 81], [73, 83, 90, 69, 82, 79], [65, 78, 68], [79, 82], [88, 79, 82], [78, 79, 84], [66, 89, 84, 69], [83, 72, 76], [83, 72, 82], [83, 65, 82]]
theorem rowF1 : Lib.fields rowT1 = rowN1 := by decide +kernel
/-- KECCAK256 -/
def rowT2 : List UInt8 := [75, 69, 67, 67, 65, 75, 50, 53, 54]
def rowN2 : List (List UInt8) := [[75, 69, 67, 67, 65, 75, 50, 53, 54]]
theorem rowF2 : Lib.fields rowT2 = rowN2 := by decide +kernel
/-- ADDRESS BALANCE ORIGIN CALLER CALLVALUE CALLDATALOAD CALLDATASIZE CALLDATACOPY CODESIZE CODECOPY GASPRICE EXTCODESIZE EXTCODECOPY RETURNDATASIZE RETURNDATACOPY EXTCODEHASH -/
def rowT3 : List UInt8 := [65, 68, 68, 82, 69, 83, 83, 32, 66, 65, 76, 65, 78, 67, 69, 32, 79, 82, 73, 71, 73, 78, 32, 67, 65, 76, 76, 69, 82, 32, 67, 65, 76, 76, 86, 65, 76, 85, 69, 32, 67, 65, 76, 76, 68, 65, 84, 65, 76, 79, 65, 68, 32, 67, 65, 76, 76, 68, 65, 84, 65, 83, 73, 90, 69, 32, 67, 65, 76, 76, 68, 65, 84, 65, 67, 79, 80, 89, 32, 67, 79, 68, 69, 83, 73, 90, 69, 32, 67, 79, 68, 69, 67, 79, 80, 89, 32, 71, 65, 83, 80, 82, 73, 67, 69, 32, 69, 88, 84, 67, 79, 68, 69, 83, 73, 90, 69, 32, 69, 88, 84, 67, 79, 68, 69, 67, 79, 80, 89, 32, 82, 69, 84, 85, 82, 78, 68, 65, 84, 65, 83, 73, 90, 69, 32, 82, 69, 84, 85, 82, 78, 68, 65, 84, 65, 67, 79, 80, 89, 32, 69, 88, 84, 67, 79, 68, 69, 72, 65, 83, 72]
def rowN3 : List (List UInt8) := [[65, 68, 68, 82, 69, 83, 83], [66, 65, 76, 65, 78, 67, 69], [79, 82, 73, 71, 73, 78], [67, 65, 76, 76, 69, 82], [67, 65, 76, 76, 86, 65, 76, 85, 69], [67, 65, 76, 76, 68, 65, 84, 65, 76, 79, 65, 68], [67, 65, 76, 76, 68, 65, 84, 65, 83, 73, 90, 69], [67, 65, 76, 76, 68, 65, 84, 65, 67, 79, 80, 89], [67, 79, 68, 69, 83, 73, 90, 69], [67, 79, 68, 69, 67, 79, 80, 89], [71, 65, 83, 80, 82, 73, 67, 69], [69, 88, 84, 67, 79, 68, 69, 83, 73, 90, 69], [69, 88, 84, 67, 79, 68, 69, 67, 79, 80, 89], [82, 69, 84, 85, 82, 78, 68, 65, 84, 65, 83, 73, 90, 69], [82, 69, 84, 85, 82, 78, 68, 65, 84, 65, 67, 79, 80, 89], [69, 88, 84, 67, 79, 68, 69, 72, 65, 83, 72]]
theorem rowF3 : Lib.fields rowT3 = rowN3 := by decide +kernel
/-- BLOCKHASH COINBASE TIMESTAMP NUMBER DIFFICULTY GASLIMIT CHAINID SELFBALANCE BASEFEE BLOBHASH BLOBBASEFEE -/
def rowT4 : List UInt8 := [66, 76, 79, 67, 75, 72, 65, 83, 72, 32, 67, 79, 73, 78, 66, 65, 83, 69, 32, 84, 73, 77, 69, 83, 84, 65, 77, 80, 32, 78, 85, 77, 66, 69, 82, 32, 68, 73, 70, 70, 73, 67, 85, 76, 84, 89, 32, 71, 65, 83, 76, 73, 77, 73, 84, 32, 67, 72, 65, 73, 78, 73, 68, 32, 83, 69, 76, 70, 66, 65, 76, 65, 78, 67, 69, 32, 66, 65, 83, 69, 70, 69, 69, 32, 66, 76, 79, 66, 72, 65, 83, 72, 32, 66, 76, 79, 66, 66, 65, 83, 69, 70, 69, 69]
def rowN4 : List (List UInt8) := [[66, 76, 79, 67, 75, 72, 65, 83, 72], [67, 79, 73, 78, 66, 65, 83, 69], [84, 73, 77, 69, 83, 84, 65, 77, 80], [78, 85, 77, 66, 69, 82], [68, 73, 70, 70, 73, 67, 85, 76, 84, 89], [71, 65, 83, 76, 73, 77, 73, 84], [67, 72, 65, 73, 78, 73, 68], [83, 69, 76, 70, 66, 65, 76, 65, 78, 67, 69], [66, 65, 83, 69, 70, 69, 69], [66, 76, 79, 66, 72, 65, 83, 72], [66, 76, 79, 66, 66, 65, 83, 69, 70, 69, 69]]
theorem rowF4 : Lib.fields rowT4 = rowN4 := by decide +kernel
/-- POP MLOAD MSTORE MSTORE8 SLOAD SSTORE JUMP JUMPI PC MSIZE GAS JUMPDEST TLOAD TSTORE MCOPY PUSH0 -/
def rowT5 : List UInt8 := [80, 79, 80, 32, 77, 76, 79, 65, 68, 32, 77, 83, 84, 79, 82, 69, 32, 77, 83, 84, 79, 82, 69, 56, 32, 83, 76, 79, 65, 68, 32, 83, 83, 84, 79, 82, 69, 32, 74, 85, 77, 80, 32, 74, 85, 77, 80, 73, 32, 80, 67, 32, 77, 83, 73, 90, 69, 32, 71, 65, 83, 32, 74, 85, 77, 80, 68, 69, 83, 84, 32, 84, 76, 79, 65, 68, 32, 84, 83, 84, 79, 82, 69, 32, 77, 67, 79, 80, 89, 32, 80, 85, 83, 72, 48]
def rowN5 : List (List UInt8) := [[80, 79, 80], [77, 76, 79, 65, 68], [77, 83, 84, 79, 82, 69], [77, 83, 84, 79, 82, 69, 56], [83, 76, 79, 65, 68], [83, 83, 84, 79, 82, 69], [74, 85, 77, 80], [74, 85, 77, 80, 73], [80, 67], [77, 83, 73, 90, 69], [71, 65, 83], [74, 85, 77, 80, 68, 69, 83, 84], [84, 76, 79, 65, 68], [84, 83, 84, 79, 82, 69], [77, 67, 79, 80, 89], [80, 85, 83, 72, 48]]
theorem rowF5 : Lib.fields rowT5 = rowN5 := by decide +kernel
/-- CREATE CALL CALLCODE RETURN DELEGATECALL CREATE2 none none none none STATICCALL none none REVERT none SELFDESTRUCT -/
def rowT15 : List UInt8 := [67, 82, 69, 65, 84, 69, 32, 67, 65, 76, 76, 32, 67, 65, 76, 76, 67, 79, 68, 69, 32, 82, 69, 84, 85, 82, 78, 32, 68, 69, 76, 69, 71, 65, 84, 69, 67, 65, 76, 76, 32, 67, 82, 69, 65, 84, 69, 50, 32, 45, 32, 45, 32, 45, 32, 45, 32, 83, 84, 65, 84, 73, 67, 67, 65, 76, 76, 32, 45, 32, 45, 32, 82, 69, 86, 69, 82, 84, 32, 45, 32, 83, 69, 76, 70, 68, 69, 83, 84, 82, 85, 67, 84]
def rowN15 : List (List UInt8) := [[67, 82, 69, 65, 84, 69], [67, 65, 76, 76], [67, 65, 76, 76, 67, 79, 68, 69], [82, 69, 84, 85, 82, 78], [68, 69, 76, 69, 71, 65, 84, 69, 67, 65, 76, 76], [67, 82, 69, 65, 84, 69, 50], [45], [45], [45], [45], [83, 84, 65, 84, 73, 67, 67, 65, 76, 76], [45], [45], [82, 69, 86, 69, 82, 84], [45], [83, 69, 76, 70, 68, 69, 83, 84, 82, 85, 67, 84]]
theorem rowF15 : Lib.fields rowT15 = rowN15 := by decide +kernel
def rowT (i : Int) : List UInt8 := if i = 0 then rowT0 else if i = 16 then rowT1 else if i = 32 then rowT2 else if i = 48 then rowT3 else if i = 64 then rowT4 else if i = 80 then rowT5 else if i = 240 then rowT15 else []
def rowN (i : Nat) : List (List UInt8) := if i = 0 then rowN0 else if i = 1 then rowN1 else if i = 2 then rowN2 else if i = 3 then rowN3 else if i = 4 then rowN4 else if i = 5 then rowN5 else if i = 15 then rowN15 else []
def wPREV : List UInt8 := [80, 82, 69, 86, 82, 65, 78, 68, 65, 79]
def wPUSH : List UInt8 := [80, 85, 83, 72]
def wDUP : List UInt8 := [68, 85, 80]
def wSWAP : List UInt8 := [83, 87, 65, 80]
def wLOG : List UInt8 := [76, 79, 71]
def dec2 (n : Nat) : List UInt8 := if n < 10 then [UInt8.ofNat (48 + n)] else [UInt8.ofNat (48 + n / 10), UInt8.ofNat (48 + n % 10)]
theorem dec2_eq {n : Nat} (h : n < 100) : Lib.decDigits n = dec2 n := by
  unfold dec2
  split
  · exact Lib.decDigits_one (by omega)
  · exact Lib.decDigits_two (by omega) h
def nameN (late : Bool) (op : Nat) : List UInt8 :=
  if op = 68 ∧ late = true then wPREV
  else if 95 < op ∧ op ≤ 127 then wPUSH ++ dec2 (op - 95)
  else if 128 ≤ op ∧ op < 144 then wDUP ++ dec2 (op - 127)
  else if 144 ≤ op ∧ op < 160 then wSWAP ++ dec2 (op - 143)
  else if 160 ≤ op ∧ op ≤ 164 then wLOG ++ dec2 (op - 160)
  else (rowN (op / 16)).getD (op % 16) []
/-- An operation's name at a fork. -/
def nameC (f op : Int) : List UInt8 := if opM f op = true then nameN (decide (13 ≤ f)) op.toNat else []
def isOp (n : Nat) : Bool := decide (firstM (n : Int) ≠ 99)
theorem op_range {f op : Int} (h : opM f op = true) : ∃ n : Nat, op = (n : Int) ∧ n < 256 ∧ isOp n = true := by
  have h2 := of_decide_eq_true h
  have hr : 0 ≤ op ∧ op ≤ 255 ∧ firstM op ≠ 99 := by
    obtain ⟨h0, h15, hf⟩ := h2
    refine ⟨?_, ?_, fun e => by omega⟩
    · unfold firstM at hf; repeat' split at hf
      all_goals omega
    · unfold firstM at hf; repeat' split at hf
      all_goals omega
  refine ⟨op.toNat, by omega, by omega, ?_⟩
  rw [isOp, decide_eq_true_iff, Int.toNat_of_nonneg hr.1]
  exact hr.2.2
/-- The row of an operation that has no row of its own kind. -/
def inRow (n : Nat) : Bool := isOp n && !(decide (95 < n ∧ n ≤ 164))
theorem in_rows : ∀ n, n < 256 → inRow n = true → n % 16 < (rowN (n / 16)).length ∧ (n / 16 = 0 ∨ n / 16 = 1 ∨ n / 16 = 2 ∨ n / 16 = 3 ∨ n / 16 = 4 ∨ n / 16 = 5 ∨ n / 16 = 15) := by decide +kernel
theorem row_fields {k : Nat} (h : k = 0 ∨ k = 1 ∨ k = 2 ∨ k = 3 ∨ k = 4 ∨ k = 5 ∨ k = 15) : Lib.fields (rowT (16 * k : Nat)) = rowN k ∧ (rowT (16 * k : Nat)).length < 4294967281 ∧ (rowT (16 * k : Nat)).all (fun b => decide (b.toNat < 128)) = true ∧ (rowN k).length ≤ 16 := by
  rcases h with rfl | rfl | rfl | rfl | rfl | rfl | rfl
  · exact ⟨rowF0, by decide +kernel, by decide +kernel, by decide +kernel⟩
  · exact ⟨rowF1, by decide +kernel, by decide +kernel, by decide +kernel⟩
  · exact ⟨rowF2, by decide +kernel, by decide +kernel, by decide +kernel⟩
  · exact ⟨rowF3, by decide +kernel, by decide +kernel, by decide +kernel⟩
  · exact ⟨rowF4, by decide +kernel, by decide +kernel, by decide +kernel⟩
  · exact ⟨rowF5, by decide +kernel, by decide +kernel, by decide +kernel⟩
  · exact ⟨rowF15, by decide +kernel, by decide +kernel, by decide +kernel⟩
end Go.Proofs.YtdplcfineaikjaaDoor
