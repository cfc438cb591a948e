/- Receipts and withdrawals as arguments. No condition. -/
import Derived.Test.YtljacjjeinmfnaaUBR5
import Derived.Test.YtljacjjeinmfnaaU15
namespace Go.Proofs.Ytljacjjeinmfnaa
set_option linter.unusedVariables false
set_option linter.unusedSimpArgs false
open Go Go.RowKit Go.ChangeShapes Go.WideShapes Go.Deep
set_option maxRecDepth 100000
section
variable {H : Type} {enc : TypeId × Value → H} {w : World} {spare : Nat → Bool} {held : Bool}
theorem open_ic {P : Program} {t : TypeId} {fuel : Nat} {cs : List Value} {x : DataW H × List MemPlace} (ht : P.underlying t = some (.int .i64)) (h : DataW.trod enc P w 0 spare held fuel t cs = some x) : ∃ a : Int, cs = [.int .i64 a] ∧ -9223372036854775808 ≤ a ∧ a ≤ 9223372036854775807 := by
  obtain ⟨q, hq, _, hw⟩ := DataW.trod_int ht h
  exact ⟨q, hq, by simpa [Lit.wf, IntKind.min, IntKind.max, IntKind.signed, IntKind.bits] using hw⟩
theorem open_boolc {P : Program} {t : TypeId} {fuel : Nat} {cs : List Value} {x : DataW H × List MemPlace} (ht : P.underlying t = some .bool) (h : DataW.trod enc P w 0 spare held fuel t cs = some x) : ∃ a : Bool, cs = [.bool a] := by
  obtain ⟨q, hq, _⟩ := DataW.trod_bool ht h
  exact ⟨q, hq⟩
/-- Cells are cut in parts. -/
theorem cut_cells (cs : List Value) (i k : Nat) : cs.drop i = (cs.drop i).take k ++ cs.drop (i + k) := by
  rw [← List.drop_drop, List.take_append_drop]
theorem open_receipt {r : Reach} {b0 : Nat} {v : Value} {d : DataW H} {ps : List MemPlace} (hval : Value.okWide Try.prog w r b0 46 v) (hd : DataW.Trod enc Try.prog w 0 spare held 46 v d ps) :
    ∃ k ra rn rc root ok gas bl la ln lc gs xs, v = .agg (rcC k (.slice ra rn rc) ok gas bl (.slice la ln lc)).toArray ∧ RSl (whole w) 1 ra rn rc (u8s root) ∧ RSl (whole w) 22 la ln lc (logsC xs) ∧ LogsN (whole w) gs xs ∧ bl.length = 256 := by
  obtain ⟨cs, rfl⟩ := okWide_structB Try.underlying46 hval
  obtain ⟨fuel, hf⟩ := hd
  obtain ⟨hl, k, hx⟩ := struct_open' Try.underlying46 hf
  have hl' : cs.toList.length = 261 := hl.trans (by kernel_rfl)
  obtain ⟨y0, h0⟩ : ∃ y, DataW.trod enc Try.prog w 0 spare held k 3 ((cs.toList.drop 0).take (Try.prog.cellsOf 3)) = some y := hx 0 _ rfl
  obtain ⟨y1, h1⟩ : ∃ y, DataW.trod enc Try.prog w 0 spare held k 27 ((cs.toList.drop 1).take (Try.prog.cellsOf 27)) = some y := hx 1 _ rfl
  obtain ⟨y2, h2⟩ : ∃ y, DataW.trod enc Try.prog w 0 spare held k 4 ((cs.toList.drop 2).take (Try.prog.cellsOf 4)) = some y := hx 2 _ rfl
  obtain ⟨y3, h3⟩ : ∃ y, DataW.trod enc Try.prog w 0 spare held k 24 ((cs.toList.drop 3).take (Try.prog.cellsOf 24)) = some y := hx 3 _ rfl
  obtain ⟨y4, h4⟩ : ∃ y, DataW.trod enc Try.prog w 0 spare held k 36 ((cs.toList.drop 4).take (Try.prog.cellsOf 36)) = some y := hx 4 _ rfl
  obtain ⟨y5, h5⟩ : ∃ y, DataW.trod enc Try.prog w 0 spare held k 35 ((cs.toList.drop 260).take (Try.prog.cellsOf 35)) = some y := hx 5 _ rfl
  rw [show Try.prog.cellsOf 3 = 1 by kernel_rfl] at h0
  rw [show Try.prog.cellsOf 27 = 1 by kernel_rfl] at h1
  rw [show Try.prog.cellsOf 4 = 1 by kernel_rfl] at h2
  rw [show Try.prog.cellsOf 24 = 1 by kernel_rfl] at h3
  rw [show Try.prog.cellsOf 36 = 256 by kernel_rfl] at h4
  rw [show Try.prog.cellsOf 35 = 1 by kernel_rfl] at h5
  obtain ⟨q, e0, _⟩ := open_ic Try.underlying3 h0
  obtain ⟨ra, rn, rc, root, e1, r1⟩ := open_u8 Try.underlying27 Try.underlying5 (by kernel_rfl) h1
  obtain ⟨ok, e2⟩ := open_boolc Try.underlying4 h2
  obtain ⟨gas, e3⟩ := open_u64c Try.underlying24 h3
  obtain ⟨bl, hb, e4⟩ := bytes_cells Try.underlying36 Try.underlying5 (by kernel_rfl) (by kernel_rfl) h4
  obtain ⟨la, ln, lc, gs, xs, e5, r5, g5⟩ := logs_cells h5
  refine ⟨q, ra, rn, rc, root, ok, gas, bl, la, ln, lc, gs, xs, ?_, r1, r5, g5, hb⟩
  have e : cs.toList = (cs.toList.drop 0).take 1 ++ ((cs.toList.drop 1).take 1 ++ ((cs.toList.drop 2).take 1 ++ ((cs.toList.drop 3).take 1 ++ ((cs.toList.drop 4).take 256 ++ (cs.toList.drop 260).take 1)))) := by
    rw [List.take_of_length_le (show (cs.toList.drop 260).length ≤ 1 by rw [List.length_drop]; omega)]
    rw [← cut_cells _ 4 256, ← cut_cells _ 3 1, ← cut_cells _ 2 1, ← cut_cells _ 1 1, ← cut_cells _ 0 1, List.drop_zero]
  have e0' : (cs.toList.drop 0).take 1 = [.int .i64 q] := e0
  have e1' : (cs.toList.drop 1).take 1 = [.slice ra rn rc] := e1
  have e2' : (cs.toList.drop 2).take 1 = [.bool ok] := e2
  have e3' : (cs.toList.drop 3).take 1 = [.int .u64 (gas.toNat : Int)] := e3
  have e4' : (cs.toList.drop 4).take 256 = u8s bl := e4
  have e5' : (cs.toList.drop 260).take 1 = [.slice la ln lc] := e5
  rw [e0', e1', e2', e3', e4', e5'] at e
  rw [← Array.toArray_toList (xs := cs), e]
  rfl
theorem open_withdrawal {r : Reach} {b0 : Nat} {v : Value} {d : DataW H} {ps : List MemPlace} (hval : Value.okWide Try.prog w r b0 48 v) (hd : DataW.Trod enc Try.prog w 0 spare held 48 v d ps) :
    ∃ i u a m, v = .agg (wdC i u a m).toArray ∧ a.length = 20 := by
  obtain ⟨cs, rfl⟩ := okWide_structB Try.underlying48 hval
  obtain ⟨fuel, hf⟩ := hd
  obtain ⟨hl, k, hx⟩ := struct_open' Try.underlying48 hf
  have hl' : cs.toList.length = 23 := hl.trans (by kernel_rfl)
  obtain ⟨y0, h0⟩ : ∃ y, DataW.trod enc Try.prog w 0 spare held k 24 ((cs.toList.drop 0).take (Try.prog.cellsOf 24)) = some y := hx 0 _ rfl
  obtain ⟨y1, h1⟩ : ∃ y, DataW.trod enc Try.prog w 0 spare held k 24 ((cs.toList.drop 1).take (Try.prog.cellsOf 24)) = some y := hx 1 _ rfl
  obtain ⟨y2, h2⟩ : ∃ y, DataW.trod enc Try.prog w 0 spare held k 23 ((cs.toList.drop 2).take (Try.prog.cellsOf 23)) = some y := hx 2 _ rfl
  obtain ⟨y3, h3⟩ : ∃ y, DataW.trod enc Try.prog w 0 spare held k 24 ((cs.toList.drop 22).take (Try.prog.cellsOf 24)) = some y := hx 3 _ rfl
  rw [show Try.prog.cellsOf 24 = 1 by kernel_rfl] at h0 h1 h3
  rw [show Try.prog.cellsOf 23 = 20 by kernel_rfl] at h2
  obtain ⟨i, e0⟩ := open_u64c Try.underlying24 h0
  obtain ⟨u, e1⟩ := open_u64c Try.underlying24 h1
  obtain ⟨a, ha, e2⟩ := addr_cells h2
  obtain ⟨m, e3⟩ := open_u64c Try.underlying24 h3
  refine ⟨i, u, a, m, ?_, ha⟩
  have e : cs.toList = (cs.toList.drop 0).take 1 ++ ((cs.toList.drop 1).take 1 ++ ((cs.toList.drop 2).take 20 ++ (cs.toList.drop 22).take 1)) := by
    rw [List.take_of_length_le (show (cs.toList.drop 22).length ≤ 1 by rw [List.length_drop]; omega)]
    rw [← cut_cells _ 2 20, ← cut_cells _ 1 1, ← cut_cells _ 0 1, List.drop_zero]
  have e0' : (cs.toList.drop 0).take 1 = [.int .u64 (i.toNat : Int)] := e0
  have e1' : (cs.toList.drop 1).take 1 = [.int .u64 (u.toNat : Int)] := e1
  have e2' : (cs.toList.drop 2).take 20 = u8s a := e2
  have e3' : (cs.toList.drop 22).take 1 = [.int .u64 (m.toNat : Int)] := e3
  rw [e0', e1', e2', e3'] at e
  rw [← Array.toArray_toList (xs := cs), e]
  rfl
end
end Go.Proofs.Ytljacjjeinmfnaa
