/- Logs as an argument. No condition. -/
import Derived.Test.YtljacjjeinmfnaaUBL5
import Derived.Test.YtljacjjeinmfnaaU14
namespace Go.Proofs.Ytljacjjeinmfnaa
set_option linter.unusedVariables false
set_option linter.unusedSimpArgs false
open Go Go.RowKit Go.ChangeShapes Go.WideShapes Go.Deep
set_option maxRecDepth 100000
section
variable {H : Type} {enc : TypeId × Value → H} {w : World} {spare : Nat → Bool} {held : Bool}
theorem hashes_open {n : Nat} {C : Nat → List Value} (h : ∀ i, i < n → ∃ l : List UInt8, l.length = 32 ∧ C i = u8s l) :
    ∃ hs : List (List UInt8), hs.length = n ∧ (List.range n).flatMap C = hashC hs ∧ ∀ x ∈ hs, x.length = 32 := by
  induction n with
  | zero => exact ⟨[], rfl, rfl, fun x hx => by cases hx⟩
  | succ n ih =>
    obtain ⟨hs, h1, h2, h3⟩ := ih fun i hi => h i (by omega)
    obtain ⟨l, hl, e⟩ := h n (by omega)
    refine ⟨hs ++ [l], by simp [h1], ?_, fun x hx => ?_⟩
    · simp only [List.range_succ, List.flatMap_append, List.flatMap_cons, List.flatMap_nil, List.append_nil, h2, e, hashC]
    · rcases List.mem_append.1 hx with hx | hx
      · exact h3 x hx
      · rw [List.mem_singleton.1 hx]; exact hl
theorem hash_slice {fuel : Nat} {cs : List Value} {x : DataW H × List MemPlace} (h : DataW.trod enc Try.prog w 0 spare held fuel 41 cs = some x) :
    ∃ ao n cap hs, cs = [.slice ao n cap] ∧ n = hs.length ∧ RSl (whole w) 32 ao n cap (hashC hs) ∧ ∀ y ∈ hs, y.length = 32 := by
  have hc : Try.prog.cellsOf 73 = 32 := by kernel_rfl
  obtain ⟨ao, n, cap, C, m, e, hr, _, hC⟩ := open_rsl Try.underlying41 (by rw [hc]; decide) h
  rw [hc] at hr
  obtain ⟨hs, h1, h2, h3⟩ := hashes_open (n := n) (C := C) fun i hi => by
    obtain ⟨_, y, hy⟩ := hC i hi
    exact bytes_cells Try.underlying73 Try.underlying5 (by kernel_rfl) hc hy
  rw [h2] at hr
  exact ⟨ao, n, cap, hs, e, h1.symm, hr, h3⟩
theorem log_cells {fuel : Nat} {cs : List Value} {x : DataW H × List MemPlace} (h : DataW.trod enc Try.prog w 0 spare held fuel 43 cs = some x) : ∃ g y, cs = LV.cells y ∧ LogN (whole w) g y := by
  obtain ⟨hl, k, hx⟩ := struct_open' Try.underlying43 h
  have hl' : cs.length = 22 := hl.trans (by kernel_rfl)
  obtain ⟨y0, h0⟩ : ∃ y, DataW.trod enc Try.prog w 0 spare held k 23 ((cs.drop 0).take (Try.prog.cellsOf 23)) = some y := hx 0 _ rfl
  obtain ⟨y1, h1⟩ : ∃ y, DataW.trod enc Try.prog w 0 spare held k 41 ((cs.drop 20).take (Try.prog.cellsOf 41)) = some y := hx 1 _ rfl
  obtain ⟨y2, h2⟩ : ∃ y, DataW.trod enc Try.prog w 0 spare held k 27 ((cs.drop 21).take (Try.prog.cellsOf 27)) = some y := hx 2 _ rfl
  rw [show Try.prog.cellsOf 23 = 20 by kernel_rfl] at h0
  rw [show Try.prog.cellsOf 41 = 1 by kernel_rfl] at h1
  rw [show Try.prog.cellsOf 27 = 1 by kernel_rfl] at h2
  obtain ⟨a, ha, ea⟩ := addr_cells h0
  obtain ⟨ta, tn, tc, hs, et, htn, rt, h32⟩ := hash_slice h1
  obtain ⟨da, dn, dc, l, ed, rd⟩ := open_u8 Try.underlying27 Try.underlying5 (by kernel_rfl) h2
  refine ⟨⟨a, hs, l⟩, ⟨a, ta, tn, tc, da, dn, dc⟩, ?_, rfl, ha, htn, rt, h32, rd⟩
  have e : cs = (cs.drop 0).take 20 ++ ((cs.drop 20).take 1 ++ (cs.drop 21).take 1) := by
    rw [List.take_of_length_le (show (cs.drop 21).length ≤ 1 by rw [List.length_drop]; omega)]
    rw [show cs.drop 21 = (cs.drop 20).drop 1 by rw [List.drop_drop], List.take_append_drop, List.drop_zero, List.take_append_drop]
  rw [ea, et, ed] at e
  exact e
theorem logs_open {n : Nat} {C : Nat → List Value} (h : ∀ i, i < n → ∃ g y, C i = LV.cells y ∧ LogN (whole w) g y) :
    ∃ gs xs, (List.range n).flatMap C = logsC xs ∧ LogsN (whole w) gs xs := by
  induction n with
  | zero => exact ⟨[], [], rfl, LogsN.nil⟩
  | succ n ih =>
    obtain ⟨gs, xs, e, hi⟩ := ih fun i hi => h i (by omega)
    obtain ⟨g, y, e2, hx⟩ := h n (by omega)
    refine ⟨gs ++ [g], xs ++ [y], ?_, hi.snoc hx⟩
    simp only [List.range_succ, List.flatMap_append, List.flatMap_cons, List.flatMap_nil, List.append_nil, e, e2, logsC]
theorem logs_cells {fuel : Nat} {cs : List Value} {x : DataW H × List MemPlace} (h : DataW.trod enc Try.prog w 0 spare held fuel 35 cs = some x) :
    ∃ ao n cap gs xs, cs = [.slice ao n cap] ∧ RSl (whole w) 22 ao n cap (logsC xs) ∧ LogsN (whole w) gs xs := by
  have hc : Try.prog.cellsOf 43 = 22 := by kernel_rfl
  obtain ⟨ao, n, cap, C, m, e, hr, _, hC⟩ := open_rsl Try.underlying35 (by rw [hc]; decide) h
  rw [hc] at hr
  obtain ⟨gs, xs, h1, h2⟩ := logs_open (w := w) (n := n) (C := C) fun i hi => by
    obtain ⟨_, y, hy⟩ := hC i hi
    exact log_cells hy
  rw [h1] at hr
  exact ⟨ao, n, cap, gs, xs, e, hr, h2⟩
theorem open_logs {r : Reach} {b0 : Nat} {v : Value} {d : DataW H} {ps : List MemPlace} (hval : Value.okWide Try.prog w r b0 35 v) (hd : DataW.Trod enc Try.prog w 0 spare held 35 v d ps) :
    ∃ ao n cap gs xs, v = .slice ao n cap ∧ RSl (whole w) 22 ao n cap (logsC xs) ∧ LogsN (whole w) gs xs := by
  obtain ⟨ao', n', cap', rfl⟩ := okWide_slice Try.underlying35 hval
  obtain ⟨fuel, hf⟩ := hd
  obtain ⟨ao, n, cap, gs, xs, e, h1, h2⟩ := logs_cells hf
  exact ⟨ao, n, cap, gs, xs, (List.cons.inj e).1, h1, h2⟩
end
end Go.Proofs.Ytljacjjeinmfnaa
