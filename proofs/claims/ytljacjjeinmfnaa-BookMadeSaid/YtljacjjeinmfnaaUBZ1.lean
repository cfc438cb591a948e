/- Structs as arguments: their fields; a maker of contracts. No condition. -/
import Derived.Test.YtljacjjeinmfnaaUBK5
import Derived.Test.YtljacjjeinmfnaaU14
namespace Go.Proofs.Ytljacjjeinmfnaa
set_option linter.unusedVariables false
set_option linter.unusedSimpArgs false
open Go Go.RowKit Go.ChangeShapes Go.WideShapes Go.Deep
theorem okWide_structB {P : Program} {w : World} {r : Reach} {base : Nat} {t : TypeId} {v : Value} {fs : Array Field} (ht : P.underlying t = some (.struct fs)) (h : Value.okWide P w r base t v) : ∃ cs : Array Value, v = .agg cs := by
  unfold Value.okWide at h
  rw [ht] at h
  obtain ⟨cs, rfl, hs, _⟩ := h
  exact ⟨cs, rfl⟩
theorem words_of_cells : ∀ cs : List Value, (∀ i, i < cs.length → ∃ a : UInt64, (cs.drop i).take 1 = [.int .u64 (a.toNat : Int)]) → ∃ l : List UInt64, l.length = cs.length ∧ cs = u64s l := by
  intro cs
  induction cs with
  | nil => intro _; exact ⟨[], rfl, rfl⟩
  | cons v t ih =>
    intro h
    obtain ⟨a, ha⟩ := h 0 (Nat.zero_lt_succ _)
    obtain ⟨l, hl, rfl⟩ := ih fun i hi => by
      have := h (i + 1) (Nat.succ_lt_succ hi)
      rw [List.drop_succ_cons] at this
      exact this
    refine ⟨a :: l, by rw [List.length_cons, List.length_cons, hl], ?_⟩
    simp only [List.drop_zero, List.take_succ_cons, List.take_zero, List.cons.injEq, and_true] at ha
    rw [ha]; rfl
section
variable {H : Type} {enc : TypeId × Value → H} {w : World} {spare : Nat → Bool} {held : Bool}
theorem struct_open' {P : Program} {t : TypeId} {fs : Array Field} {fuel : Nat} {cs : List Value} {x : DataW H × List MemPlace} (ht : P.underlying t = some (.struct fs)) (h : DataW.trod enc P w 0 spare held fuel t cs = some x) :
    cs.length = P.cellsOf t ∧ ∃ n, ∀ (i : Nat) (f : Field), fs[i]? = some f → ∃ y, DataW.trod enc P w 0 spare held n f.type ((cs.drop f.offset).take (P.cellsOf f.type)) = some y := by
  obtain ⟨xs, n, hf, _, hl, hlen, hx⟩ := DataW.trod_struct ht h
  refine ⟨hl, n, fun i f hi => ?_⟩
  have hlt : i < xs.length := by
    obtain ⟨h1, _⟩ := Array.getElem?_eq_some_iff.1 hi
    rw [hlen]; exact h1
  refine ⟨xs[i], ?_⟩
  rw [hx i f hi]
  exact List.getElem?_eq_getElem hlt
theorem open_u64c {P : Program} {t : TypeId} {fuel : Nat} {cs : List Value} {x : DataW H × List MemPlace} (ht : P.underlying t = some (.int .u64)) (h : DataW.trod enc P w 0 spare held fuel t cs = some x) : ∃ a : UInt64, cs = [.int .u64 (a.toNat : Int)] := by
  obtain ⟨q, hq, _, hw⟩ := DataW.trod_int ht h
  have hb : 0 ≤ q ∧ q ≤ 18446744073709551615 := by simpa [Lit.wf, IntKind.min, IntKind.max, IntKind.signed, IntKind.bits] using hw
  refine ⟨UInt64.ofNat q.toNat, hq.trans ?_⟩
  have h8 : (UInt64.ofNat q.toNat).toNat = q.toNat := by rw [UInt64.toNat_ofNat']; omega
  rw [h8]
  congr 2
  omega
theorem open_u8c {P : Program} {t : TypeId} {fuel : Nat} {cs : List Value} {x : DataW H × List MemPlace} (ht : P.underlying t = some (.int .u8)) (h : DataW.trod enc P w 0 spare held fuel t cs = some x) : ∃ a : UInt8, cs = [.int .u8 (a.toNat : Int)] := by
  obtain ⟨q, hq, _, hw⟩ := DataW.trod_int ht h
  have hb : 0 ≤ q ∧ q ≤ 255 := by simpa [Lit.wf, IntKind.min, IntKind.max, IntKind.signed, IntKind.bits] using hw
  refine ⟨UInt8.ofNat q.toNat, hq.trans ?_⟩
  have h8 : (UInt8.ofNat q.toNat).toNat = q.toNat := by rw [UInt8.toNat_ofNat']; omega
  rw [h8]
  congr 2
  omega
/-- Arrays of bytes; a word. -/
theorem bytes_cells {t e : TypeId} {k fuel : Nat} {cs : List Value} {x : DataW H × List MemPlace} (ht : Try.prog.underlying t = some (.array k e)) (he : Try.prog.underlying e = some (.int .u8)) (hc : Try.prog.cellsOf e = 1) (hk : Try.prog.cellsOf t = k) (h : DataW.trod enc Try.prog w 0 spare held fuel t cs = some x) : ∃ l : List UInt8, l.length = k ∧ cs = u8s l := by
  obtain ⟨xs, m, _, _, hl, hlen, hx⟩ := DataW.trod_array ht h
  have hl' : cs.length = k := hl.trans hk
  obtain ⟨l, h1, h2⟩ := bytes_of_cells cs fun i hi => by
    have h := hx i (by omega)
    rw [List.getElem?_eq_getElem (by omega), hc, Nat.mul_one] at h
    exact open_u8c he h
  exact ⟨l, h1.trans hl', h2⟩
theorem word_cells {t e : TypeId} {fuel : Nat} {cs : List Value} {x : DataW H × List MemPlace} (ht : Try.prog.underlying t = some (.array 4 e)) (he : Try.prog.underlying e = some (.int .u64)) (hc : Try.prog.cellsOf e = 1) (hk : Try.prog.cellsOf t = 4) (h : DataW.trod enc Try.prog w 0 spare held fuel t cs = some x) : ∃ x : Nat, x < WW ∧ cs = u64s (wl x) := by
  obtain ⟨xs, m, _, _, hl, hlen, hx⟩ := DataW.trod_array ht h
  have hl' : cs.length = 4 := hl.trans hk
  obtain ⟨l, h1, h2⟩ := words_of_cells cs fun i hi => by
    have h := hx i (by omega)
    rw [List.getElem?_eq_getElem (by omega), hc, Nat.mul_one] at h
    exact open_u64c he h
  have hl4 : l.length = 4 := h1.trans hl'
  refine ⟨v64 l, v64_lt4 hl4, ?_⟩
  rw [← wl_self hl4]; exact h2
set_option maxRecDepth 100000 in
theorem open_maker {r : Reach} {b0 : Nat} {v : Value} {d : DataW H} {ps : List MemPlace} (hval : Value.okWide Try.prog w r b0 29 v) (hd : DataW.Trod enc Try.prog w 0 spare held 29 v d ps) :
    ∃ a n x ao m c l, v = .agg (mkC a n x (.slice ao m c)).toArray ∧ a.length = 20 ∧ x < WW ∧ RSl (whole w) 1 ao m c (u8s l) := by
  obtain ⟨cs, rfl⟩ := okWide_structB Try.underlying29 hval
  obtain ⟨fuel, hf⟩ := hd
  obtain ⟨hl, k, hx⟩ := struct_open' Try.underlying29 hf
  have hl' : cs.toList.length = 26 := hl.trans (by kernel_rfl)
  obtain ⟨y0, h0⟩ : ∃ y, DataW.trod enc Try.prog w 0 spare held k 23 ((cs.toList.drop 0).take (Try.prog.cellsOf 23)) = some y := hx 0 _ rfl
  obtain ⟨y1, h1⟩ : ∃ y, DataW.trod enc Try.prog w 0 spare held k 24 ((cs.toList.drop 20).take (Try.prog.cellsOf 24)) = some y := hx 1 _ rfl
  obtain ⟨y2, h2⟩ : ∃ y, DataW.trod enc Try.prog w 0 spare held k 26 ((cs.toList.drop 21).take (Try.prog.cellsOf 26)) = some y := hx 2 _ rfl
  obtain ⟨y3, h3⟩ : ∃ y, DataW.trod enc Try.prog w 0 spare held k 27 ((cs.toList.drop 25).take (Try.prog.cellsOf 27)) = some y := hx 3 _ rfl
  rw [show Try.prog.cellsOf 23 = 20 by kernel_rfl] at h0
  rw [show Try.prog.cellsOf 24 = 1 by kernel_rfl] at h1
  rw [show Try.prog.cellsOf 26 = 4 by kernel_rfl] at h2
  rw [show Try.prog.cellsOf 27 = 1 by kernel_rfl] at h3
  obtain ⟨a, ha, ea⟩ := addr_cells h0
  obtain ⟨n, en⟩ := open_u64c Try.underlying24 h1
  obtain ⟨x, hxw, ex⟩ := word_cells Try.underlying26 Try.underlying24 (by kernel_rfl) (by kernel_rfl) h2
  obtain ⟨ao, na, ca, l, el, rl⟩ := open_u8 Try.underlying27 Try.underlying5 (by kernel_rfl) h3
  refine ⟨a, n, x, ao, na, ca, l, ?_, ha, hxw, rl⟩
  have e : cs.toList = (cs.toList.drop 0).take 20 ++ ((cs.toList.drop 20).take 1 ++ ((cs.toList.drop 21).take 4 ++ (cs.toList.drop 25).take 1)) := by
    rw [List.take_of_length_le (show (cs.toList.drop 25).length ≤ 1 by rw [List.length_drop]; omega)]
    rw [show cs.toList.drop 25 = (cs.toList.drop 21).drop 4 by rw [List.drop_drop], List.take_append_drop]
    rw [show cs.toList.drop 21 = (cs.toList.drop 20).drop 1 by rw [List.drop_drop], List.take_append_drop, List.drop_zero, List.take_append_drop]
  have ea' : (cs.toList.drop 0).take 20 = u8s a := ea
  have en' : (cs.toList.drop 20).take 1 = [.int .u64 (n.toNat : Int)] := en
  have ex' : (cs.toList.drop 21).take 4 = u64s (wl x) := ex
  have el' : (cs.toList.drop 25).take 1 = [.slice ao na ca] := el
  rw [ea', en', ex', el'] at e
  rw [← Array.toArray_toList (xs := cs), e]
  rfl
end
end Go.Proofs.Ytljacjjeinmfnaa
