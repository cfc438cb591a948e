/- An address as an argument: an array of bytes. No condition. -/
import Derived.Test.YtoabimaidpbkiaaDoorZ1
import Derived.Test.YtoabimaidpbkiaaDoorTy
import Derived.Deep.Strs
namespace Go.Proofs.YtoabimaidpbkiaaDoor
set_option linter.unusedVariables false
set_option linter.unusedSimpArgs false
open Go Go.RowKit Go.ChangeShapes Go.WideShapes Go.Deep
theorem okWide_arrayA {P : Program} {w : World} {r : Reach} {base : Nat} {t : TypeId} {v : Value} {n : Nat} {e : TypeId} (ht : P.underlying t = some (.array n e)) (h : Value.okWide P w r base t v) : ∃ cs, v = .agg cs ∧ cs.size = P.cellsOf t := by
  unfold Value.okWide at h
  rw [ht] at h
  obtain ⟨cs, rfl, hs, _⟩ := h
  exact ⟨cs, rfl, hs⟩
theorem bytes_of_cells : ∀ cs : List Value, (∀ i, i < cs.length → ∃ a : UInt8, (cs.drop i).take 1 = [.int .u8 (a.toNat : Int)]) → ∃ l : List UInt8, l.length = cs.length ∧ cs = u8s l := by
  intro cs
  induction cs with
  | nil => intro _; exact ⟨[], rfl, rfl⟩
  | cons v t ih =>
    intro h
    obtain ⟨a, ha⟩ := h 0 (Nat.zero_lt_succ _)
    obtain ⟨l, hl, rfl⟩ := ih fun i hi => by
      have := h (i + 1) (Nat.succ_lt_succ hi)
      rw [List.drop_succ_cons] at this
      exact this
    refine ⟨a :: l, by rw [List.length_cons, List.length_cons, hl], ?_⟩
    simp only [List.drop_zero, List.take_succ_cons, List.take_zero, List.cons.injEq, and_true] at ha
    rw [ha]; rfl
section
variable {H : Type} {enc : TypeId × Value → H} {w : World} {spare : Nat → Bool} {held : Bool}
set_option maxRecDepth 100000 in
theorem addr_cells {fuel : Nat} {cs : List Value} {x : DataW H × List MemPlace} (h : DataW.trod enc Tryd.prog w 0 spare held fuel 34 cs = some x) : ∃ l : List UInt8, l.length = 20 ∧ cs = u8s l := by
  obtain ⟨xs, m, _, _, hl, hlen, hx⟩ := DataW.trod_array Tryd.underlying34 h
  have hl' : cs.length = 20 := hl.trans (by kernel_rfl)
  obtain ⟨l, h1, h2⟩ := bytes_of_cells cs fun i hi => by
    have h := hx i (by omega)
    rw [List.getElem?_eq_getElem (by omega), show Tryd.prog.cellsOf 5 = 1 from by kernel_rfl, Nat.mul_one] at h
    obtain ⟨q, hq, _, hw⟩ := DataW.trod_int Tryd.underlying5 h
    have hb : 0 ≤ q ∧ q ≤ 255 := by simpa [Lit.wf, IntKind.min, IntKind.max, IntKind.signed, IntKind.bits] using hw
    refine ⟨UInt8.ofNat q.toNat, hq.trans ?_⟩
    have h8 : (UInt8.ofNat q.toNat).toNat = q.toNat := by rw [UInt8.toNat_ofNat']; omega
    rw [h8]
    congr 2
    omega
  exact ⟨l, h1.trans hl', h2⟩
set_option maxRecDepth 100000 in
theorem open_addr {r : Reach} {b0 : Nat} {v : Value} {d : DataW H} {ps : List MemPlace} (hval : Value.okWide Tryd.prog w r b0 34 v) (hd : DataW.Trod enc Tryd.prog w 0 spare held 34 v d ps) :
    ∃ l : List UInt8, v = .agg (u8s l).toArray ∧ l.length = 20 := by
  obtain ⟨cs, rfl, _⟩ := okWide_arrayA Tryd.underlying34 hval
  obtain ⟨fuel, hf⟩ := hd
  obtain ⟨l, hl, e⟩ := addr_cells hf
  exact ⟨l, by rw [← Array.toArray_toList (xs := cs), show cs.toList = u8s l from e], hl⟩
end
end Go.Proofs.YtoabimaidpbkiaaDoor
