/- Slices of bytes and words as arguments. No condition. -/
import Derived.Test.YtdplcfineaikjaaDoorZ1
import Derived.Test.YtdplcfineaikjaaDoorTy
import Derived.Deep.Strs
namespace Go.Proofs.YtdplcfineaikjaaDoor
set_option linter.unusedVariables false
set_option linter.unusedSimpArgs false
open Go Go.RowKit Go.ChangeShapes Go.WideShapes Go.Deep
theorem okWide_array {P : Program} {w : World} {r : Reach} {base : Nat} {t : TypeId} {v : Value} {n : Nat} {e : TypeId} (ht : P.underlying t = some (.array n e)) (h : Value.okWide P w r base t v) : ∃ cs, v = .agg cs ∧ cs.size = P.cellsOf t := by
  unfold Value.okWide at h
  rw [ht] at h
  obtain ⟨cs, rfl, hs, _⟩ := h
  exact ⟨cs, rfl, hs⟩
section
variable {H : Type} {enc : TypeId × Value → H} {w : World} {spare : Nat → Bool} {held : Bool}
set_option maxRecDepth 100000 in
theorem open_word {r : Reach} {b0 : Nat} {v : Value} {d : DataW H} {ps : List MemPlace} (hval : Value.okWide Tryd.prog w r b0 25 v) (hd : DataW.Trod enc Tryd.prog w 0 spare held 25 v d ps) :
    ∃ a b c e : UInt64, v = .agg #[.int .u64 (a.toNat : Int), .int .u64 (b.toNat : Int), .int .u64 (c.toNat : Int), .int .u64 (e.toNat : Int)] := by
  obtain ⟨cs, rfl, _⟩ := okWide_array Tryd.underlying25 hval
  obtain ⟨fuel, hf⟩ := hd
  obtain ⟨xs, m, _, _, hl, hlen, hx⟩ := DataW.trod_array Tryd.underlying25 hf
  have hl' : cs.toList.length = 4 := hl.trans (by kernel_rfl)
  have one : ∀ i, i < 4 → ∃ a : UInt64, (cs.toList.drop i).take 1 = [.int .u64 (a.toNat : Int)] := fun i hi => by
    have h := hx i hi
    rw [List.getElem?_eq_getElem (by omega), show Tryd.prog.cellsOf 23 = 1 from by kernel_rfl, Nat.mul_one] at h
    obtain ⟨q, hq, _, hw⟩ := DataW.trod_int Tryd.underlying23 h
    have hb : 0 ≤ q ∧ q ≤ 18446744073709551615 := by simpa [Lit.wf, IntKind.min, IntKind.max, IntKind.signed, IntKind.bits] using hw
    refine ⟨UInt64.ofNat q.toNat, hq.trans ?_⟩
    have h8 : (UInt64.ofNat q.toNat).toNat = q.toNat := by rw [UInt64.toNat_ofNat']; omega
    rw [h8]
    congr 2
    omega
  obtain ⟨a, ha⟩ := one 0 (by decide)
  obtain ⟨b, hb⟩ := one 1 (by decide)
  obtain ⟨c, hc⟩ := one 2 (by decide)
  obtain ⟨e, he⟩ := one 3 (by decide)
  refine ⟨a, b, c, e, ?_⟩
  have e' : cs.toList = [.int .u64 (a.toNat : Int), .int .u64 (b.toNat : Int), .int .u64 (c.toNat : Int), .int .u64 (e.toNat : Int)] := by
    match cs.toList, hl', ha, hb, hc, he with
    | [w0, w1, w2, w3], _, ha, hb, hc, he =>
      simp only [List.drop_zero, List.drop_succ_cons, List.take_succ_cons, List.take_zero, List.cons.injEq, and_true] at ha hb hc he
      rw [ha, hb, hc, he]
  rw [← Array.toArray_toList (xs := cs), e']
set_option maxRecDepth 100000 in
theorem open_bytes {r : Reach} {b0 : Nat} {v : Value} {d : DataW H} {ps : List MemPlace} (hval : Value.okWide Tryd.prog w r b0 22 v) (hd : DataW.Trod enc Tryd.prog w 0 spare held 22 v d ps) :
    ∃ ao n cap bs, v = .slice ao n cap ∧ RSl (whole w) 1 ao n cap (u8s bs) := by
  obtain ⟨ao', n', cap', rfl⟩ := okWide_slice Tryd.underlying22 hval
  obtain ⟨fuel, hf⟩ := hd
  obtain ⟨ao, n, cap, bs, e, h⟩ := open_u8 Tryd.underlying22 Tryd.underlying5 (by kernel_rfl) hf
  exact ⟨ao, n, cap, bs, (List.cons.inj e).1, h⟩
end
end Go.Proofs.YtdplcfineaikjaaDoor
