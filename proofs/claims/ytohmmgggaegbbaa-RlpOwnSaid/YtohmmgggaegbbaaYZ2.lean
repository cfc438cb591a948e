/- Items as arguments. No condition. -/
import Derived.Test.YtohmmgggaegbbaaYZ1
import Derived.Test.YtohmmgggaegbbaaYI1
import Derived.Test.YtohmmgggaegbbaaY2
import Derived.Deep.Strs
namespace Go.Proofs.Ytohmmgggaegbbaa
set_option linter.unusedVariables false
set_option linter.unusedSimpArgs false
open Go Go.RowKit Go.ChangeShapes Go.WideShapes Go.Deep
theorem okWide_array {P : Program} {w : World} {r : Reach} {base : Nat} {t : TypeId} {v : Value} {n : Nat} {e : TypeId} (ht : P.underlying t = some (.array n e)) (h : Value.okWide P w r base t v) : ∃ cs, v = .agg cs ∧ cs.size = P.cellsOf t := by
  unfold Value.okWide at h
  rw [ht] at h
  obtain ⟨cs, rfl, hs, _⟩ := h
  exact ⟨cs, rfl, hs⟩
section
variable {H : Type} {enc : TypeId × Value → H} {w : World} {spare : Nat → Bool} {held : Bool}
theorem its_open {n : Nat} {C : Nat → List Value} (h : ∀ i, i < n → ∃ t x, C i = IV.cells x ∧ ItN (whole w) t x) :
    ∃ ts xs, (List.range n).flatMap C = cellsI xs ∧ ItsN (whole w) ts xs := by
  induction n with
  | zero => exact ⟨[], [], rfl, rfl⟩
  | succ n ih =>
    obtain ⟨ts, xs, e, hi⟩ := ih fun i hi => h i (by omega)
    obtain ⟨t, x, e2, hx⟩ := h n (by omega)
    refine ⟨ts ++ [t], xs ++ [x], ?_, hi.snoc hx⟩
    simp only [List.range_succ, List.flatMap_append, List.flatMap_cons, List.flatMap_nil, List.append_nil, e, e2, cellsI]
theorem struct3 {P : Program} {t : TypeId} {f0 f1 f2 : Field} {fuel : Nat} {cs : List Value} {x : DataW H × List MemPlace} (ht : P.underlying t = some (.struct #[f0, f1, f2])) (h : DataW.trod enc P w 0 spare held fuel t cs = some x) :
    ∃ n, fuel = n + 1 ∧ cs.length = P.cellsOf t ∧ (∃ y, DataW.trod enc P w 0 spare held n f0.type ((cs.drop f0.offset).take (P.cellsOf f0.type)) = some y) ∧
      (∃ y, DataW.trod enc P w 0 spare held n f1.type ((cs.drop f1.offset).take (P.cellsOf f1.type)) = some y) ∧ ∃ y, DataW.trod enc P w 0 spare held n f2.type ((cs.drop f2.offset).take (P.cellsOf f2.type)) = some y := by
  obtain ⟨xs, n, hf, _, hl, hlen, hx⟩ := DataW.trod_struct ht h
  match xs, hlen with
  | [y0, y1, y2], _ => exact ⟨n, hf, hl, ⟨y0, by simpa using hx 0 f0 rfl⟩, ⟨y1, by simpa using hx 1 f1 rfl⟩, ⟨y2, by simpa using hx 2 f2 rfl⟩⟩
set_option maxRecDepth 100000 in
theorem item_open : ∀ (fuel : Nat) (cs : List Value) (x : DataW H × List MemPlace), DataW.trod enc Try.prog w 0 spare held fuel 25 cs = some x →
    ∃ t iv, cs = IV.cells iv ∧ ItN (whole w) t iv := by
  intro fuel
  induction fuel using Nat.strongRecOn with
  | _ fuel ih =>
  intro cs x h
  obtain ⟨n, hf, hl, ⟨y0, h0⟩, ⟨y1, h1⟩, ⟨y2, h2⟩⟩ := struct3 Try.underlying25 h
  rw [show Try.prog.cellsOf 25 = 3 from by kernel_rfl] at hl
  match cs, hl with
  | [c0, c1, c2], _ =>
  dsimp only at h0 h1 h2
  rw [show Try.prog.cellsOf 4 = 1 from by kernel_rfl] at h0
  rw [show Try.prog.cellsOf 22 = 1 from by kernel_rfl] at h1
  rw [show Try.prog.cellsOf 23 = 1 from by kernel_rfl] at h2
  simp only [List.drop_zero, List.drop_succ_cons, List.take_succ_cons, List.take_zero] at h0 h1 h2
  obtain ⟨l, hc0, _⟩ := DataW.trod_bool Try.underlying4 h0
  obtain ⟨ab, nb, cb, bs, hc1, hb⟩ := open_u8 Try.underlying22 Try.underlying5 (by kernel_rfl) h1
  obtain ⟨ai, ni, ci, C, m, hc2, hr, hm, hC⟩ := open_rsl Try.underlying23 (by rw [show Try.prog.cellsOf 25 = 3 from by kernel_rfl]; decide) h2
  rw [show Try.prog.cellsOf 25 = 3 from by kernel_rfl] at hr
  obtain rfl := (List.cons.inj hc0).1
  obtain rfl := (List.cons.inj hc1).1
  obtain rfl := (List.cons.inj hc2).1
  obtain ⟨ts, xs', e, hi⟩ := its_open (w := w) (n := ni) (C := C) fun i hi => by
    obtain ⟨_, y, hy⟩ := hC i hi
    rcases hm with hm | hm
    · omega
    · exact ih m (by omega) _ _ hy
  rw [e] at hr
  exact ⟨.mk l bs ts, ⟨l, ab, nb, cb, ai, ni, ci⟩, rfl, ItN.mk hb hr hi⟩
set_option maxRecDepth 100000 in
theorem open_item {r : Reach} {b0 : Nat} {v : Value} {d : DataW H} {ps : List MemPlace} (hval : Value.okWide Try.prog w r b0 25 v) (hd : DataW.Trod enc Try.prog w 0 spare held 25 v d ps) :
    ∃ t iv, v = .agg #[.bool iv.l, .slice iv.ab iv.nb iv.cb, .slice iv.ai iv.ni iv.ci] ∧ ItN (whole w) t iv := by
  obtain ⟨cs, rfl, _⟩ := okWide_struct Try.underlying25 hval
  obtain ⟨fuel, hf⟩ := hd
  obtain ⟨t, iv, e, hi⟩ := item_open fuel _ _ hf
  refine ⟨t, iv, ?_, hi⟩
  have e' : cs.toList = IV.cells iv := e
  rw [← Array.toArray_toList (xs := cs), e']
  rfl
set_option maxRecDepth 100000 in
theorem open_items {r : Reach} {b0 : Nat} {v : Value} {d : DataW H} {ps : List MemPlace} (hval : Value.okWide Try.prog w r b0 23 v) (hd : DataW.Trod enc Try.prog w 0 spare held 23 v d ps) :
    ∃ ts xs ao n cap, v = .slice ao n cap ∧ RSl (whole w) 3 ao n cap (cellsI xs) ∧ ItsN (whole w) ts xs := by
  obtain ⟨ao', n', cap', rfl⟩ := okWide_slice Try.underlying23 hval
  obtain ⟨fuel, hf⟩ := hd
  obtain ⟨ai, ni, ci, C, m, hc2, hr, hm, hC⟩ := open_rsl Try.underlying23 (by rw [show Try.prog.cellsOf 25 = 3 from by kernel_rfl]; decide) hf
  rw [show Try.prog.cellsOf 25 = 3 from by kernel_rfl] at hr
  obtain ⟨ts, xs', e, hi⟩ := its_open (w := w) (n := ni) (C := C) fun i hi => by
    obtain ⟨_, y, hy⟩ := hC i hi
    exact item_open m _ _ hy
  rw [e] at hr
  exact ⟨ts, xs', ai, ni, ci, (List.cons.inj hc2).1, hr, hi⟩
set_option maxRecDepth 100000 in
theorem open_bytes {r : Reach} {b0 : Nat} {v : Value} {d : DataW H} {ps : List MemPlace} (hval : Value.okWide Try.prog w r b0 22 v) (hd : DataW.Trod enc Try.prog w 0 spare held 22 v d ps) :
    ∃ ao n cap bs, v = .slice ao n cap ∧ RSl (whole w) 1 ao n cap (u8s bs) := by
  obtain ⟨ao', n', cap', rfl⟩ := okWide_slice Try.underlying22 hval
  obtain ⟨fuel, hf⟩ := hd
  obtain ⟨ao, n, cap, bs, e, h⟩ := open_u8 Try.underlying22 Try.underlying5 (by kernel_rfl) hf
  exact ⟨ao, n, cap, bs, (List.cons.inj e).1, h⟩
set_option maxRecDepth 100000 in
theorem open_word {r : Reach} {b0 : Nat} {v : Value} {d : DataW H} {ps : List MemPlace} (hval : Value.okWide Try.prog w r b0 66 v) (hd : DataW.Trod enc Try.prog w 0 spare held 66 v d ps) :
    ∃ a b c e : UInt64, v = .agg #[.int .u64 (a.toNat : Int), .int .u64 (b.toNat : Int), .int .u64 (c.toNat : Int), .int .u64 (e.toNat : Int)] := by
  obtain ⟨cs, rfl, _⟩ := okWide_array Try.underlying66 hval
  obtain ⟨fuel, hf⟩ := hd
  obtain ⟨xs, m, _, _, hl, hlen, hx⟩ := DataW.trod_array Try.underlying66 hf
  have hl' : cs.toList.length = 4 := hl.trans (by kernel_rfl)
  have one : ∀ i, i < 4 → ∃ a : UInt64, (cs.toList.drop i).take 1 = [.int .u64 (a.toNat : Int)] := fun i hi => by
    have h := hx i hi
    rw [List.getElem?_eq_getElem (by omega), show Try.prog.cellsOf 64 = 1 from by kernel_rfl, Nat.mul_one] at h
    obtain ⟨q, hq, _, hw⟩ := DataW.trod_int Try.underlying64 h
    have hb : 0 ≤ q ∧ q ≤ 18446744073709551615 := by simpa [Lit.wf, IntKind.min, IntKind.max, IntKind.signed, IntKind.bits] using hw
    refine ⟨UInt64.ofNat q.toNat, hq.trans ?_⟩
    have h8 : (UInt64.ofNat q.toNat).toNat = q.toNat := by rw [UInt64.toNat_ofNat']; omega
    rw [h8]
    congr 2
    omega
  obtain ⟨a, ha⟩ := one 0 (by decide)
  obtain ⟨b, hb⟩ := one 1 (by decide)
  obtain ⟨c, hc⟩ := one 2 (by decide)
  obtain ⟨e, he⟩ := one 3 (by decide)
  refine ⟨a, b, c, e, ?_⟩
  have e' : cs.toList = [.int .u64 (a.toNat : Int), .int .u64 (b.toNat : Int), .int .u64 (c.toNat : Int), .int .u64 (e.toNat : Int)] := by
    match cs.toList, hl', ha, hb, hc, he with
    | [w0, w1, w2, w3], _, ha, hb, hc, he =>
      simp only [List.drop_zero, List.drop_succ_cons, List.take_succ_cons, List.take_zero, List.cons.injEq, and_true] at ha hb hc he
      rw [ha, hb, hc, he]
  rw [← Array.toArray_toList (xs := cs), e']
end
end Go.Proofs.Ytohmmgggaegbbaa
