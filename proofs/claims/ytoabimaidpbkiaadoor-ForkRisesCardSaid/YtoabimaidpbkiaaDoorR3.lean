/- Several texts in one: see the remarks ahead of each part. No condition but those told there. -/
import Derived.Test.YtoabimaidpbkiaaDoorZ1
import Derived.Test.YtoabimaidpbkiaaDoorTy
import Derived.Deep.Strs
import Derived.Test.YtoabimaidpbkiaaDoorR1
import Derived.Test.YtoabimaidpbkiaaDoorR2
/- An address as an argument: an array of bytes. No condition. -/
namespace Go.Proofs.YtoabimaidpbkiaaDoor
set_option linter.unusedVariables false
set_option linter.unusedSimpArgs false
open Go Go.RowKit Go.ChangeShapes Go.WideShapes Go.Deep
theorem okWide_arrayA {P : Program} {w : World} {r : Reach} {base : Nat} {t : TypeId} {v : Value} {n : Nat} {e : TypeId} (ht : P.underlying t = some (.array n e)) (h : Value.okWide P w r base t v) : ∃ cs, v = .agg cs ∧ cs.size = P.cellsOf t := by
  unfold Value.okWide at h
  rw [ht] at h
  obtain ⟨cs, rfl, hs, _⟩ := h
  exact ⟨cs, rfl, hs⟩
theorem bytes_of_cells : ∀ cs : List Value, (∀ i, i < cs.length → ∃ a : UInt8, (cs.drop i).take 1 = [.int .u8 (a.toNat : Int)]) → ∃ l : List UInt8, l.length = cs.length ∧ cs = u8s l := by
  intro cs
  induction cs with
  | nil => intro _; exact ⟨[], rfl, rfl⟩
  | cons v t ih =>
    intro h
    obtain ⟨a, ha⟩ := h 0 (Nat.zero_lt_succ _)
    obtain ⟨l, hl, rfl⟩ := ih fun i hi => by
      have := h (i + 1) (Nat.succ_lt_succ hi)
      rw [List.drop_succ_cons] at this
      exact this
    refine ⟨a :: l, by rw [List.length_cons, List.length_cons, hl], ?_⟩
    simp only [List.drop_zero, List.take_succ_cons, List.take_zero, List.cons.injEq, and_true] at ha
    rw [ha]; rfl
section
variable {H : Type} {enc : TypeId × Value → H} {w : World} {spare : Nat → Bool} {held : Bool}
set_option maxRecDepth 100000 in
theorem addr_cells {fuel : Nat} {cs : List Value} {x : DataW H × List MemPlace} (h : DataW.trod enc Tryd.prog w 0 spare held fuel 34 cs = some x) : ∃ l : List UInt8, l.length = 20 ∧ cs = u8s l := by
  obtain ⟨xs, m, _, _, hl, hlen, hx⟩ := DataW.trod_array Tryd.underlying34 h
  have hl' : cs.length = 20 := hl.trans (by kernel_rfl)
  obtain ⟨l, h1, h2⟩ := bytes_of_cells cs fun i hi => by
    have h := hx i (by omega)
    rw [List.getElem?_eq_getElem (by omega), show Tryd.prog.cellsOf 5 = 1 from by kernel_rfl, Nat.mul_one] at h
    obtain ⟨q, hq, _, hw⟩ := DataW.trod_int Tryd.underlying5 h
    have hb : 0 ≤ q ∧ q ≤ 255 := by simpa [Lit.wf, IntKind.min, IntKind.max, IntKind.signed, IntKind.bits] using hw
    refine ⟨UInt8.ofNat q.toNat, hq.trans ?_⟩
    have h8 : (UInt8.ofNat q.toNat).toNat = q.toNat := by rw [UInt8.toNat_ofNat']; omega
    rw [h8]
    congr 2
    omega
  exact ⟨l, h1.trans hl', h2⟩
set_option maxRecDepth 100000 in
theorem open_addr {r : Reach} {b0 : Nat} {v : Value} {d : DataW H} {ps : List MemPlace} (hval : Value.okWide Tryd.prog w r b0 34 v) (hd : DataW.Trod enc Tryd.prog w 0 spare held 34 v d ps) :
    ∃ l : List UInt8, v = .agg (u8s l).toArray ∧ l.length = 20 := by
  obtain ⟨cs, rfl, _⟩ := okWide_arrayA Tryd.underlying34 hval
  obtain ⟨fuel, hf⟩ := hd
  obtain ⟨l, hl, e⟩ := addr_cells hf
  exact ⟨l, by rw [← Array.toArray_toList (xs := cs), show cs.toList = u8s l from e], hl⟩
end
end Go.Proofs.YtoabimaidpbkiaaDoor
/- A plan as an argument. No condition. -/
namespace Go.Proofs.YtoabimaidpbkiaaDoor
set_option linter.unusedVariables false
set_option linter.unusedSimpArgs false
open Go Go.RowKit Go.ChangeShapes Go.WideShapes Go.Deep
theorem words_of_cells : ∀ cs : List Value, (∀ i, i < cs.length → ∃ a : UInt64, (cs.drop i).take 1 = [.int .u64 (a.toNat : Int)]) → ∃ l : List UInt64, l.length = cs.length ∧ cs = u64s l := by
  intro cs
  induction cs with
  | nil => intro _; exact ⟨[], rfl, rfl⟩
  | cons v t ih =>
    intro h
    obtain ⟨a, ha⟩ := h 0 (Nat.zero_lt_succ _)
    obtain ⟨l, hl, rfl⟩ := ih fun i hi => by
      have := h (i + 1) (Nat.succ_lt_succ hi)
      rw [List.drop_succ_cons] at this
      exact this
    refine ⟨a :: l, by rw [List.length_cons, List.length_cons, hl], ?_⟩
    simp only [List.drop_zero, List.take_succ_cons, List.take_zero, List.cons.injEq, and_true] at ha
    rw [ha]; rfl
section
variable {H : Type} {enc : TypeId × Value → H} {w : World} {spare : Nat → Bool} {held : Bool}
theorem struct_open' {P : Program} {t : TypeId} {fs : Array Field} {fuel : Nat} {cs : List Value} {x : DataW H × List MemPlace} (ht : P.underlying t = some (.struct fs)) (h : DataW.trod enc P w 0 spare held fuel t cs = some x) :
    cs.length = P.cellsOf t ∧ ∃ n, ∀ (i : Nat) (f : Field), fs[i]? = some f → ∃ y, DataW.trod enc P w 0 spare held n f.type ((cs.drop f.offset).take (P.cellsOf f.type)) = some y := by
  obtain ⟨xs, n, hf, _, hl, hlen, hx⟩ := DataW.trod_struct ht h
  refine ⟨hl, n, fun i f hi => ?_⟩
  have hlt : i < xs.length := by
    obtain ⟨h1, _⟩ := Array.getElem?_eq_some_iff.1 hi
    rw [hlen]; exact h1
  refine ⟨xs[i], ?_⟩
  rw [hx i f hi]
  exact List.getElem?_eq_getElem hlt
theorem open_u64c {P : Program} {t : TypeId} {fuel : Nat} {cs : List Value} {x : DataW H × List MemPlace} (ht : P.underlying t = some (.int .u64)) (h : DataW.trod enc P w 0 spare held fuel t cs = some x) : ∃ a : UInt64, cs = [.int .u64 (a.toNat : Int)] := by
  obtain ⟨q, hq, _, hw⟩ := DataW.trod_int ht h
  have hb : 0 ≤ q ∧ q ≤ 18446744073709551615 := by simpa [Lit.wf, IntKind.min, IntKind.max, IntKind.signed, IntKind.bits] using hw
  refine ⟨UInt64.ofNat q.toNat, hq.trans ?_⟩
  have h8 : (UInt64.ofNat q.toNat).toNat = q.toNat := by rw [UInt64.toNat_ofNat']; omega
  rw [h8]
  congr 2
  omega
theorem words_open {P : Program} {t e : TypeId} {k fuel : Nat} {cs : List Value} {x : DataW H × List MemPlace} (ht : P.underlying t = some (.array k e)) (he : P.underlying e = some (.int .u64)) (hk : P.cellsOf t = k) (hc : P.cellsOf e = 1) (h : DataW.trod enc P w 0 spare held fuel t cs = some x) : ∃ l : List UInt64, l.length = k ∧ cs = u64s l := by
  obtain ⟨xs, m, _, _, hl, hlen, hx⟩ := DataW.trod_array ht h
  have hl' : cs.length = k := hl.trans hk
  obtain ⟨l, h1, h2⟩ := words_of_cells cs fun i hi => by
    have h := hx i (by omega)
    rw [List.getElem?_eq_getElem (by omega), hc, Nat.mul_one] at h
    exact open_u64c he h
  exact ⟨l, h1.trans hl', h2⟩
theorem addrs_open {n : Nat} {C : Nat → List Value} (h : ∀ i, i < n → ∃ l : List UInt8, l.length = 20 ∧ C i = u8s l) : ∃ fr : List (List UInt8), (List.range n).flatMap C = fr.flatMap u8s ∧ fr.length = n ∧ ∀ a ∈ fr, a.length = 20 := by
  induction n with
  | zero => exact ⟨[], rfl, rfl, fun a ha => absurd ha List.not_mem_nil⟩
  | succ n ih =>
    obtain ⟨fr, e, hl, h20⟩ := ih fun i hi => h i (by omega)
    obtain ⟨l, h1, h2⟩ := h n (by omega)
    refine ⟨fr ++ [l], ?_, by simp [hl], fun a ha => ?_⟩
    · simp only [List.range_succ, List.flatMap_append, List.flatMap_cons, List.flatMap_nil, List.append_nil, e, h2]
    · rcases List.mem_append.1 ha with ha | ha
      · exact h20 a ha
      · rw [List.mem_singleton.1 ha]; exact h1
theorem cut39 {cs : List Value} (h : cs.length = 39) : cs = (cs.drop 0).take 1 ++ ((cs.drop 1).take 14 ++ ((cs.drop 15).take 2 ++ ((cs.drop 17).take 1 ++ ((cs.drop 18).take 1 ++ (cs.drop 19).take 20)))) := by
  have t : ∀ (a b : Nat) (l : List Value), l = l.take a ++ l.drop a := fun a _ l => (List.take_append_drop a l).symm
  have e1 := (List.take_append_drop 1 cs).symm
  have e2 := (List.take_append_drop 14 (cs.drop 1)).symm
  have e3 := (List.take_append_drop 2 (cs.drop 15)).symm
  have e4 := (List.take_append_drop 1 (cs.drop 17)).symm
  have e5 := (List.take_append_drop 1 (cs.drop 18)).symm
  rw [List.drop_drop] at e2 e3 e4 e5
  rw [List.drop_zero]
  conv => lhs; rw [e1, e2, show 1 + 14 = 15 from rfl, e3, show 15 + 2 = 17 from rfl, e4, show 17 + 1 = 18 from rfl, e5, show 18 + 1 = 19 from rfl]
  rw [List.take_of_length_le (l := cs.drop 19) (by rw [List.length_drop]; omega)]
set_option maxRecDepth 100000 in
theorem cfg_cells {fuel : Nat} {cs : List Value} {x : DataW H × List MemPlace} (h : DataW.trod enc Tryd.prog w 0 spare held fuel 42 cs = some x) :
    ∃ ch dao bl ti ao n cap tw, ∃ fr : List (List UInt8), bl.length = 14 ∧ ti.length = 2 ∧ tw.length = 20 ∧ cs = cfg ch dao bl ti ao n cap tw ∧ RSl (whole w) 20 ao n cap (fr.flatMap u8s) ∧ fr.length = n ∧ ∀ a ∈ fr, a.length = 20 := by
  obtain ⟨hl, n, hx⟩ := struct_open' Tryd.underlying42 h
  have hl' : cs.length = 39 := hl.trans (by kernel_rfl)
  obtain ⟨y0, h0⟩ : ∃ y, DataW.trod enc Tryd.prog w 0 spare held n 22 ((cs.drop 0).take (Tryd.prog.cellsOf 22)) = some y := hx 0 _ rfl
  obtain ⟨y1, h1⟩ : ∃ y, DataW.trod enc Tryd.prog w 0 spare held n 38 ((cs.drop 1).take (Tryd.prog.cellsOf 38)) = some y := hx 1 _ rfl
  obtain ⟨y2, h2⟩ : ∃ y, DataW.trod enc Tryd.prog w 0 spare held n 39 ((cs.drop 15).take (Tryd.prog.cellsOf 39)) = some y := hx 2 _ rfl
  obtain ⟨y3, h3⟩ : ∃ y, DataW.trod enc Tryd.prog w 0 spare held n 22 ((cs.drop 17).take (Tryd.prog.cellsOf 22)) = some y := hx 3 _ rfl
  obtain ⟨y4, h4⟩ : ∃ y, DataW.trod enc Tryd.prog w 0 spare held n 40 ((cs.drop 18).take (Tryd.prog.cellsOf 40)) = some y := hx 4 _ rfl
  obtain ⟨y5, h5⟩ : ∃ y, DataW.trod enc Tryd.prog w 0 spare held n 34 ((cs.drop 19).take (Tryd.prog.cellsOf 34)) = some y := hx 5 _ rfl
  have c1 : Tryd.prog.cellsOf 22 = 1 := by kernel_rfl
  have c14 : Tryd.prog.cellsOf 38 = 14 := by kernel_rfl
  have c2 : Tryd.prog.cellsOf 39 = 2 := by kernel_rfl
  have cs1 : Tryd.prog.cellsOf 40 = 1 := by kernel_rfl
  have c20 : Tryd.prog.cellsOf 34 = 20 := by kernel_rfl
  obtain ⟨ch, e0⟩ := open_u64c Tryd.underlying22 h0
  obtain ⟨bl, hb, e1⟩ := words_open Tryd.underlying38 Tryd.underlying22 c14 c1 h1
  obtain ⟨ti, ht, e2⟩ := words_open Tryd.underlying39 Tryd.underlying22 c2 c1 h2
  obtain ⟨dao, e3⟩ := open_u64c Tryd.underlying22 h3
  obtain ⟨ai, ni, ci, C, m, hc2, hr, hm, hC⟩ := open_rsl Tryd.underlying40 (by rw [c20]; decide) h4
  rw [c20] at hr
  obtain ⟨fr, ef, hfl, h20⟩ := addrs_open (n := ni) (C := C) fun i hi => by
    obtain ⟨_, y, hy⟩ := hC i hi
    exact addr_cells hy
  rw [ef] at hr
  obtain ⟨tw, ho, e5⟩ := addr_cells h5
  rw [c1] at e0 e3
  rw [c14] at e1
  rw [c2] at e2
  rw [cs1] at hc2
  rw [c20] at e5
  refine ⟨ch, dao, bl, ti, ai, ni, ci, tw, fr, hb, ht, ho, ?_, hr, hfl, h20⟩
  rw [cut39 hl', e0, e1, e2, e3, hc2, e5]
  rfl
set_option maxRecDepth 100000 in
theorem open_cfg {r : Reach} {b0 : Nat} {v : Value} {d : DataW H} {ps : List MemPlace} (hval : Value.okWide Tryd.prog w r b0 42 v) (hd : DataW.Trod enc Tryd.prog w 0 spare held 42 v d ps) :
    ∃ ch dao bl ti ao n cap tw, ∃ fr : List (List UInt8), v = .agg (cfg ch dao bl ti ao n cap tw).toArray ∧ bl.length = 14 ∧ ti.length = 2 ∧ tw.length = 20 ∧ RSl (whole w) 20 ao n cap (fr.flatMap u8s) ∧ fr.length = n ∧ ∀ a ∈ fr, a.length = 20 := by
  obtain ⟨cs, rfl, _⟩ := okWide_struct Tryd.underlying42 hval
  obtain ⟨fuel, hf⟩ := hd
  obtain ⟨ch, dao, bl, ti, ao, n, cap, tw, fr, hb, ht, ho, e, hr, hl, h20⟩ := cfg_cells hf
  exact ⟨ch, dao, bl, ti, ao, n, cap, tw, fr, by rw [← Array.toArray_toList (xs := cs), show cs.toList = _ from e], hb, ht, ho, hr, hl, h20⟩
end
end Go.Proofs.YtoabimaidpbkiaaDoor
/- A Rise as an argument. No condition. -/
namespace Go.Proofs.YtoabimaidpbkiaaDoor
set_option linter.unusedVariables false
set_option linter.unusedSimpArgs false
open Go Go.RowKit Go.ChangeShapes Go.WideShapes Go.Deep
theorem cut44 {cs : List Value} (h : cs.length = 44) : cs = (cs.drop 0).take 39 ++ ((cs.drop 39).take 2 ++ ((cs.drop 41).take 2 ++ (cs.drop 43).take 1)) := by
  have e1 := (List.take_append_drop 39 cs).symm
  have e2 := (List.take_append_drop 2 (cs.drop 39)).symm
  have e3 := (List.take_append_drop 2 (cs.drop 41)).symm
  rw [List.drop_drop] at e2 e3
  rw [List.drop_zero]
  conv => lhs; rw [e1, e2, show 39 + 2 = 41 from rfl, e3, show 41 + 2 = 43 from rfl]
  rw [List.take_of_length_le (l := cs.drop 43) (by rw [List.length_drop]; omega)]
theorem two_of {l : List UInt64} (h : l.length = 2) : ∃ a b, l = [a, b] := by
  match l, h with
  | [a, b], _ => exact ⟨a, b, rfl⟩
section
variable {H : Type} {enc : TypeId × Value → H} {w : World} {spare : Nat → Bool} {held : Bool}
set_option maxRecDepth 100000 in
theorem rise_cells {fuel : Nat} {cs : List Value} {x : DataW H × List MemPlace} (h : DataW.trod enc Tryd.prog w 0 spare held fuel 52 cs = some x) :
    ∃ ch dao bl ti ao n cap tw, ∃ fr : List (List UInt8), ∃ a0 a1 m0 m1 : UInt64, ∃ op : Int, bl.length = 14 ∧ ti.length = 2 ∧ tw.length = 20 ∧ cs = rise (cfg ch dao bl ti ao n cap tw) a0 a1 m0 m1 op ∧ RSl (whole w) 20 ao n cap (fr.flatMap u8s) ∧ fr.length = n ∧ ∀ a ∈ fr, a.length = 20 := by
  obtain ⟨hl, n, hx⟩ := struct_open' Tryd.underlying52 h
  have hl' : cs.length = 44 := hl.trans (by kernel_rfl)
  obtain ⟨y0, h0⟩ : ∃ y, DataW.trod enc Tryd.prog w 0 spare held n 42 ((cs.drop 0).take (Tryd.prog.cellsOf 42)) = some y := hx 0 _ rfl
  obtain ⟨y1, h1⟩ : ∃ y, DataW.trod enc Tryd.prog w 0 spare held n 39 ((cs.drop 39).take (Tryd.prog.cellsOf 39)) = some y := hx 1 _ rfl
  obtain ⟨y2, h2⟩ : ∃ y, DataW.trod enc Tryd.prog w 0 spare held n 39 ((cs.drop 41).take (Tryd.prog.cellsOf 39)) = some y := hx 2 _ rfl
  obtain ⟨y3, h3⟩ : ∃ y, DataW.trod enc Tryd.prog w 0 spare held n 3 ((cs.drop 43).take (Tryd.prog.cellsOf 3)) = some y := hx 3 _ rfl
  have c39 : Tryd.prog.cellsOf 42 = 39 := by kernel_rfl
  have c2 : Tryd.prog.cellsOf 39 = 2 := by kernel_rfl
  have c1 : Tryd.prog.cellsOf 22 = 1 := by kernel_rfl
  have ci : Tryd.prog.cellsOf 3 = 1 := by kernel_rfl
  obtain ⟨ch, dao, bl, ti, ao, k, cap, tw, fr, hb, ht, ho, e0, hr, hfl, h20⟩ := cfg_cells h0
  obtain ⟨al, ha, e1⟩ := words_open Tryd.underlying39 Tryd.underlying22 c2 c1 h1
  obtain ⟨ml, hm, e2⟩ := words_open Tryd.underlying39 Tryd.underlying22 c2 c1 h2
  obtain ⟨op, e3, _, _⟩ := DataW.trod_int Tryd.underlying3 h3
  obtain ⟨a0, a1, rfl⟩ := two_of ha
  obtain ⟨m0, m1, rfl⟩ := two_of hm
  rw [c39] at e0
  rw [c2] at e1 e2
  rw [ci] at e3
  refine ⟨ch, dao, bl, ti, ao, k, cap, tw, fr, a0, a1, m0, m1, op, hb, ht, ho, ?_, hr, hfl, h20⟩
  rw [cut44 hl', e0, e1, e2, e3]
  rfl
set_option maxRecDepth 100000 in
theorem open_rise {r : Reach} {b0 : Nat} {v : Value} {d : DataW H} {ps : List MemPlace} (hval : Value.okWide Tryd.prog w r b0 52 v) (hd : DataW.Trod enc Tryd.prog w 0 spare held 52 v d ps) :
    ∃ ch dao bl ti ao n cap tw, ∃ fr : List (List UInt8), ∃ a0 a1 m0 m1 : UInt64, ∃ op : Int, v = .agg (rise (cfg ch dao bl ti ao n cap tw) a0 a1 m0 m1 op).toArray ∧ bl.length = 14 ∧ ti.length = 2 ∧ tw.length = 20 ∧ RSl (whole w) 20 ao n cap (fr.flatMap u8s) ∧ fr.length = n ∧ ∀ a ∈ fr, a.length = 20 := by
  obtain ⟨cs, rfl, _⟩ := okWide_struct Tryd.underlying52 hval
  obtain ⟨fuel, hf⟩ := hd
  obtain ⟨ch, dao, bl, ti, ao, n, cap, tw, fr, a0, a1, m0, m1, op, hb, ht, ho, e, hr, hl, h20⟩ := rise_cells hf
  exact ⟨ch, dao, bl, ti, ao, n, cap, tw, fr, a0, a1, m0, m1, op, by rw [← Array.toArray_toList (xs := cs), show cs.toList = _ from e], hb, ht, ho, hr, hl, h20⟩
end
end Go.Proofs.YtoabimaidpbkiaaDoor
