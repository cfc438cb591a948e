/- A header as an argument. No condition. -/
import Derived.Test.YtbmlhdecnfplaaaK21
import Derived.Test.YtbmlhdecnfplaaaK15
import Derived.Deep.Strs
namespace Go.Proofs.Ytbmlhdecnfplaaa
set_option linter.unusedVariables false
set_option linter.unusedSimpArgs false
open Go Go.RowKit Go.ChangeShapes Go.WideShapes Go.Deep
theorem words_of_cells : ∀ cs : List Value, (∀ i, i < cs.length → ∃ a : UInt64, (cs.drop i).take 1 = [.int .u64 (a.toNat : Int)]) → ∃ l : List UInt64, l.length = cs.length ∧ cs = u64s l := by
  intro cs
  induction cs with
  | nil => intro _; exact ⟨[], rfl, rfl⟩
  | cons v t ih =>
    intro h
    obtain ⟨a, ha⟩ := h 0 (Nat.zero_lt_succ _)
    obtain ⟨l, hl, rfl⟩ := ih fun i hi => by
      have := h (i + 1) (Nat.succ_lt_succ hi)
      rw [List.drop_succ_cons] at this
      exact this
    refine ⟨a :: l, by rw [List.length_cons, List.length_cons, hl], ?_⟩
    simp only [List.drop_zero, List.take_succ_cons, List.take_zero, List.cons.injEq, and_true] at ha
    rw [ha]; rfl
theorem bytes_of_cells : ∀ cs : List Value, (∀ i, i < cs.length → ∃ a : UInt8, (cs.drop i).take 1 = [.int .u8 (a.toNat : Int)]) → ∃ l : List UInt8, l.length = cs.length ∧ cs = u8s l := by
  intro cs
  induction cs with
  | nil => intro _; exact ⟨[], rfl, rfl⟩
  | cons v t ih =>
    intro h
    obtain ⟨a, ha⟩ := h 0 (Nat.zero_lt_succ _)
    obtain ⟨l, hl, rfl⟩ := ih fun i hi => by
      have := h (i + 1) (Nat.succ_lt_succ hi)
      rw [List.drop_succ_cons] at this
      exact this
    refine ⟨a :: l, by rw [List.length_cons, List.length_cons, hl], ?_⟩
    simp only [List.drop_zero, List.take_succ_cons, List.take_zero, List.cons.injEq, and_true] at ha
    rw [ha]; rfl
section
variable {H : Type} {enc : TypeId × Value → H} {w : World} {spare : Nat → Bool} {held : Bool}
theorem struct_open' {P : Program} {t : TypeId} {fs : Array Field} {fuel : Nat} {cs : List Value} {x : DataW H × List MemPlace} (ht : P.underlying t = some (.struct fs)) (h : DataW.trod enc P w 0 spare held fuel t cs = some x) :
    cs.length = P.cellsOf t ∧ ∃ n, ∀ (i : Nat) (f : Field), fs[i]? = some f → ∃ y, DataW.trod enc P w 0 spare held n f.type ((cs.drop f.offset).take (P.cellsOf f.type)) = some y := by
  obtain ⟨xs, n, hf, _, hl, hlen, hx⟩ := DataW.trod_struct ht h
  refine ⟨hl, n, fun i f hi => ?_⟩
  have hlt : i < xs.length := by
    obtain ⟨h1, _⟩ := Array.getElem?_eq_some_iff.1 hi
    rw [hlen]; exact h1
  refine ⟨xs[i], ?_⟩
  rw [hx i f hi]
  exact List.getElem?_eq_getElem hlt
theorem open_u64c {P : Program} {t : TypeId} {fuel : Nat} {cs : List Value} {x : DataW H × List MemPlace} (ht : P.underlying t = some (.int .u64)) (h : DataW.trod enc P w 0 spare held fuel t cs = some x) : ∃ a : UInt64, cs = [.int .u64 (a.toNat : Int)] := by
  obtain ⟨q, hq, _, hw⟩ := DataW.trod_int ht h
  have hb : 0 ≤ q ∧ q ≤ 18446744073709551615 := by simpa [Lit.wf, IntKind.min, IntKind.max, IntKind.signed, IntKind.bits] using hw
  refine ⟨UInt64.ofNat q.toNat, hq.trans ?_⟩
  have h8 : (UInt64.ofNat q.toNat).toNat = q.toNat := by rw [UInt64.toNat_ofNat']; omega
  rw [h8]
  congr 2
  omega
theorem open_u8c {P : Program} {t : TypeId} {fuel : Nat} {cs : List Value} {x : DataW H × List MemPlace} (ht : P.underlying t = some (.int .u8)) (h : DataW.trod enc P w 0 spare held fuel t cs = some x) : ∃ a : UInt8, cs = [.int .u8 (a.toNat : Int)] := by
  obtain ⟨q, hq, _, hw⟩ := DataW.trod_int ht h
  have hb : 0 ≤ q ∧ q ≤ 255 := by simpa [Lit.wf, IntKind.min, IntKind.max, IntKind.signed, IntKind.bits] using hw
  refine ⟨UInt8.ofNat q.toNat, hq.trans ?_⟩
  have h8 : (UInt8.ofNat q.toNat).toNat = q.toNat := by rw [UInt8.toNat_ofNat']; omega
  rw [h8]
  congr 2
  omega
theorem words_open {P : Program} {t e : TypeId} {k fuel : Nat} {cs : List Value} {x : DataW H × List MemPlace} (ht : P.underlying t = some (.array k e)) (he : P.underlying e = some (.int .u64)) (hk : P.cellsOf t = k) (hc : P.cellsOf e = 1) (h : DataW.trod enc P w 0 spare held fuel t cs = some x) : ∃ l : List UInt64, l.length = k ∧ cs = u64s l := by
  obtain ⟨xs, m, _, _, hl, hlen, hx⟩ := DataW.trod_array ht h
  have hl' : cs.length = k := hl.trans hk
  obtain ⟨l, h1, h2⟩ := words_of_cells cs fun i hi => by
    have h := hx i (by omega)
    rw [List.getElem?_eq_getElem (by omega), hc, Nat.mul_one] at h
    exact open_u64c he h
  exact ⟨l, h1.trans hl', h2⟩
theorem bytes_open {P : Program} {t e : TypeId} {k fuel : Nat} {cs : List Value} {x : DataW H × List MemPlace} (ht : P.underlying t = some (.array k e)) (he : P.underlying e = some (.int .u8)) (hk : P.cellsOf t = k) (hc : P.cellsOf e = 1) (h : DataW.trod enc P w 0 spare held fuel t cs = some x) : ∃ l : List UInt8, l.length = k ∧ cs = u8s l := by
  obtain ⟨xs, m, _, _, hl, hlen, hx⟩ := DataW.trod_array ht h
  have hl' : cs.length = k := hl.trans hk
  obtain ⟨l, h1, h2⟩ := bytes_of_cells cs fun i hi => by
    have h := hx i (by omega)
    rw [List.getElem?_eq_getElem (by omega), hc, Nat.mul_one] at h
    exact open_u8c he h
  exact ⟨l, h1.trans hl', h2⟩
theorem word_open {P : Program} {t e : TypeId} {fuel : Nat} {cs : List Value} {x : DataW H × List MemPlace} (ht : P.underlying t = some (.array 4 e)) (he : P.underlying e = some (.int .u64)) (hk : P.cellsOf t = 4) (hc : P.cellsOf e = 1) (h : DataW.trod enc P w 0 spare held fuel t cs = some x) : ∃ z : Nat, z < WW ∧ cs = u64s (wl z) := by
  obtain ⟨l, hl, e⟩ := words_open ht he hk hc h
  exact ⟨v64 l, v64_lt4 hl, by rw [← wl_self hl]; exact e⟩
theorem u8s_app (a b : List UInt8) : u8s (a ++ b) = u8s a ++ u8s b := by simp [u8s]
set_option maxRecDepth 100000 in
theorem hdr_cells {fuel : Nat} {cs : List Value} {x : DataW H × List MemPlace} (h : DataW.trod enc Try.prog w 0 spare held fuel 33 cs = some x) :
    ∃ (hd : Hd) (ao : Option Addr) (n cap : Nat) (l : List UInt8), hd.Ok ∧ cs = hd.cells ao n cap ∧ RSl (whole w) 1 ao n cap (u8s l) := by
  obtain ⟨hl, n, hx⟩ := struct_open' Try.underlying33 h
  have hl' : cs.length = 556 := hl.trans (by kernel_rfl)
  have cI : Try.prog.cellsOf 3 = 1 := by kernel_rfl
  have cH : Try.prog.cellsOf 23 = 32 := by kernel_rfl
  have cA : Try.prog.cellsOf 25 = 20 := by kernel_rfl
  have cB : Try.prog.cellsOf 26 = 256 := by kernel_rfl
  have cW : Try.prog.cellsOf 29 = 4 := by kernel_rfl
  have cU : Try.prog.cellsOf 27 = 1 := by kernel_rfl
  have cS : Try.prog.cellsOf 30 = 1 := by kernel_rfl
  have cN : Try.prog.cellsOf 31 = 8 := by kernel_rfl
  have c8 : Try.prog.cellsOf 5 = 1 := by kernel_rfl
  obtain ⟨y0, h0⟩ : ∃ y, DataW.trod enc Try.prog w 0 spare held n 3 ((cs.drop 0).take (Try.prog.cellsOf 3)) = some y := hx 0 _ rfl
  obtain ⟨y1, h1⟩ : ∃ y, DataW.trod enc Try.prog w 0 spare held n 23 ((cs.drop 1).take (Try.prog.cellsOf 23)) = some y := hx 1 _ rfl
  obtain ⟨y2, h2⟩ : ∃ y, DataW.trod enc Try.prog w 0 spare held n 23 ((cs.drop 33).take (Try.prog.cellsOf 23)) = some y := hx 2 _ rfl
  obtain ⟨y3, h3⟩ : ∃ y, DataW.trod enc Try.prog w 0 spare held n 25 ((cs.drop 65).take (Try.prog.cellsOf 25)) = some y := hx 3 _ rfl
  obtain ⟨y4, h4⟩ : ∃ y, DataW.trod enc Try.prog w 0 spare held n 23 ((cs.drop 85).take (Try.prog.cellsOf 23)) = some y := hx 4 _ rfl
  obtain ⟨y5, h5⟩ : ∃ y, DataW.trod enc Try.prog w 0 spare held n 23 ((cs.drop 117).take (Try.prog.cellsOf 23)) = some y := hx 5 _ rfl
  obtain ⟨y6, h6⟩ : ∃ y, DataW.trod enc Try.prog w 0 spare held n 23 ((cs.drop 149).take (Try.prog.cellsOf 23)) = some y := hx 6 _ rfl
  obtain ⟨y7, h7⟩ : ∃ y, DataW.trod enc Try.prog w 0 spare held n 26 ((cs.drop 181).take (Try.prog.cellsOf 26)) = some y := hx 7 _ rfl
  obtain ⟨y8, h8⟩ : ∃ y, DataW.trod enc Try.prog w 0 spare held n 29 ((cs.drop 437).take (Try.prog.cellsOf 29)) = some y := hx 8 _ rfl
  obtain ⟨y9, h9⟩ : ∃ y, DataW.trod enc Try.prog w 0 spare held n 27 ((cs.drop 441).take (Try.prog.cellsOf 27)) = some y := hx 9 _ rfl
  obtain ⟨y10, h10⟩ : ∃ y, DataW.trod enc Try.prog w 0 spare held n 27 ((cs.drop 442).take (Try.prog.cellsOf 27)) = some y := hx 10 _ rfl
  obtain ⟨y11, h11⟩ : ∃ y, DataW.trod enc Try.prog w 0 spare held n 27 ((cs.drop 443).take (Try.prog.cellsOf 27)) = some y := hx 11 _ rfl
  obtain ⟨y12, h12⟩ : ∃ y, DataW.trod enc Try.prog w 0 spare held n 27 ((cs.drop 444).take (Try.prog.cellsOf 27)) = some y := hx 12 _ rfl
  obtain ⟨y13, h13⟩ : ∃ y, DataW.trod enc Try.prog w 0 spare held n 30 ((cs.drop 445).take (Try.prog.cellsOf 30)) = some y := hx 13 _ rfl
  obtain ⟨y14, h14⟩ : ∃ y, DataW.trod enc Try.prog w 0 spare held n 23 ((cs.drop 446).take (Try.prog.cellsOf 23)) = some y := hx 14 _ rfl
  obtain ⟨y15, h15⟩ : ∃ y, DataW.trod enc Try.prog w 0 spare held n 31 ((cs.drop 478).take (Try.prog.cellsOf 31)) = some y := hx 15 _ rfl
  obtain ⟨y16, h16⟩ : ∃ y, DataW.trod enc Try.prog w 0 spare held n 29 ((cs.drop 486).take (Try.prog.cellsOf 29)) = some y := hx 16 _ rfl
  obtain ⟨y17, h17⟩ : ∃ y, DataW.trod enc Try.prog w 0 spare held n 23 ((cs.drop 490).take (Try.prog.cellsOf 23)) = some y := hx 17 _ rfl
  obtain ⟨y18, h18⟩ : ∃ y, DataW.trod enc Try.prog w 0 spare held n 27 ((cs.drop 522).take (Try.prog.cellsOf 27)) = some y := hx 18 _ rfl
  obtain ⟨y19, h19⟩ : ∃ y, DataW.trod enc Try.prog w 0 spare held n 27 ((cs.drop 523).take (Try.prog.cellsOf 27)) = some y := hx 19 _ rfl
  obtain ⟨y20, h20⟩ : ∃ y, DataW.trod enc Try.prog w 0 spare held n 23 ((cs.drop 524).take (Try.prog.cellsOf 23)) = some y := hx 20 _ rfl
  rw [cI] at h0
  rw [cH] at h1 h2 h4 h5 h6 h14 h17 h20
  rw [cA] at h3
  rw [cB] at h7
  rw [cW] at h8 h16
  rw [cU] at h9 h10 h11 h12 h18 h19
  rw [cS] at h13
  rw [cN] at h15
  obtain ⟨fi, e0, _, _⟩ := DataW.trod_int Try.underlying3 h0
  obtain ⟨pa, l1, e1⟩ := bytes_open Try.underlying23 Try.underlying5 cH c8 h1
  obtain ⟨om, l2, e2⟩ := bytes_open Try.underlying23 Try.underlying5 cH c8 h2
  obtain ⟨x3, l3, e3⟩ := bytes_open Try.underlying25 Try.underlying5 cA c8 h3
  obtain ⟨x4, l4, e4⟩ := bytes_open Try.underlying23 Try.underlying5 cH c8 h4
  obtain ⟨x5, l5, e5⟩ := bytes_open Try.underlying23 Try.underlying5 cH c8 h5
  obtain ⟨x6, l6, e6⟩ := bytes_open Try.underlying23 Try.underlying5 cH c8 h6
  obtain ⟨x7, l7, e7⟩ := bytes_open Try.underlying26 Try.underlying5 cB c8 h7
  obtain ⟨df, l8, e8⟩ := word_open Try.underlying29 Try.underlying27 cW cU h8
  obtain ⟨nu, e9⟩ := open_u64c Try.underlying27 h9
  obtain ⟨gl, e10⟩ := open_u64c Try.underlying27 h10
  obtain ⟨gu, e11⟩ := open_u64c Try.underlying27 h11
  obtain ⟨ti, e12⟩ := open_u64c Try.underlying27 h12
  obtain ⟨ao, m, cap, l, e13, hr⟩ := open_u8 Try.underlying30 Try.underlying5 c8 h13
  obtain ⟨x14, l14, e14⟩ := bytes_open Try.underlying23 Try.underlying5 cH c8 h14
  obtain ⟨x15, l15, e15⟩ := bytes_open Try.underlying31 Try.underlying5 cN c8 h15
  obtain ⟨bf, l16, e16⟩ := word_open Try.underlying29 Try.underlying27 cW cU h16
  obtain ⟨x17, l17, e17⟩ := bytes_open Try.underlying23 Try.underlying5 cH c8 h17
  obtain ⟨bg, e18⟩ := open_u64c Try.underlying27 h18
  obtain ⟨ex, e19⟩ := open_u64c Try.underlying27 h19
  obtain ⟨x20, l20, e20⟩ := bytes_open Try.underlying23 Try.underlying5 cH c8 h20
  refine ⟨⟨fi, pa, om, x3 ++ (x4 ++ (x5 ++ (x6 ++ x7))), df, nu, gl, gu, ti, x14 ++ x15, bf, x17, bg, ex, x20⟩, ao, m, cap, l, ⟨l1, l2, by simp [l3, l4, l5, l6, l7], l8, by simp [l14, l15], l16, l17, l20⟩, ?_, hr⟩
  have st : ∀ a k, cs.drop a = (cs.drop a).take k ++ cs.drop (a + k) := fun a k => by rw [← List.drop_drop, List.take_append_drop]
  have ee : cs.drop 524 = (cs.drop 524).take 32 := by rw [List.take_of_length_le (by rw [List.length_drop]; omega)]
  have e : cs = cs.drop 0 := List.drop_zero.symm
  rw [e, st 0 1, st 1 32, st 33 32, st 65 20, st 85 32, st 117 32, st 149 32, st 181 256, st 437 4, st 441 1, st 442 1, st 443 1, st 444 1, st 445 1, st 446 32, st 478 8, st 486 4, st 490 32, st 522 1, st 523 1, ee,
    e0, e1, e2, e3, e4, e5, e6, e7, e8, e9, e10, e11, e12, e13, e14, e15, e16, e17, e18, e19, e20]
  simp only [Hd.cells, u8s_app, List.append_assoc, List.cons_append, List.nil_append]
set_option maxRecDepth 100000 in
theorem open_hdr {r : Reach} {b0 : Nat} {v : Value} {d : DataW H} {ps : List MemPlace} (hval : Value.okWide Try.prog w r b0 33 v) (hd : DataW.Trod enc Try.prog w 0 spare held 33 v d ps) :
    ∃ (h : Hd) (ao : Option Addr) (n cap : Nat) (l : List UInt8), v = .agg (h.cells ao n cap).toArray ∧ h.Ok ∧ RSl (whole w) 1 ao n cap (u8s l) := by
  obtain ⟨cs, rfl, _⟩ := okWide_struct Try.underlying33 hval
  obtain ⟨fuel, hf⟩ := hd
  obtain ⟨h, ao, n, cap, l, k, e, hr⟩ := hdr_cells hf
  exact ⟨h, ao, n, cap, l, by rw [← Array.toArray_toList (xs := cs), show cs.toList = _ from e], k, hr⟩
end
end Go.Proofs.Ytbmlhdecnfplaaa
