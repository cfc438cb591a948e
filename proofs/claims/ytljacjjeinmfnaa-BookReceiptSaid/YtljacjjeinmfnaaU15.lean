/- Several texts in one: see the remarks ahead of each part. No condition but those told there. -/
import Derived.Test.YtljacjjeinmfnaaU4
import Derived.WalkKit
import Derived.ProofKit
import Derived.OpenShut
import Derived.Below
import Derived.ChangeSame
import Derived.WideKeyArgs
import Derived.Deep.Slices
import Derived.Test.YtljacjjeinmfnaaU5
import Derived.Deep.Strs
import Derived.Test.YtljacjjeinmfnaaU13
import Derived.Test.YtljacjjeinmfnaaUBL5
/- From what an argument reads as to the engine's facts; what is read again behind the call. No condition. -/
namespace Go.Proofs.Ytljacjjeinmfnaa
set_option linter.unusedVariables false
set_option linter.unusedSimpArgs false
open Go Go.RowKit Go.ChangeShapes Go.WideShapes Go.Deep
theorem add_off (a : Addr) (n : Nat) : (a.add n).off = a.off + n := by unfold Addr.add; split <;> simp_all
theorem add_block (a : Addr) (n : Nat) : (a.add n).block = a.block := by unfold Addr.add; split <;> rfl
theorem cellOf_whole {w : World} {a : Addr} {v : Value} (h : w.cell? a = some v) : a.spot = none ∧ cellOf (whole w) a.block a.off = some v := by
  unfold World.cell? at h
  unfold cellOf whole
  split at h
  · rename_i c t fr e
    split at h
    · cases h
    · rename_i hs
      rw [e]
      exact ⟨by simpa using hs, h⟩
  · cases h
theorem rng_whole {w : World} {a : Addr} {base n size : Nat} {C : Nat → List Value} (h : ∀ i, i < n → w.cells? base (a.add (i * size)) size = some (C i)) :
    Rng (whole w) a.block a.off ((List.range n).flatMap C) ∧ ((List.range n).flatMap C).length = n * size := by
  induction n with
  | zero => exact ⟨fun i hi => by simp at hi, by simp⟩
  | succ n ih =>
    obtain ⟨h1, h2⟩ := ih fun i hi => h i (by omega)
    obtain ⟨_, hl, hc⟩ := World.cells?_some (h n (by omega))
    have e : (List.range (n + 1)).flatMap C = (List.range n).flatMap C ++ C n := by simp [List.range_succ]
    rw [e]
    refine ⟨fun i hi => ?_, by rw [List.length_append, h2, hl, Nat.succ_mul]⟩
    by_cases hlt : i < ((List.range n).flatMap C).length
    · rw [List.getElem_append_left hlt]; exact h1 i hlt
    · rw [List.length_append] at hi
      rw [List.getElem_append_right (by omega)]
      have hk := hc (i - n * size) (by omega)
      rw [List.getElem?_eq_getElem (by omega)] at hk
      have h3 := (cellOf_whole hk).2
      have e2 : ((a.add (n * size)).add (i - n * size)).off = a.off + i := by rw [add_off, add_off]; omega
      rw [e2, add_block, add_block] at h3
      have e3 : i - ((List.range n).flatMap C).length = i - n * size := by rw [h2]
      simp only [e3]
      exact h3
section
variable {H : Type} {enc : TypeId × Value → H} {P : Program} {w : World} {spare : Nat → Bool} {held : Bool}
theorem open_rsl {t e : TypeId} {fuel : Nat} {cs : List Value} {x : DataW H × List MemPlace} (ht : P.underlying t = some (.slice e)) (hpos : 0 < P.cellsOf e) (h : DataW.trod enc P w 0 spare held fuel t cs = some x) :
    ∃ ao n cap C m, cs = [.slice ao n cap] ∧ RSl (whole w) (P.cellsOf e) ao n cap ((List.range n).flatMap C) ∧ (n = 0 ∨ fuel = m + 1) ∧
      ∀ i, i < n → (C i).length = P.cellsOf e ∧ ∃ y, DataW.trod enc P w 0 spare held m e (C i) = some y := by
  rcases DataW.trod_slice ht h with ⟨rfl, _⟩ | ⟨a, len, cap, elems, rest, n, hf, rfl, rfl, hb, hl, hm, hlen, hel, hsp, hns⟩
  · exact ⟨none, 0, 0, fun _ => [], 0, rfl, ⟨by simp, by omega, by simp [maxLen], fun h => by omega⟩, Or.inl rfl, fun i hi => by omega⟩
  · obtain ⟨C, hC⟩ := choose_lt (α := List Value) (p := fun i c => w.cells? 0 (a.add (i * P.cellsOf e)) (P.cellsOf e) = some c ∧ ∃ y, DataW.trod enc P w 0 spare held n e c = some y) (n := len) (fun i hi => by
      have := hel i hi
      rw [List.getElem?_eq_getElem (by omega)] at this
      obtain ⟨c, h1, h2⟩ := Option.bind_eq_some_iff.1 this
      exact ⟨c, h1, _, h2⟩)
    obtain ⟨h1, h2⟩ := rng_whole (fun i hi => (hC i hi).1)
    refine ⟨some a, len, cap, C, n, rfl, ⟨h2, hl, hm, fun h0 => ?_⟩, Or.inr hf, fun i hi => ⟨(World.cells?_some (hC i hi).1).2.1, (hC i hi).2⟩⟩
    obtain ⟨_, hl0, hc0⟩ := World.cells?_some (hC 0 h0).1
    have hk := hc0 0 hpos
    rw [List.getElem?_eq_getElem (by omega)] at hk
    have hs := (cellOf_whole hk).1
    have hs' : a.spot = none := by simpa [Addr.add] using hs
    refine ⟨a.block, a.off, ?_, h1⟩
    cases a; simp at hs'; subst hs'; rfl
/-- The bytes that a list of cells holds. -/
def u8of : Value → UInt8
  | .int _ q => UInt8.ofNat q.toNat
  | _ => 0
theorem open_u8 {t e : TypeId} {fuel : Nat} {cs : List Value} {x : DataW H × List MemPlace} (ht : P.underlying t = some (.slice e)) (he : P.underlying e = some (.int .u8)) (hc : P.cellsOf e = 1) (h : DataW.trod enc P w 0 spare held fuel t cs = some x) :
    ∃ ao n cap bs, cs = [.slice ao n cap] ∧ RSl (whole w) 1 ao n cap (u8s bs) := by
  obtain ⟨ao, n, cap, C, m, rfl, hr, _, hC⟩ := open_rsl ht (by omega) h
  refine ⟨ao, n, cap, ((List.range n).flatMap C).map u8of, rfl, ?_⟩
  have e : u8s (((List.range n).flatMap C).map u8of) = (List.range n).flatMap C := by
    unfold u8s
    rw [List.map_map]
    refine (List.map_congr_left (g := id) fun v hv => ?_).trans (List.map_id _)
    obtain ⟨i, hi, hv⟩ := List.mem_flatMap.1 hv
    obtain ⟨hl, y, hy⟩ := hC i (List.mem_range.1 hi)
    obtain ⟨q, hq, _, hw⟩ := DataW.trod_int he hy
    rw [hq] at hv
    obtain rfl := List.mem_singleton.1 hv
    have hb : 0 ≤ q ∧ q ≤ 255 := by simpa [Lit.wf, IntKind.min, IntKind.max, IntKind.signed, IntKind.bits] using hw
    simp only [Function.comp, u8of, vb, id]
    have h8 : (UInt8.ofNat q.toNat).toNat = q.toNat := by rw [UInt8.toNat_ofNat']; omega
    rw [h8]
    congr 1
    omega
  rw [e, ← hc]
  exact hr
theorem stays_all {W W' : World} {sp : Nat → Bool} (hl : laidOutB P = true) : ∀ {ts : List TypeId} {vs : List Value} {ds : List (DataW H)} {ps : List MemPlace}, (∀ t ∈ ts, P.readableRec t = true ∧ t < P.types.size) →
    DataW.TrodAll enc P W 0 (fun _ => true) true ts vs ds ps → (∀ p ∈ ps, W.sameAt W' p) → (∀ p ∈ ps, sp p.block = true) → DataW.TrodAll enc P W' 0 sp true ts vs ds ps
  | [], [], [], _, _, h, _, _ => h
  | t :: _, _ :: _, _ :: _, _, hr, ⟨p, q, h1, h2, e⟩, hs, hb => ⟨p, q,
    Go.WideElems.Trod_stays hl (hr t (by simp)).1 (hr t (by simp)).2 h1 (fun x hx => hs x (by rw [e]; simp [hx])) (fun x hx => hb x (by rw [e]; simp [hx])),
    stays_all hl (fun t ht => hr t (by simp [ht])) h2 (fun x hx => hs x (by rw [e]; simp [hx])) (fun x hx => hb x (by rw [e]; simp [hx])), e⟩
theorem sameAt_below {W W' : World} (h : Below W.heap.size W W') {p : MemPlace} (hp : p.block < W.heap.size) : W.sameAt W' p := by
  cases p with
  | cell b off =>
    show W'.cell? ⟨b, off, none⟩ = W.cell? ⟨b, off, none⟩
    have e : W'.heap[b]? = W.heap[b]? := h.block b hp
    unfold World.cell?
    simp only [e]
  | map b => exact h.block b hp
/-- A law's last step: it answered v, and all that was there is there as it was. -/
theorem law_post {f : Func} {s : ChangeSpec} {W W' : World} {args : Array Value} {v : Value} {r : DataW H} {ds gs : List (DataW H)} {before : List MemPlace} {tr : TypeId}
    (hW : DataW.Whole enc P f.params.toList s.vars false W args.toList ds gs before) (hv : s.vars = [])
    (hs : s.fn H (ds ++ gs) = { results := [r], args := ds }) (hone' : v.resultList 1 = [v]) (hres : f.resultTypes = #[tr])
    (hr : ∀ (b : Nat) (sp : Nat → Bool) (hd : Bool), DataW.Trod enc P W' b sp hd tr v r []) (hok : Value.okWide P W' .any 0 tr v)
    (hl : laidOutB P = true) (ht : ∀ t ∈ f.params.toList, P.readableRec t = true ∧ t < P.types.size) (hb : Below W.heap.size W W') :
    s.post enc P f false true false false W args v W' := by
  have hlt : ∀ p ∈ before, p.block < W.heap.size := fun p hp => hW.lt p hp
  have hW' := hW
  obtain ⟨p, q, hA, hV, rfl, hfz, hnd⟩ := hW
  rw [hv] at hV
  obtain ⟨rfl, rfl⟩ := trodVars_none hV
  simp only [List.append_nil] at hs hlt hW' hfz
  have again : ∀ sp : Nat → Bool, (∀ x ∈ p, sp x.block = true) → DataW.TrodAll enc P W' 0 sp true f.params.toList args.toList ds p := fun sp hsp =>
    stays_all hl ht hA (fun x hx => sameAt_below hb (hlt x hx)) hsp
  have hrl : v.resultList f.resultTypes.size = [v] := by rw [hres]; exact hone'
  have hone : ∀ (b : Nat) (sp : Nat → Bool) (hd : Bool), DataW.TrodAll enc P W' b sp hd f.resultTypes.toList (v.resultList f.resultTypes.size) [r] [] := fun b sp hd => by
    rw [hrl, hres]; exact ⟨[], [], hr b sp hd, rfl, rfl⟩
  have hold : ∀ x ∈ p, (fun b => decide (b < W.heap.size)) x.block = true := fun x hx => by simpa using hlt x hx
  have hvs : ∀ sp : Nat → Bool, DataW.TrodVars enc P W' sp s.vars [] [] := fun sp => by rw [hv]; rfl
  refine ⟨ds, [], p, [], p, [], by simpa using hW', by simp only [List.append_nil]; rw [hs]; exact hone _ _ _, by simp only [List.append_nil]; rw [hs]; exact again _ hold, by simp only [List.append_nil]; rw [hs]; exact hvs _,
    World.keptBut_mono (fun x hx => ⟨hx, Or.inr (Or.inl hx)⟩) (hb.frame (· ∈ p)), fun _ => ?_⟩
  refine ⟨?_, _, _, ([] ++ p) ++ [], ⟨[] ++ p, [], trodAll_append (again _ (fun _ _ => rfl)) (hone _ _ _), hvs _, rfl, ?_, ?_⟩, ?_⟩
  · intro j t r hj hr
    rw [hrl] at hr
    rw [hres] at hj
    cases j with
    | zero => simp at hj hr; subst hj; subst hr; exact hok
    | succ j => simp at hr
  · intro b off hp
    have hin : MemPlace.cell b off ∈ p := by simpa using hp
    rw [hb.frozen (hlt _ hin)]
    exact hfz b off hin
  · intro ha
    cases ha
  · intro x hx _
    simpa using hx
end
end Go.Proofs.Ytljacjjeinmfnaa
/- An address as an argument: an array of bytes. No condition. -/
namespace Go.Proofs.Ytljacjjeinmfnaa
set_option linter.unusedVariables false
set_option linter.unusedSimpArgs false
open Go Go.RowKit Go.ChangeShapes Go.WideShapes Go.Deep
theorem bytes_of_cells : ∀ cs : List Value, (∀ i, i < cs.length → ∃ a : UInt8, (cs.drop i).take 1 = [.int .u8 (a.toNat : Int)]) → ∃ l : List UInt8, l.length = cs.length ∧ cs = u8s l := by
  intro cs
  induction cs with
  | nil => intro _; exact ⟨[], rfl, rfl⟩
  | cons v t ih =>
    intro h
    obtain ⟨a, ha⟩ := h 0 (Nat.zero_lt_succ _)
    obtain ⟨l, hl, rfl⟩ := ih fun i hi => by
      have := h (i + 1) (Nat.succ_lt_succ hi)
      rw [List.drop_succ_cons] at this
      exact this
    refine ⟨a :: l, by rw [List.length_cons, List.length_cons, hl], ?_⟩
    simp only [List.drop_zero, List.take_succ_cons, List.take_zero, List.cons.injEq, and_true] at ha
    rw [ha]; rfl
section
variable {H : Type} {enc : TypeId × Value → H} {w : World} {spare : Nat → Bool} {held : Bool}
set_option maxRecDepth 100000 in
theorem addr_cells {fuel : Nat} {cs : List Value} {x : DataW H × List MemPlace} (h : DataW.trod enc Try.prog w 0 spare held fuel 23 cs = some x) : ∃ l : List UInt8, l.length = 20 ∧ cs = u8s l := by
  obtain ⟨xs, m, _, _, hl, hlen, hx⟩ := DataW.trod_array Try.underlying23 h
  have hl' : cs.length = 20 := hl.trans (by kernel_rfl)
  obtain ⟨l, h1, h2⟩ := bytes_of_cells cs fun i hi => by
    have h := hx i (by omega)
    rw [List.getElem?_eq_getElem (by omega), show Try.prog.cellsOf 5 = 1 from by kernel_rfl, Nat.mul_one] at h
    obtain ⟨q, hq, _, hw⟩ := DataW.trod_int Try.underlying5 h
    have hb : 0 ≤ q ∧ q ≤ 255 := by simpa [Lit.wf, IntKind.min, IntKind.max, IntKind.signed, IntKind.bits] using hw
    refine ⟨UInt8.ofNat q.toNat, hq.trans ?_⟩
    have h8 : (UInt8.ofNat q.toNat).toNat = q.toNat := by rw [UInt8.toNat_ofNat']; omega
    rw [h8]
    congr 2
    omega
  exact ⟨l, h1.trans hl', h2⟩
end
end Go.Proofs.Ytljacjjeinmfnaa
/- Structs as arguments: their fields; a maker of contracts. No condition. -/
namespace Go.Proofs.Ytljacjjeinmfnaa
set_option linter.unusedVariables false
set_option linter.unusedSimpArgs false
open Go Go.RowKit Go.ChangeShapes Go.WideShapes Go.Deep
theorem okWide_structB {P : Program} {w : World} {r : Reach} {base : Nat} {t : TypeId} {v : Value} {fs : Array Field} (ht : P.underlying t = some (.struct fs)) (h : Value.okWide P w r base t v) : ∃ cs : Array Value, v = .agg cs := by
  unfold Value.okWide at h
  rw [ht] at h
  obtain ⟨cs, rfl, hs, _⟩ := h
  exact ⟨cs, rfl⟩
section
variable {H : Type} {enc : TypeId × Value → H} {w : World} {spare : Nat → Bool} {held : Bool}
theorem struct_open' {P : Program} {t : TypeId} {fs : Array Field} {fuel : Nat} {cs : List Value} {x : DataW H × List MemPlace} (ht : P.underlying t = some (.struct fs)) (h : DataW.trod enc P w 0 spare held fuel t cs = some x) :
    cs.length = P.cellsOf t ∧ ∃ n, ∀ (i : Nat) (f : Field), fs[i]? = some f → ∃ y, DataW.trod enc P w 0 spare held n f.type ((cs.drop f.offset).take (P.cellsOf f.type)) = some y := by
  obtain ⟨xs, n, hf, _, hl, hlen, hx⟩ := DataW.trod_struct ht h
  refine ⟨hl, n, fun i f hi => ?_⟩
  have hlt : i < xs.length := by
    obtain ⟨h1, _⟩ := Array.getElem?_eq_some_iff.1 hi
    rw [hlen]; exact h1
  refine ⟨xs[i], ?_⟩
  rw [hx i f hi]
  exact List.getElem?_eq_getElem hlt
theorem open_u64c {P : Program} {t : TypeId} {fuel : Nat} {cs : List Value} {x : DataW H × List MemPlace} (ht : P.underlying t = some (.int .u64)) (h : DataW.trod enc P w 0 spare held fuel t cs = some x) : ∃ a : UInt64, cs = [.int .u64 (a.toNat : Int)] := by
  obtain ⟨q, hq, _, hw⟩ := DataW.trod_int ht h
  have hb : 0 ≤ q ∧ q ≤ 18446744073709551615 := by simpa [Lit.wf, IntKind.min, IntKind.max, IntKind.signed, IntKind.bits] using hw
  refine ⟨UInt64.ofNat q.toNat, hq.trans ?_⟩
  have h8 : (UInt64.ofNat q.toNat).toNat = q.toNat := by rw [UInt64.toNat_ofNat']; omega
  rw [h8]
  congr 2
  omega
theorem open_u8c {P : Program} {t : TypeId} {fuel : Nat} {cs : List Value} {x : DataW H × List MemPlace} (ht : P.underlying t = some (.int .u8)) (h : DataW.trod enc P w 0 spare held fuel t cs = some x) : ∃ a : UInt8, cs = [.int .u8 (a.toNat : Int)] := by
  obtain ⟨q, hq, _, hw⟩ := DataW.trod_int ht h
  have hb : 0 ≤ q ∧ q ≤ 255 := by simpa [Lit.wf, IntKind.min, IntKind.max, IntKind.signed, IntKind.bits] using hw
  refine ⟨UInt8.ofNat q.toNat, hq.trans ?_⟩
  have h8 : (UInt8.ofNat q.toNat).toNat = q.toNat := by rw [UInt8.toNat_ofNat']; omega
  rw [h8]
  congr 2
  omega
/-- Arrays of bytes; a word. -/
theorem bytes_cells {t e : TypeId} {k fuel : Nat} {cs : List Value} {x : DataW H × List MemPlace} (ht : Try.prog.underlying t = some (.array k e)) (he : Try.prog.underlying e = some (.int .u8)) (hc : Try.prog.cellsOf e = 1) (hk : Try.prog.cellsOf t = k) (h : DataW.trod enc Try.prog w 0 spare held fuel t cs = some x) : ∃ l : List UInt8, l.length = k ∧ cs = u8s l := by
  obtain ⟨xs, m, _, _, hl, hlen, hx⟩ := DataW.trod_array ht h
  have hl' : cs.length = k := hl.trans hk
  obtain ⟨l, h1, h2⟩ := bytes_of_cells cs fun i hi => by
    have h := hx i (by omega)
    rw [List.getElem?_eq_getElem (by omega), hc, Nat.mul_one] at h
    exact open_u8c he h
  exact ⟨l, h1.trans hl', h2⟩
end
end Go.Proofs.Ytljacjjeinmfnaa
/- Logs as an argument. No condition. -/
namespace Go.Proofs.Ytljacjjeinmfnaa
set_option linter.unusedVariables false
set_option linter.unusedSimpArgs false
open Go Go.RowKit Go.ChangeShapes Go.WideShapes Go.Deep
set_option maxRecDepth 100000
section
variable {H : Type} {enc : TypeId × Value → H} {w : World} {spare : Nat → Bool} {held : Bool}
theorem hashes_open {n : Nat} {C : Nat → List Value} (h : ∀ i, i < n → ∃ l : List UInt8, l.length = 32 ∧ C i = u8s l) :
    ∃ hs : List (List UInt8), hs.length = n ∧ (List.range n).flatMap C = hashC hs ∧ ∀ x ∈ hs, x.length = 32 := by
  induction n with
  | zero => exact ⟨[], rfl, rfl, fun x hx => by cases hx⟩
  | succ n ih =>
    obtain ⟨hs, h1, h2, h3⟩ := ih fun i hi => h i (by omega)
    obtain ⟨l, hl, e⟩ := h n (by omega)
    refine ⟨hs ++ [l], by simp [h1], ?_, fun x hx => ?_⟩
    · simp only [List.range_succ, List.flatMap_append, List.flatMap_cons, List.flatMap_nil, List.append_nil, h2, e, hashC]
    · rcases List.mem_append.1 hx with hx | hx
      · exact h3 x hx
      · rw [List.mem_singleton.1 hx]; exact hl
theorem hash_slice {fuel : Nat} {cs : List Value} {x : DataW H × List MemPlace} (h : DataW.trod enc Try.prog w 0 spare held fuel 41 cs = some x) :
    ∃ ao n cap hs, cs = [.slice ao n cap] ∧ n = hs.length ∧ RSl (whole w) 32 ao n cap (hashC hs) ∧ ∀ y ∈ hs, y.length = 32 := by
  have hc : Try.prog.cellsOf 73 = 32 := by kernel_rfl
  obtain ⟨ao, n, cap, C, m, e, hr, _, hC⟩ := open_rsl Try.underlying41 (by rw [hc]; decide) h
  rw [hc] at hr
  obtain ⟨hs, h1, h2, h3⟩ := hashes_open (n := n) (C := C) fun i hi => by
    obtain ⟨_, y, hy⟩ := hC i hi
    exact bytes_cells Try.underlying73 Try.underlying5 (by kernel_rfl) hc hy
  rw [h2] at hr
  exact ⟨ao, n, cap, hs, e, h1.symm, hr, h3⟩
theorem log_cells {fuel : Nat} {cs : List Value} {x : DataW H × List MemPlace} (h : DataW.trod enc Try.prog w 0 spare held fuel 43 cs = some x) : ∃ g y, cs = LV.cells y ∧ LogN (whole w) g y := by
  obtain ⟨hl, k, hx⟩ := struct_open' Try.underlying43 h
  have hl' : cs.length = 22 := hl.trans (by kernel_rfl)
  obtain ⟨y0, h0⟩ : ∃ y, DataW.trod enc Try.prog w 0 spare held k 23 ((cs.drop 0).take (Try.prog.cellsOf 23)) = some y := hx 0 _ rfl
  obtain ⟨y1, h1⟩ : ∃ y, DataW.trod enc Try.prog w 0 spare held k 41 ((cs.drop 20).take (Try.prog.cellsOf 41)) = some y := hx 1 _ rfl
  obtain ⟨y2, h2⟩ : ∃ y, DataW.trod enc Try.prog w 0 spare held k 27 ((cs.drop 21).take (Try.prog.cellsOf 27)) = some y := hx 2 _ rfl
  rw [show Try.prog.cellsOf 23 = 20 by kernel_rfl] at h0
  rw [show Try.prog.cellsOf 41 = 1 by kernel_rfl] at h1
  rw [show Try.prog.cellsOf 27 = 1 by kernel_rfl] at h2
  obtain ⟨a, ha, ea⟩ := addr_cells h0
  obtain ⟨ta, tn, tc, hs, et, htn, rt, h32⟩ := hash_slice h1
  obtain ⟨da, dn, dc, l, ed, rd⟩ := open_u8 Try.underlying27 Try.underlying5 (by kernel_rfl) h2
  refine ⟨⟨a, hs, l⟩, ⟨a, ta, tn, tc, da, dn, dc⟩, ?_, rfl, ha, htn, rt, h32, rd⟩
  have e : cs = (cs.drop 0).take 20 ++ ((cs.drop 20).take 1 ++ (cs.drop 21).take 1) := by
    rw [List.take_of_length_le (show (cs.drop 21).length ≤ 1 by rw [List.length_drop]; omega)]
    rw [show cs.drop 21 = (cs.drop 20).drop 1 by rw [List.drop_drop], List.take_append_drop, List.drop_zero, List.take_append_drop]
  rw [ea, et, ed] at e
  exact e
theorem logs_open {n : Nat} {C : Nat → List Value} (h : ∀ i, i < n → ∃ g y, C i = LV.cells y ∧ LogN (whole w) g y) :
    ∃ gs xs, (List.range n).flatMap C = logsC xs ∧ LogsN (whole w) gs xs := by
  induction n with
  | zero => exact ⟨[], [], rfl, LogsN.nil⟩
  | succ n ih =>
    obtain ⟨gs, xs, e, hi⟩ := ih fun i hi => h i (by omega)
    obtain ⟨g, y, e2, hx⟩ := h n (by omega)
    refine ⟨gs ++ [g], xs ++ [y], ?_, hi.snoc hx⟩
    simp only [List.range_succ, List.flatMap_append, List.flatMap_cons, List.flatMap_nil, List.append_nil, e, e2, logsC]
theorem logs_cells {fuel : Nat} {cs : List Value} {x : DataW H × List MemPlace} (h : DataW.trod enc Try.prog w 0 spare held fuel 35 cs = some x) :
    ∃ ao n cap gs xs, cs = [.slice ao n cap] ∧ RSl (whole w) 22 ao n cap (logsC xs) ∧ LogsN (whole w) gs xs := by
  have hc : Try.prog.cellsOf 43 = 22 := by kernel_rfl
  obtain ⟨ao, n, cap, C, m, e, hr, _, hC⟩ := open_rsl Try.underlying35 (by rw [hc]; decide) h
  rw [hc] at hr
  obtain ⟨gs, xs, h1, h2⟩ := logs_open (w := w) (n := n) (C := C) fun i hi => by
    obtain ⟨_, y, hy⟩ := hC i hi
    exact log_cells hy
  rw [h1] at hr
  exact ⟨ao, n, cap, gs, xs, e, hr, h2⟩
end
end Go.Proofs.Ytljacjjeinmfnaa
