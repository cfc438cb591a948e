/- Small laws on slices that are read or owned, for whatever program. No condition. -/
import Derived.Test.YtdplcfineaikjaaDoorDraw2
import Derived.OwnWalk
import Derived.Laws.BytesString
namespace Go.Proofs.YtdplcfineaikjaaDoor
set_option linter.unusedVariables false
set_option linter.unusedSimpArgs false
open Go Go.RowKit

theorem below_trans {a b c : World} (h : Below a.heap.size a b) (k : Below b.heap.size b c) : Below a.heap.size a c := h.trans (k.mono h.size)

/-- The slice (ao, n, cap) of elements of so many cells reads as the cells xs. -/
def Sl (w : World) (size : Nat) (ao : Option Addr) (n cap : Nat) (xs : List Value) : Prop :=
  xs.length = n * size ∧ n ≤ cap ∧ cap ≤ maxLen ∧ (0 < n → ∃ b off, ao = some ⟨b, off, none⟩ ∧ ∀ i (h : i < xs.length), w.cell? ⟨b, off + i, none⟩ = some xs[i])

def vb (x : UInt8) : Value := .int .u8 (x.toNat : Int)
def vl (x : UInt64) : Value := .int .u64 (x.toNat : Int)
def vd (x : UInt32) : Value := .int .u32 (x.toNat : Int)
def u8s (l : List UInt8) : List Value := l.map vb
def u64s (l : List UInt64) : List Value := l.map vl
def u32s (l : List UInt32) : List Value := l.map vd
@[simp] theorem length_u8s (l : List UInt8) : (u8s l).length = l.length := by simp [u8s]
@[simp] theorem length_u64s (l : List UInt64) : (u64s l).length = l.length := by simp [u64s]
@[simp] theorem length_u32s (l : List UInt32) : (u32s l).length = l.length := by simp [u32s]
theorem one_u8s (l : List UInt8) : ∀ u ∈ u8s l, u.oneCell' = true := by
  intro u hu; obtain ⟨x, _, rfl⟩ := List.mem_map.1 hu; rfl
theorem one_u64s (l : List UInt64) : ∀ u ∈ u64s l, u.oneCell' = true := by
  intro u hu; obtain ⟨x, _, rfl⟩ := List.mem_map.1 hu; rfl
theorem one_u32s (l : List UInt32) : ∀ u ∈ u32s l, u.oneCell' = true := by
  intro u hu; obtain ⟨x, _, rfl⟩ := List.mem_map.1 hu; rfl

section
variable {w w' : World} {size : Nat} {ao : Option Addr} {n cap : Nat} {xs : List Value}
theorem Sl.nil (w : World) (size : Nat) : Sl w size none 0 0 [] := ⟨by simp, Nat.le_refl _, by unfold maxLen; omega, fun h => absurd h (by omega)⟩
theorem Sl.agree (h : Sl w size ao n cap xs) (hw : Agree w w') : Sl w' size ao n cap xs := by
  obtain ⟨h1, h2, h3, h4⟩ := h
  refine ⟨h1, h2, h3, fun hn => ?_⟩
  obtain ⟨b, off, e, hc⟩ := h4 hn
  exact ⟨b, off, e, fun i hi => hw.cell (hc i hi)⟩
theorem Sl.below (h : Sl w size ao n cap xs) (hb : Below w.heap.size w w') : Sl w' size ao n cap xs := h.agree (Agree.of_below hb)
theorem Sl.drew (h : Sl w size ao n cap xs) : Sl w.drew size ao n cap xs := h
theorem Sl.of_owns {base : Nat} {e : TypeId} (h : w.ownsRow base e size (.slice ao n cap) n xs) : Sl w size ao n cap xs := by
  rcases h.2 with ⟨hv, hn⟩ | ⟨g, cap', cur, hv, hb, hg, hnc, hcm, hcs, ht⟩
  · simp only [Value.slice.injEq] at hv
    obtain ⟨rfl, rfl, rfl⟩ := hv
    exact ⟨h.1, Nat.le_refl _, by unfold maxLen; omega, fun h => absurd h (by omega)⟩
  · simp only [Value.slice.injEq, true_and] at hv
    obtain ⟨rfl, rfl⟩ := hv
    refine ⟨h.1, hnc, hcm, fun _ => ⟨g, 0, rfl, fun i hi => ?_⟩⟩
    rw [cell_of_row w g (0 + i) cur e (0, 0) hg, ← Array.getElem?_toList, Nat.zero_add]
    have hlen := h.1
    have : (cur.toList.take (n * size))[i]? = some xs[i] := by rw [ht]; exact List.getElem?_eq_getElem hi
    rw [List.getElem?_take] at this
    split at this
    · exact this
    · cases this
theorem owns_form {base : Nat} {e : TypeId} {v : Value} (h : w.ownsRow base e size v n xs) : ∃ ao cap, v = .slice ao n cap := by
  rcases h.2 with ⟨rfl, rfl⟩ | ⟨g, cap', cur, rfl, _⟩
  · exact ⟨_, _, rfl⟩
  · exact ⟨_, _, rfl⟩
theorem owns_mono {base base' : Nat} {e : TypeId} {v : Value} (h : w.ownsRow base e size v n xs) (hb : base' ≤ base) : w.ownsRow base' e size v n xs := by
  refine ⟨h.1, h.2.imp id ?_⟩
  rintro ⟨g, cap', cur, h1, h2, h3⟩
  exact ⟨g, cap', cur, h1, Nat.le_trans hb h2, h3⟩
theorem owns_agree {base : Nat} {e : TypeId} {v : Value} (h : w.ownsRow base e size v n xs) (hw : Agree w w') : w'.ownsRow base e size v n xs := by
  refine ⟨h.1, h.2.imp id ?_⟩
  rintro ⟨g, cap', cur, h1, h2, h3, h4⟩
  exact ⟨g, cap', cur, h1, h2, hw.block h3, h4⟩
theorem Sl.cell {x : Value} {i : Nat} (h : Sl w 1 ao n cap xs) (hi : xs[i]? = some x) : ∃ b off, ao = some ⟨b, off, none⟩ ∧ w.cell? ⟨b, off + i, none⟩ = some x := by
  obtain ⟨h1, h2, h3, h4⟩ := h
  obtain ⟨hlt, hx⟩ := List.getElem?_eq_some_iff.1 hi
  obtain ⟨b, off, e, hc⟩ := h4 (by omega)
  exact ⟨b, off, e, by rw [hc i hlt, hx]⟩
theorem Sl.len (h : Sl w 1 ao n cap xs) : xs.length = n := by have := h.1; omega
end

/-- The element type's row of the table. -/
def ElemInfo (P : Program) (e : TypeId) (z : Value) (size bytes : Nat) : Prop := ∃ i, P.info? e = some i ∧ i.zero = some z ∧ i.size = size ∧ i.bytes = bytes ∧ z.cells.size = size ∧ 0 < size
theorem elem_of {P : Program} {e : TypeId} {z : Value} {size bytes : Nat} (h : (P.info? e).map (fun i => (i.zero, i.size, i.bytes)) = some (some z, size, bytes)) (hz : z.cells.size = size) (h0 : 0 < size) : ElemInfo P e z size bytes := by
  obtain ⟨i, h1, h2, h3, h4⟩ := info_parts h
  exact ⟨i, h1, h2, h3, h4, hz, h0⟩

section
variable {P : Program} {w : World} {t e : TypeId} {z : Value} {size bytes : Nat}
theorem run_append_Sl {base : Nat} {ty : TypeId} {ao : Option Addr} {n cap : Nat} {xs : List Value} {ao' : Option Addr} {m cap' : Nat} {ys : List Value}
    (ht : P.underlying t = some (.slice e)) (hE : ElemInfo P e z size bytes) (hown : w.ownsRow base e size (.slice ao n cap) n xs) (hs : Sl w size ao' m cap' ys) (h1 : ∀ u ∈ ys, u.oneCell' = true)
    (hb : (n + m) * bytes ≤ 140737488355328) (hl : n + m ≤ maxLen) (hbase : base ≤ w.heap.size) :
    ∃ ao2 cap2 w', (Builtin.append_ #[t, t] ty #[.slice ao n cap, .slice ao' m cap']).run P w = .ok (.slice ao2 (n + m) cap2) w' ∧
      w'.ownsRow base e size (.slice ao2 (n + m) cap2) (n + m) (xs ++ ys) ∧ w.grownBy w' (Value.ownBlock (.slice ao n cap)) := by
  obtain ⟨i, hi, hz, hsz, hby, hzs, h0⟩ := hE
  obtain ⟨s1, s2, s3, s4⟩ := hs
  have fin : ∀ (ad : Addr), ao' = some ad → (∀ j u, ys[j]? = some u → w.cell? (ad.add j) = some u) → ∃ ao2 cap2 w', (Builtin.append_ #[t, t] ty #[.slice ao n cap, .slice ao' m cap']).run P w = .ok (.slice ao2 (n + m) cap2) w' ∧
      w'.ownsRow base e size (.slice ao2 (n + m) cap2) (n + m) (xs ++ ys) ∧ w.grownBy w' (Value.ownBlock (.slice ao n cap)) := by
    intro ad had hnews
    subst had
    obtain ⟨v', w', hr, ho, hg, _⟩ := run_append_own (P := P) w base t ty e i z size bytes ht hi hz hsz hby hzs h0 _ n xs hown ad m cap' ys s1 hnews h1 hl hb hbase
    obtain ⟨ao2, cap2, rfl⟩ := owns_form ho
    exact ⟨ao2, cap2, w', hr, ho, hg⟩
  by_cases hm : 0 < m
  · obtain ⟨b, off, rfl, hc⟩ := s4 hm
    refine fin _ rfl fun j u hu => ?_
    obtain ⟨hj, rfl⟩ := List.getElem?_eq_some_iff.1 hu
    rw [← hc j hj]
    congr 1
    unfold Addr.add
    split <;> simp_all
  · obtain rfl : m = 0 := by omega
    have hy : ys = [] := List.eq_nil_of_length_eq_zero (by simpa using s1)
    subst hy
    cases ao' with
    | some ad => exact fin ad rfl fun j u hu => by simp at hu
    | none =>
      refine ⟨ao, cap, w, ?_, by simpa using hown, ⟨rfl, rfl, rfl, Nat.le_refl _, fun _ _ _ => rfl⟩⟩
      have hcap : n ≤ cap := (Sl.of_owns hown).2.1
      cases ao with
      | none => simp [Builtin.append_, run_underlying ht, sizeOf, typeInfo, hi, Builtin.lenOf, Builtin.firstCells, hcap]
      | some a => simp [Builtin.append_, run_underlying ht, sizeOf, typeInfo, hi, Builtin.lenOf, Builtin.firstCells, hcap, storeCells]

theorem wp_append {o : Oper} {a : Act} {K : Act → World → Prop} {Q : Exit → Act → World → Prop} (s x : Operand) (t : TypeId)
    (ho : o.op = .call { callee := .builtin .append, args := #[s, x], argTypes := #[t, t] })
    {base : Nat} {ao : Option Addr} {n cap : Nat} {xs : List Value} {ao' : Option Addr} {m cap' : Nat} {ys : List Value}
    (hsv : a.eval s = .slice ao n cap) (hxv : a.eval x = .slice ao' m cap')
    (ht : P.underlying t = some (.slice e)) (hE : ElemInfo P e z size bytes) (hown : w.ownsRow base e size (.slice ao n cap) n xs) (hs : Sl w size ao' m cap' ys) (h1 : ∀ u ∈ ys, u.oneCell' = true)
    (hb : (n + m) * bytes ≤ 140737488355328) (hl : n + m ≤ maxLen) (hbase : base ≤ w.heap.size)
    (h : ∀ ao2 cap2 w', w'.ownsRow base e size (.slice ao2 (n + m) cap2) (n + m) (xs ++ ys) → w.grownBy w' (Value.ownBlock (.slice ao n cap)) → K (a.put o.dst (.slice ao2 (n + m) cap2)) w') : o.wp P a w K Q := by
  obtain ⟨ao2, cap2, w', hr, h2, h3⟩ := run_append_Sl (P := P) (w := w) (ty := o.type) ht hE hown hs h1 hb hl hbase
  unfold Oper.wp execOp
  simp only [ho, resolve, invoke, builtin, Sem.run_bind, Sem.run_pure, Result.andThen_ok, List.map_toArray, List.map_cons, List.map_nil, hsv, hxv, hr]
  exact h ao2 cap2 w' h2 h3
theorem wpl_append {ops : Array Oper} {rest : List Oper} {o : Oper} {a : Act} {Q : Exit → Act → World → Prop} (hgd : o.guard = none) (s x : Operand) (t : TypeId)
    (ho : o.op = .call { callee := .builtin .append, args := #[s, x], argTypes := #[t, t] })
    {base : Nat} {ao : Option Addr} {n cap : Nat} {xs : List Value} {ao' : Option Addr} {m cap' : Nat} {ys : List Value}
    (hsv : a.eval s = .slice ao n cap) (hxv : a.eval x = .slice ao' m cap')
    (ht : P.underlying t = some (.slice e)) (hE : ElemInfo P e z size bytes) (hown : w.ownsRow base e size (.slice ao n cap) n xs) (hs : Sl w size ao' m cap' ys) (h1 : ∀ u ∈ ys, u.oneCell' = true)
    (hb : (n + m) * bytes ≤ 140737488355328) (hl : n + m ≤ maxLen) (hbase : base ≤ w.heap.size)
    (h : ∀ ao2 cap2 w', w'.ownsRow base e size (.slice ao2 (n + m) cap2) (n + m) (xs ++ ys) → w.grownBy w' (Value.ownBlock (.slice ao n cap)) → wpList P ops Q rest (a.put o.dst (.slice ao2 (n + m) cap2)) w') : wpList P ops Q (o :: rest) a w :=
  wpList_plain hgd fun _ hK => wp_append s x t ho hsv hxv ht hE hown hs h1 hb hl hbase fun ao2 cap2 w' h2 h3 => hK _ _ (h ao2 cap2 w' h2 h3)

theorem wpl_make {ops : Array Oper} {rest : List Oper} {o : Oper} {a : Act} {Q : Exit → Act → World → Prop} (hgd : o.guard = none) (l c : Operand) (t : TypeId)
    (ho : o.op = Op.makeSlice t l c) {kl kc : IntKind} {L C : Int} (n : Nat) (hl : a.eval l = .int kl L) (hc : a.eval c = .int kc C)
    (ht : P.underlying t = some (.slice e)) (hE : ElemInfo P e z size bytes) (hL : L = (n : Int)) (hC : C = (n : Int)) (hb : bytes * n ≤ 281474976710656) (hm : n ≤ maxLen)
    (h : ∀ w', w'.ownsRow w.heap.size e size (.slice (some ⟨w.heap.size, 0, none⟩) n n) n (madeCells z.cells (n * size)).toList → w.grownBy w' none → wpList P ops Q rest (a.put o.dst (.slice (some ⟨w.heap.size, 0, none⟩) n n)) w') : wpList P ops Q (o :: rest) a w := by
  obtain ⟨i, hi, hz, hsz, hby, hzs, h0⟩ := hE
  subst hby
  exact wpList_make_full w hgd l c t ho w.heap.size e i z size ht hi hz hsz kl kc L C n hl hc hL hC hb hm (Nat.le_refl _) h
theorem made_one (z : Value) (n : Nat) (h : z.cells = #[z]) : (madeCells z.cells (n * 1)).toList = List.replicate n z := by
  rw [h, Nat.mul_one]; exact toList_madeCells_one z n

/-- A []byte as a string. -/
def str (l : List UInt8) : Value := .string ⟨l.toArray⟩
theorem foldl_push (l : List UInt8) : ∀ s : ByteArray, (l.map fun x => ((x.toNat : Nat) : Int)).foldl (fun r n => r.push (UInt8.ofNat n.toNat)) s = ⟨s.data ++ l.toArray⟩ := by
  induction l with
  | nil => intro s; simp
  | cons x l ih =>
    intro s
    rw [List.map_cons, List.foldl_cons, ih]
    congr 1
    simp [ByteArray.push]
theorem run_string {src dst : TypeId} {ao : Option Addr} {n cap : Nat} {l : List UInt8} (hs : P.underlying src = some (.slice e)) (he : P.underlying e = some (.int .u8)) (hd : P.underlying dst = some .string)
    (h : Sl w 1 ao n cap (u8s l)) : (convert src dst (.slice ao n cap)).run P w = .ok (str l) w := by
  rw [run_convert_bytes_string w src dst e ao n cap hs he hd]
  obtain ⟨h1, h2, h3, h4⟩ := h
  have hn : n = l.length := by simpa using h1.symm
  cases ao with
  | none =>
    by_cases hn0 : 0 < n
    · obtain ⟨b, off, e, _⟩ := h4 hn0; cases e
    · have : l = [] := List.eq_nil_of_length_eq_zero (by omega)
      subst this
      rfl
  | some ad =>
    have hload : (loadCells ad n).run P w = .ok (((l.map fun x => ((x.toNat : Nat) : Int)).map (Value.int .u8)).toArray) w := by
      have e : (l.map fun x => ((x.toNat : Nat) : Int)).map (Value.int .u8) = u8s l := by simp [u8s, vb, Function.comp_def]
      rw [e]
      have := run_firstCells_some (P := P) w 1 n ad n 0 (u8s l) (by simpa using h1) (fun j u hu => ?_)
      · simpa [Builtin.firstCells] using this
      · obtain ⟨hj, rfl⟩ := List.getElem?_eq_some_iff.1 hu
        obtain ⟨b, off, e, hc⟩ := h4 (by rw [hn]; simp at hj; omega)
        cases e
        rw [← hc j hj]
        congr 1
        unfold Addr.add
        split <;> simp_all
    rw [run_bytesToString w ad n cap _ hload, foldl_push]
    simp [str, ByteArray.empty, ByteArray.emptyWithCapacity]
    rfl
end

/-- The post of a call that gives one value: it says R of it, and what was there is as it was. -/
def Ret (w : World) (R : Value → World → Prop) (e : Ending) (w' : World) : Prop := ∃ v, e = .returned v ∧ R v w' ∧ Below w.heap.size w w'
/-- Bytes in new memory. -/
def OwnB (base : Nat) (e : TypeId) (xs : List Value) (v : Value) (w' : World) : Prop := ∃ ao cap, v = .slice ao xs.length cap ∧ w'.ownsRow base e 1 (.slice ao xs.length cap) xs.length xs
/-- A slice that reads so. -/
def RdB (xs : List Value) (v : Value) (w' : World) : Prop := ∃ ao cap, v = .slice ao xs.length cap ∧ Sl w' 1 ao xs.length cap xs
end Go.Proofs.YtdplcfineaikjaaDoor
