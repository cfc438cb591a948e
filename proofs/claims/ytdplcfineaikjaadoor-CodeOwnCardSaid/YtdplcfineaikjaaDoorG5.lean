/- The engine, part 5: operations on memory. For whatever program. No condition. -/
import Derived.Test.YtdplcfineaikjaaDoorG4
namespace Go.Proofs.YtdplcfineaikjaaDoor
set_option linter.unusedVariables false
set_option linter.unusedSimpArgs false
open Go Go.RowKit
/-! What a type's row says. -/
def selt (P : Program) (t : TypeId) : Option (TypeId × Nat) := match P.underlying t with
  | some (.slice e) => (P.info? e).map fun i => (e, i.size)
  | _ => none
def aelt (P : Program) (t : TypeId) : Option (Nat × TypeId × Nat) := match P.underlying t with
  | some (.array k e) => (P.info? e).map fun i => (k, e, i.size)
  | _ => none
def fld (P : Program) (s : TypeId) (f : Nat) : Option Nat := match P.underlying s with
  | some (.struct fs) => match fs[f]? with
    | some g => match P.info? g.type with
      | some i => if i.size = 0 then none else some g.offset
      | none => none
    | none => none
  | _ => none
def zer (P : Program) (t : TypeId) : Option Value := (P.info? t).bind (·.zero)
def siz (P : Program) (t : TypeId) : Option Nat := (P.info? t).map (·.size)
def places (P : Program) (t : TypeId) : Option (List (Nat × Nat)) := match P.underlying t with
  | some (.struct fs) => fs.toList.mapM fun f => (siz P f.type).map fun s => (f.offset, s)
  | _ => none
/-- The element type's row. -/
def ElemOK (P : Program) (t e : TypeId) (z : Value) (size bytes : Nat) : Prop := P.underlying t = some (.slice e) ∧ ElemInfo P e z size bytes

theorem selt_spec {P : Program} {t e : TypeId} {s : Nat} (h : selt P t = some (e, s)) : P.underlying t = some (.slice e) ∧ ∃ i, P.info? e = some i ∧ i.size = s := by
  unfold selt at h
  split at h
  · rename_i e' hu
    simp only [Option.map_eq_some_iff, Prod.mk.injEq] at h
    obtain ⟨i, hi, rfl, rfl⟩ := h
    exact ⟨hu, i, hi, rfl⟩
  · cases h
theorem aelt_spec {P : Program} {t e : TypeId} {k s : Nat} (h : aelt P t = some (k, e, s)) : P.underlying t = some (.array k e) ∧ ∃ i, P.info? e = some i ∧ i.size = s := by
  unfold aelt at h
  split at h
  · rename_i k' e' hu
    simp only [Option.map_eq_some_iff, Prod.mk.injEq] at h
    obtain ⟨i, hi, rfl, rfl, rfl⟩ := h
    exact ⟨hu, i, hi, rfl⟩
  · cases h
theorem run_sizeOf {P : Program} {t : TypeId} {i : TypeInfo} (h : P.info? t = some i) (w : World) : (sizeOf t).run P w = .ok i.size w := by simp [sizeOf, typeInfo, h]
theorem run_fieldAt {P : Program} {s : TypeId} {f off : Nat} (h : fld P s f = some off) (b o : Nat) (w : World) : (Instr.fieldAt s (.pointer (some ⟨b, o, none⟩)) f).run P w = .ok (.pointer (some ⟨b, o + off, none⟩)) w := by
  unfold fld at h
  split at h
  · rename_i fs hu
    split at h
    · rename_i g hg
      split at h
      · rename_i i hi
        split at h
        · cases h
        · rename_i hz
          cases h
          simp only [Instr.fieldAt, Sem.run_bind, run_underlying hu, Result.andThen_ok, hg, Instr.sureAddr, Sem.run_pure, fieldPlace, run_sizeOf hi, if_neg hz, addr_add]
      · cases h
    · cases h
  · cases h
/-- The bounds of a part. -/
inductive Bd (l : List (Nat × Value)) : Option Operand → Nat → Nat → Prop
  | none {d : Nat} : Bd l none d d
  | some {o : Operand} {d m : Nat} {k : IntKind} {p : Int} (h : ev l o = some (.int k p)) (hp : p = (m : Int)) : Bd l (some o) d m
theorem run_sliceBound {P : Program} {k : IntKind} {m y : Nat} {c : BoundsCode} (h : m ≤ y) (w : World) : (Instr.sliceBound (.int k (m : Int)) y c).run P w = .ok m w := by
  simp [Instr.sliceBound, asIntOf, h]
theorem run_sliceBounds {P : Program} {n : Nat} {l : List (Nat × Value)} {a : Act} (hf : Fr n l a) {isS : Bool} {len cap : Nat} {lo hi mx : Option Operand} {x y z : Nat} (hlo : Bd l lo 0 x) (hhi : Bd l hi len y) (hmx : Bd l mx cap z) (h1 : x ≤ y) (h2 : y ≤ z) (h3 : z ≤ cap)
    (hm : mx.isSome = true → hi.isSome = true) (w : World) : (Instr.sliceBounds isS len cap (lo.map a.eval) (hi.map a.eval) (mx.map a.eval)).run P w = .ok (x, y, z) w := by
  cases hmx with
  | none =>
    cases hhi with
    | none =>
      cases hlo with
      | none => simp [Instr.sliceBounds]
      | some h hp => subst hp; simp [Instr.sliceBounds, hf.eval h, run_sliceBound h1]
    | some h' hp' =>
      subst hp'
      cases hlo with
      | none => simp [Instr.sliceBounds, hf.eval h', run_sliceBound h2]
      | some h hp => subst hp; simp [Instr.sliceBounds, hf.eval h', run_sliceBound h2, hf.eval h, run_sliceBound h1]
  | some h'' hp'' =>
    subst hp''
    cases hhi with
    | none => exact absurd (hm rfl) (by simp)
    | some h' hp' =>
      subst hp'
      cases hlo with
      | none => simp [Instr.sliceBounds, hf.eval h'', run_sliceBound h3, hf.eval h', run_sliceBound h2]
      | some h hp => subst hp; simp [Instr.sliceBounds, hf.eval h'', run_sliceBound h3, hf.eval h', run_sliceBound h2, hf.eval h, run_sliceBound h1]
section
variable {P : Program} {n : Nat} {l : List (Nat × Value)} {E : World} {L L1 Ls : List Heaplet} {o : Oper} {X Y : Act → World → Prop} {N : Heaplet}
variable {d : Nat} {ty t t' e : TypeId} {pos : String} {aft : Array Edge} {g : Option (Nat × Bool)} {v : Value} {x y z : Operand} {k : IntKind} {p q : Int} {size len cap : Nat} {ao : Option Addr} {xs : List Value} {b off j : Nat}
theorem op_load (s : NxF P n l E L Ls ⟨some d, .load t x, ty, pos, aft, g⟩ X Y) (ht : scal P t = true) (hx : ev l x = some (.pointer (some ⟨b, off, none⟩))) (hc : cellOf N b off = some v) (hN : N ∈ Ls) (hn : Nat.ble (d + 1) n = true) (h : At n ((d, v) :: l) E L Y) : At n l E L X :=
  op_val s (fun a w hf hw => by
    simp only [execOp, hf.eval hx, Instr.loadAt, Instr.sureAddr, Sem.run_bind, Sem.run_pure, Result.andThen_ok, run_load_scal ht (hw.cell hN hc)]) rfl hn h
/-- A cell of a block that is known whole. -/
theorem op_loadB {cs : List Value} (s : NxF P n l E L Ls ⟨some d, .load t x, ty, pos, aft, g⟩ X Y) (ht : scal P t = true) (hx : ev l x = some (.pointer (some ⟨b, off, none⟩))) (hb : Blk N b e cs) (hc : cs[off]? = some v) (hN : N ∈ Ls) (hn : Nat.ble (d + 1) n = true) (h : At n ((d, v) :: l) E L Y) : At n l E L X :=
  op_load s ht hx (by obtain ⟨hl, rfl⟩ := List.getElem?_eq_some_iff.1 hc; simpa using hb.rng off hl) hN hn h
theorem op_loadE (s : NxF P n l E L Ls ⟨some d, .load t x, ty, pos, aft, g⟩ X Y) (ht : scal P t = true) (hx : ev l x = some (eptr ao j)) (hs : RSl N size ao len cap xs) (hc : xs[j]? = some v) (hN : N ∈ Ls) (hn : Nat.ble (d + 1) n = true) (h : At n ((d, v) :: l) E L Y) : At n l E L X := by
  obtain ⟨b, off, rfl, hcell⟩ := hs.get hc
  exact op_load s ht hx hcell hN hn h
theorem op_loadAgg {cs : List Value} {kk : Nat} (s : NxF P n l E L Ls ⟨some d, .load t x, ty, pos, aft, g⟩ X Y) (ht : aggOf P t = some kk) (hx : ev l x = some (.pointer (some ⟨b, off, none⟩))) (hc : Rng N b off cs) (hk : cs.length = kk) (hN : N ∈ Ls) (hn : Nat.ble (d + 1) n = true) (h : At n ((d, .agg cs.toArray) :: l) E L Y) : At n l E L X :=
  op_val s (fun a w hf hw => by
    simp only [execOp, hf.eval hx, Instr.loadAt, Instr.sureAddr, Sem.run_bind, Sem.run_pure, Result.andThen_ok, run_load_agg ht hk (fun i hi => hw.cell hN (hc i hi))]) rfl hn h
theorem Rng.sub {cs ds : List Value} {o : Nat} (h : Rng N b off cs) (hs : ∀ i (hi : i < ds.length), cs[o + i]? = some ds[i]) : Rng N b (off + o) ds := fun i hi => by
  obtain ⟨hl, he⟩ := List.getElem?_eq_some_iff.1 (hs i hi)
  rw [Nat.add_assoc, h _ hl, he]
theorem op_loadAggB {cs ds : List Value} {kk : Nat} (s : NxF P n l E L Ls ⟨some d, .load t x, ty, pos, aft, g⟩ X Y) (ht : aggOf P t = some kk) (hx : ev l x = some (.pointer (some ⟨b, off, none⟩))) (hb : Blk N b e cs) (hd : (cs.drop off).take kk = ds) (hk : ds.length = kk) (hN : N ∈ Ls) (hn : Nat.ble (d + 1) n = true) (h : At n ((d, .agg ds.toArray) :: l) E L Y) : At n l E L X :=
  op_loadAgg s ht hx (by
    have := hb.rng.sub (o := off) (ds := ds) (fun i hi => by
      have h2 : ((cs.drop off).take kk)[i]? = some ds[i] := by rw [hd]; exact List.getElem?_eq_getElem hi
      rw [List.getElem?_take, if_pos (by omega), List.getElem?_drop] at h2
      exact h2)
    simpa using this) hk hN hn h
theorem RSl.rng (hs : RSl N size ao len cap xs) (h0 : 0 < xs.length) : ∃ b off, ao = some ⟨b, off, none⟩ ∧ Rng N b off xs := by
  obtain ⟨a1, a2, a3, a4⟩ := hs
  refine a4 ?_
  rcases Nat.eq_zero_or_pos len with h | h
  · rw [h, Nat.zero_mul] at a1; omega
  · exact h
theorem op_loadAggE {ds : List Value} {kk : Nat} (s : NxF P n l E L Ls ⟨some d, .load t x, ty, pos, aft, g⟩ X Y) (ht : aggOf P t = some kk) (hx : ev l x = some (eptr ao j)) (hs : RSl N size ao len cap xs) (hd : (xs.drop j).take kk = ds) (hk : ds.length = kk) (h0 : 0 < kk) (hN : N ∈ Ls) (hn : Nat.ble (d + 1) n = true) (h : At n ((d, .agg ds.toArray) :: l) E L Y) : At n l E L X := by
  have hlen : 0 < xs.length := by
    have : ds.length ≤ xs.length := by rw [← hd, List.length_take, List.length_drop]; omega
    omega
  obtain ⟨b, off, rfl, hr⟩ := hs.rng hlen
  refine op_loadAgg s ht hx (b := b) (off := off + j) (hr.sub (ds := ds) fun i hi => ?_) hk hN hn h
  have h2 : ((xs.drop j).take kk)[i]? = some ds[i] := by rw [hd]; exact List.getElem?_eq_getElem hi
  rw [List.getElem?_take, if_pos (by omega), List.getElem?_drop] at h2
  exact h2
theorem op_fieldAddr {f fo : Nat} (s : NxF P n l E L Ls ⟨some d, .fieldAddr t x f, ty, pos, aft, g⟩ X Y) (ht : fld P t f = some fo) (hx : ev l x = some (.pointer (some ⟨b, off, none⟩))) (hn : Nat.ble (d + 1) n = true) (h : At n ((d, .pointer (some ⟨b, off + fo, none⟩)) :: l) E L Y) : At n l E L X :=
  op_val s (fun a w hf hw => by
    simp only [execOp, hf.eval hx, Sem.run_bind, Sem.run_pure, Result.andThen_ok, run_fieldAt ht]) rfl hn h
theorem op_fieldAddrE {f fo : Nat} (s : NxF P n l E L Ls ⟨some d, .fieldAddr t x f, ty, pos, aft, g⟩ X Y) (ht : fld P t f = some fo) (hx : ev l x = some (eptr ao j)) (hs : ao.isSome = true) (hn : Nat.ble (d + 1) n = true) (h : At n ((d, eptr ao (j + fo)) :: l) E L Y) : At n l E L X := by
  obtain ⟨⟨b, off, sp⟩, rfl⟩ := Option.isSome_iff_exists.1 hs
  exact op_fieldAddr s ht hx hn (by simpa [eptr, Nat.add_assoc] using h)
theorem op_idxE (s : NxF P n l E L Ls ⟨some d, .indexAddr t x y, ty, pos, aft, g⟩ X Y) (ht : selt P t = some (e, size)) (hx : ev l x = some (.slice ao len cap)) (hy : ev l y = some (.int k p)) (hs : RSl N size ao len cap xs) (hj : p = (j : Int)) (hlt : j < len) (hn : Nat.ble (d + 1) n = true) (h : At n ((d, eptr ao (j * size)) :: l) E L Y) : At n l E L X := by
  obtain ⟨b, off, rfl, _⟩ := hs.2.2.2 (by omega)
  obtain ⟨hu, i, hi, hsz⟩ := selt_spec ht
  refine op_val s (fun a w hf hw => ?_) rfl hn h
  subst hj
  simp only [execOp, hf.eval hx, hf.eval hy, Instr.indexAt, asIntOf, Sem.run_bind, Sem.run_pure, Result.andThen_ok, run_underlying hu]
  have h0 : (0 : Int) ≤ (j : Int) ∧ (j : Int) < (len : Int) := by omega
  simp only [if_pos h0, Sem.run_bind, run_sizeOf hi, hsz, Result.andThen_ok, Int.toNat_natCast, addr_add, Sem.run_pure]
  by_cases hl1 : len ≤ 1 <;> simp [hl1, run_underlying hu, eptr]
theorem op_idxA {alen : Nat} (s : NxF P n l E L Ls ⟨some d, .indexAddr t x y, ty, pos, aft, g⟩ X Y) (ht : aelt P t = some (alen, e, size)) (hx : ev l x = some (.pointer (some ⟨b, off, none⟩))) (hy : ev l y = some (.int k p)) (hj : p = (j : Int)) (hlt : j < alen) (hn : Nat.ble (d + 1) n = true) (h : At n ((d, .pointer (some ⟨b, off + j * size, none⟩)) :: l) E L Y) : At n l E L X := by
  obtain ⟨hu, i, hi, hsz⟩ := aelt_spec ht
  refine op_val s (fun a w hf hw => ?_) rfl hn h
  subst hj
  simp only [execOp, hf.eval hx, hf.eval hy, Instr.indexAt, Instr.sureAddr, asIntOf, Sem.run_bind, Sem.run_pure, Result.andThen_ok, run_underlying hu]
  have h0 : (0 : Int) ≤ (j : Int) ∧ (j : Int) < (alen : Int) := by omega
  simp only [if_pos h0, Sem.run_bind, run_sizeOf hi, hsz, Result.andThen_ok, Int.toNat_natCast, addr_add, Sem.run_pure]
theorem op_slice {lo hi mx : Option Operand} {x' y' z' : Nat} (s : NxF P n l E L Ls ⟨some d, .slice t x lo hi mx, ty, pos, aft, g⟩ X Y) (ht : selt P t = some (e, size)) (hx : ev l x = some (.slice ao len cap)) (hlo : Bd l lo 0 x') (hhi : Bd l hi len y') (hmx : Bd l mx cap z') (h1 : x' ≤ y') (h2 : y' ≤ z') (h3 : z' ≤ cap)
    (hm : mx.isSome = true → hi.isSome = true) (hn : Nat.ble (d + 1) n = true) (h : At n ((d, .slice (sadr ao x' z' size) (y' - x') (z' - x')) :: l) E L Y) : At n l E L X := by
  obtain ⟨hu, i, hi', hsz⟩ := selt_spec ht
  refine op_val s (fun a w hf hw => ?_) rfl hn h
  simp only [execOp, hf.eval hx, Instr.sliceAt, Instr.slice, Sem.run_bind, run_underlying hu, Result.andThen_ok, run_sliceBounds hf hlo hhi hmx h1 h2 h3 hm, run_sizeOf hi', hsz, Sem.run_pure, sadr]
theorem op_sliceA {lo hi mx : Option Operand} {alen x' y' z' : Nat} (s : NxF P n l E L Ls ⟨some d, .slice t x lo hi mx, ty, pos, aft, g⟩ X Y) (ht : aelt P t = some (alen, e, size)) (hx : ev l x = some (.pointer (some ⟨b, off, none⟩))) (hlo : Bd l lo 0 x') (hhi : Bd l hi alen y') (hmx : Bd l mx alen z') (h1 : x' ≤ y') (h2 : y' ≤ z') (h3 : z' ≤ alen)
    (hm : mx.isSome = true → hi.isSome = true) (hn : Nat.ble (d + 1) n = true) (h : At n ((d, .slice (some (if z' = x' then ⟨b, off, none⟩ else ⟨b, off + x' * size, none⟩)) (y' - x') (z' - x')) :: l) E L Y) : At n l E L X := by
  obtain ⟨hu, i, hi', hsz⟩ := aelt_spec ht
  refine op_val s (fun a w hf hw => ?_) rfl hn h
  simp only [execOp, hf.eval hx, Instr.sliceAt, Instr.sureAddr, Sem.run_bind, Sem.run_pure, run_underlying hu, Result.andThen_ok, run_sliceBounds hf hlo hhi hmx h1 h2 h3 hm, run_sizeOf hi', hsz, addr_add]
theorem op_lenS (s : NxF P n l E L Ls ⟨some d, .call ⟨.builtin .len, #[x], #[t]⟩, ty, pos, aft, g⟩ X Y) (ht : selt P t = some (e, size)) (hx : ev l x = some (.slice ao len cap)) (hn : Nat.ble (d + 1) n = true) (h : At n ((d, .int .i64 (len : Int)) :: l) E L Y) : At n l E L X := by
  obtain ⟨hu, _⟩ := selt_spec ht
  refine op_val s (fun a w hf hw => ?_) rfl hn h
  simp only [execOp, resolve, invoke, builtin, Sem.run_bind, Sem.run_pure, Result.andThen_ok, List.map_toArray, List.map_cons, List.map_nil, hf.eval hx, Builtin.len_]
  simp [run_underlying hu, goInt]
theorem op_lenStr {ls : List UInt8} (s : NxF P n l E L Ls ⟨some d, .call ⟨.builtin .len, #[x], #[t]⟩, ty, pos, aft, g⟩ X Y) (ht : P.underlying t = some .string) (hx : ev l x = some (str ls)) (hn : Nat.ble (d + 1) n = true) (h : At n ((d, .int .i64 (ls.length : Int)) :: l) E L Y) : At n l E L X := by
  refine op_val s (fun a w hf hw => ?_) rfl hn h
  simp only [execOp, resolve, invoke, builtin, Sem.run_bind, Sem.run_pure, Result.andThen_ok, List.map_toArray, List.map_cons, List.map_nil, hf.eval hx, Builtin.len_, str]
  simp only [List.getElem?_toArray, List.getElem?_cons_zero, Sem.run_bind, run_underlying ht, Result.andThen_ok]
  rfl
/-- string(b) -/
theorem op_str {bs : List UInt8} (s : NxF P n l E L Ls ⟨some d, .convert t t' x, ty, pos, aft, g⟩ X Y) (ht : P.underlying t = some (.slice e)) (he : P.underlying e = some (.int .u8)) (ht' : P.underlying t' = some .string) (hx : ev l x = some (.slice ao len cap)) (hs : RSl N 1 ao len cap (u8s bs)) (hN : N ∈ Ls) (hn : Nat.ble (d + 1) n = true) (h : At n ((d, str bs) :: l) E L Y) : At n l E L X := by
  refine op_val s (fun a w hf hw => ?_) rfl hn h
  have hr := run_string (P := P) ht he ht' (hs.sl (hw.sub N hN))
  simp only [execOp, hf.eval hx]
  rw [Sem.run_bind, hr]
  rfl
theorem op_field {f fo : Nat} {cs : List Value} (s : NxF P n l E L Ls ⟨some d, .field t x f, ty, pos, aft, g⟩ X Y) (hr : ∀ w, (Instr.field t (.agg cs.toArray) f).run P w = .ok v w) (hx : ev l x = some (.agg cs.toArray)) (hn : Nat.ble (d + 1) n = true) (h : At n ((d, v) :: l) E L Y) : At n l E L X :=
  op_val s (fun a w hf hw => by simp [execOp, hf.eval hx, hr]) rfl hn h
end
end Go.Proofs.YtdplcfineaikjaaDoor
