/- Several texts in one: see the remarks ahead of each part. No condition but those told there. -/
import Derived.Test.YtdplcfineaikjaaDoorB3
import Derived.Laws.CopyRow
import Derived.Laws.IdiomCopy
import Derived.Laws.Externs
import Derived.Lib.OthersKept
import Derived.Lib.MapLaws
import Derived.Scope
import Derived.Test.YtdplcfineaikjaaDoorB2
/- The engine, part 7: what the walker's text leans on. For whatever program. No condition. -/
namespace Go.Proofs.YtdplcfineaikjaaDoor
set_option linter.unusedVariables false
set_option linter.unusedSimpArgs false
open Go Go.RowKit
theorem mem0 {A : Heaplet} {L : List Heaplet} : A ∈ A :: L := List.Mem.head _
theorem mem1 {A B : Heaplet} {L : List Heaplet} : A ∈ B :: A :: L := List.Mem.tail _ mem0
theorem mem2 {A B C : Heaplet} {L : List Heaplet} : A ∈ B :: C :: A :: L := List.Mem.tail _ mem1
theorem mem3 {A B C D : Heaplet} {L : List Heaplet} : A ∈ B :: C :: D :: A :: L := List.Mem.tail _ mem2
theorem mem4 {A B C D F : Heaplet} {L : List Heaplet} : A ∈ B :: C :: D :: F :: A :: L := List.Mem.tail _ mem3
theorem mem5 {A B C D F G : Heaplet} {L : List Heaplet} : A ∈ B :: C :: D :: F :: G :: A :: L := List.Mem.tail _ mem4
theorem mem6 {A B C D F G H : Heaplet} {L : List Heaplet} : A ∈ B :: C :: D :: F :: G :: H :: A :: L := List.Mem.tail _ mem5
theorem mem7 {A B C D F G H I : Heaplet} {L : List Heaplet} : A ∈ B :: C :: D :: F :: G :: H :: I :: A :: L := List.Mem.tail _ mem6
theorem mem8 {A B C D F G H I J : Heaplet} {L : List Heaplet} : A ∈ B :: C :: D :: F :: G :: H :: I :: J :: A :: L := List.Mem.tail _ mem7
theorem sel5 {A B C D F G : Heaplet} {L : List Heaplet} : (B :: C :: D :: F :: G :: A :: L).Perm (A :: B :: C :: D :: F :: G :: L) := (List.Perm.cons _ sel4).trans (.swap _ _ _)
theorem sel6 {A B C D F G H : Heaplet} {L : List Heaplet} : (B :: C :: D :: F :: G :: H :: A :: L).Perm (A :: B :: C :: D :: F :: G :: H :: L) := (List.Perm.cons _ sel5).trans (.swap _ _ _)
theorem sel7 {A B C D F G H I : Heaplet} {L : List Heaplet} : (B :: C :: D :: F :: G :: H :: I :: A :: L).Perm (A :: B :: C :: D :: F :: G :: H :: I :: L) := (List.Perm.cons _ sel6).trans (.swap _ _ _)
theorem sel8 {A B C D F G H I J : Heaplet} {L : List Heaplet} : (B :: C :: D :: F :: G :: H :: I :: J :: A :: L).Perm (A :: B :: C :: D :: F :: G :: H :: I :: J :: L) := (List.Perm.cons _ sel7).trans (.swap _ _ _)
theorem sel9 {A B C D F G H I J K : Heaplet} {L : List Heaplet} : (B :: C :: D :: F :: G :: H :: I :: J :: K :: A :: L).Perm (A :: B :: C :: D :: F :: G :: H :: I :: J :: K :: L) := (List.Perm.cons _ sel8).trans (.swap _ _ _)
theorem sel10 {A B C D F G H I J K M : Heaplet} {L : List Heaplet} : (B :: C :: D :: F :: G :: H :: I :: J :: K :: M :: A :: L).Perm (A :: B :: C :: D :: F :: G :: H :: I :: J :: K :: M :: L) := (List.Perm.cons _ sel9).trans (.swap _ _ _)
theorem sel11 {A B C D F G H I J K M O : Heaplet} {L : List Heaplet} : (B :: C :: D :: F :: G :: H :: I :: J :: K :: M :: O :: A :: L).Perm (A :: B :: C :: D :: F :: G :: H :: I :: J :: K :: M :: O :: L) := (List.Perm.cons _ sel10).trans (.swap _ _ _)
theorem sel12 {A B C D F G H I J K M O P : Heaplet} {L : List Heaplet} : (B :: C :: D :: F :: G :: H :: I :: J :: K :: M :: O :: P :: A :: L).Perm (A :: B :: C :: D :: F :: G :: H :: I :: J :: K :: M :: O :: P :: L) := (List.Perm.cons _ sel11).trans (.swap _ _ _)
theorem mem9 {A B C D F G H I J K : Heaplet} {L : List Heaplet} : A ∈ B :: C :: D :: F :: G :: H :: I :: J :: K :: A :: L := List.Mem.tail _ mem8
theorem mem10 {A B C D F G H I J K M : Heaplet} {L : List Heaplet} : A ∈ B :: C :: D :: F :: G :: H :: I :: J :: K :: M :: A :: L := List.Mem.tail _ mem9
theorem mem11 {A B C D F G H I J K M O : Heaplet} {L : List Heaplet} : A ∈ B :: C :: D :: F :: G :: H :: I :: J :: K :: M :: O :: A :: L := List.Mem.tail _ mem10
theorem mem12 {A B C D F G H I J K M O P : Heaplet} {L : List Heaplet} : A ∈ B :: C :: D :: F :: G :: H :: I :: J :: K :: M :: O :: P :: A :: L := List.Mem.tail _ mem11
theorem mem13 {A B C D F G H I J K M O P Q : Heaplet} {L : List Heaplet} : A ∈ B :: C :: D :: F :: G :: H :: I :: J :: K :: M :: O :: P :: Q :: A :: L := List.Mem.tail _ mem12
theorem lkI {l : List (Nat × Value)} {i : Nat} {k : IntKind} {p q : Int} (h : lk l i = some (.int k p)) (e : p = q) : lk l i = some (.int k q) := by rw [h, e]
theorem lkB {l : List (Nat × Value)} {i : Nat} {p q : Bool} (h : lk l i = some (.bool p)) (e : p = q) : lk l i = some (.bool q) := by rw [h, e]
theorem lkV {l : List (Nat × Value)} {i : Nat} {p q : Value} (h : lk l i = some p) (e : p = q) : lk l i = some q := by rw [h, e]
theorem und_some {P : Program} {t : TypeId} {d : TypeDesc} (h : P.underlying t = some d) : (P.underlying t).isSome = true := by rw [h]; rfl
theorem getD_some {α : Type} {l : List α} {j : Nat} {z : α} (h : j < l.length) : l[j]? = some (l.getD j z) := by
  rw [List.getD_eq_getElem?_getD, List.getElem?_eq_getElem h]; rfl
theorem get8 {bs : List UInt8} {j : Nat} (h : j < bs.length) : (u8s bs)[j]? = some (.int .u8 ((bs.getD j 0).toNat : Int)) := by
  rw [u8s, List.getElem?_map, getD_some (z := 0) h]; rfl
theorem get64 {bs : List UInt64} {j : Nat} (h : j < bs.length) : (u64s bs)[j]? = some (.int .u64 ((bs.getD j 0).toNat : Int)) := by
  rw [u64s, List.getElem?_map, getD_some (z := 0) h]; rfl
theorem get32 {bs : List UInt32} {j : Nat} (h : j < bs.length) : (u32s bs)[j]? = some (.int .u32 ((bs.getD j 0).toNat : Int)) := by
  rw [u32s, List.getElem?_map, getD_some (z := 0) h]; rfl
section
variable {P : Program} {n : Nat} {l l' : List (Nat × Value)} {E : World} {L L1 Ls : List Heaplet} {o : Oper} {X Y K : Act → World → Prop} {N : Heaplet} {Q : Exit → Act → World → Prop}
variable {d : Nat} {ty t t' e : TypeId} {pos : String} {aft : Array Edge} {g : Option (Nat × Bool)} {v : Value} {x y z : Operand} {k : IntKind} {p q : Int} {size len cap : Nat} {ao : Option Addr} {xs : List Value} {b off j : Nat}
theorem At.cut {c : Code} (hk : Keeps l l') (hc : At n ((d, v) :: l') E L K) (hb : ∀ K', (∀ l'', Keeps l'' l' → lk l'' d = some v → At n l'' E L K') → At n l E L (c.wp P (Exit.then K' Q))) : At n l E L (c.wp P (Exit.then K Q)) :=
  hb K fun l'' h1 h2 => At.keep (.cons h2 h1) hc
theorem op_idx1 (s : NxF P n l E L Ls ⟨some d, .indexAddr t x y, ty, pos, aft, g⟩ X Y) (ht : selt P t = some (e, 1)) (hx : ev l x = some (.slice ao len cap)) (hy : ev l y = some (.int k p)) (hs : RSl N 1 ao len cap xs) (hj : p = (j : Int)) (hlt : j < len) (hn : Nat.ble (d + 1) n = true) (h : At n ((d, eptr ao j) :: l) E L Y) : At n l E L X :=
  op_idxE s ht hx hy hs hj hlt hn (by rw [Nat.mul_one]; exact h)
theorem At.ret1E {Post : Value → List Heaplet → Prop} {R : Heaplet} {L2 : List Heaplet} {fn : Func} {r : ResultVar} {v : Value} (hr : fn.results = #[r]) (hv : Res P l L [r] [v]) (hs : L2.Sublist L) (hL : L2.Perm (L1 ++ [R])) (hP : Post v L1) :
    At n l E L (bodyPostE P fn E R Post .normal) := At.ret1 hr hv hs hL hP
theorem At.retNE {Post : Value → List Heaplet → Prop} {R : Heaplet} {L2 : List Heaplet} {fn : Func} {rs : List ResultVar} {vs : List Value} (hr : fn.results = rs.toArray)
    (hv : Res P l L rs vs) (hn : (vs.length == 1) = false) (hs : L2.Sublist L) (hL : L2.Perm (L1 ++ [R])) (hP : Post (.tuple vs.toArray) L1) :
    At n l E L (bodyPostE P fn E R Post .normal) := At.retN hr hv hn hs hL hP
theorem res_agg {cs ds : List Value} {kk : Nat} (ht : aggOf P t = some kk) (hb : Blk N b e cs) (hd : (cs.drop off).take kk = ds) (hk : ds.length = kk) (hN : N ∈ L) : ∀ E w, Hp E L w → (loadVar t ⟨b, off, none⟩).run P w = .ok (.agg ds.toArray) w := fun E w hw =>
  run_load_agg ht hk fun i hi => hw.cell hN (by
    have h2 : ((cs.drop off).take kk)[i]? = some ds[i] := by rw [hd]; exact List.getElem?_eq_getElem hi
    rw [List.getElem?_take, if_pos (by omega), List.getElem?_drop] at h2
    obtain ⟨hl, he⟩ := List.getElem?_eq_some_iff.1 h2
    have := hb.rng (off + i) hl
    rw [Nat.zero_add] at this
    rw [this, he])
theorem res_scal {cs : List Value} (ht : scal P t = true) (hb : Blk N b e cs) (hd : cs[off]? = some v) (hN : N ∈ L) : ∀ E w, Hp E L w → (loadVar t ⟨b, off, none⟩).run P w = .ok v w := fun E w hw =>
  run_load_scal ht (hw.cell hN (by
    obtain ⟨hl, he⟩ := List.getElem?_eq_some_iff.1 hd
    have := hb.rng off hl
    rw [Nat.zero_add] at this
    rw [this, he]))
/-! aggregates -/
inductive Pts (l : List (Nat × Value)) : List (Nat × Operand) → List (Nat × Value) → Prop
  | nil : Pts l [] []
  | cons {i : Nat} {x : Operand} {v : Value} {xs : List (Nat × Operand)} {vs : List (Nat × Value)} (h : ev l x = some v) (k : Pts l xs vs) : Pts l ((i, x) :: xs) ((i, v) :: vs)
theorem Pts.map {xs : List (Nat × Operand)} {vs : List (Nat × Value)} (h : Pts l xs vs) {ds : List Deferred} {a : Act} (hf : Fr ds n l a) : (xs.map fun p => (p.1, a.eval p.2)) = vs := by
  induction h with
  | nil => rfl
  | cons h _ ih => rw [List.map_cons, ih]; simp [hf.eval h]
/-- The parts of a struct put in place. -/
def fillL (ps : List (Nat × Nat)) (cells : List Value) : List (Nat × Value) → Option (List Value)
  | [] => some cells
  | (i, v) :: rest => match ps[i]? with
    | none => none
    | some (off, size) => if v.cells.toList.length = size ∧ off + v.cells.toList.length ≤ cells.length then fillL ps (setL cells off v.cells.toList) rest else none
theorem foldl_setL (vs : List Value) : ∀ (cs : List Value) (off i : Nat), ((vs.zipIdx i).foldl (fun (cs : Array Value) (c, j) => cs.setIfInBounds (off + j) c) cs.toArray) = (setL cs (off + i) vs).toArray := by
  induction vs with
  | nil => intro cs off i; rfl
  | cons v t ih =>
    intro cs off i
    rw [List.zipIdx_cons, List.foldl_cons, setL]
    have : cs.toArray.setIfInBounds (off + i) v = (cs.set (off + i) v).toArray := by simp
    show List.foldl _ (cs.toArray.setIfInBounds (off + i) v) _ = _
    rw [this, ih]; rfl
theorem fill_fillL {ps : List (Nat × Nat)} {place : Nat → Option (Nat × Nat)} (hp : ∀ i o, ps[i]? = some o → place i = some o) : ∀ (parts : List (Nat × Value)) (cells out : List Value), fillL ps cells parts = some out → Instr.fill place cells.toArray parts = some out.toArray := by
  intro parts
  induction parts with
  | nil => intro cells out h; cases h; rfl
  | cons pv rest ih =>
    intro cells out h
    obtain ⟨i, v⟩ := pv
    simp only [fillL] at h
    split at h
    · cases h
    · rename_i o s hs
      split at h
      · rename_i hc
        simp only [Instr.fill, hp _ _ hs]
        rw [Array.length_toList] at hc
        rw [if_neg (by simp; omega)]
        have e := foldl_setL v.cells.toList cells o 0
        rw [Nat.add_zero] at e
        have e2 : (Array.foldl (fun cs x => cs.setIfInBounds (o + x.2) x.1) cells.toArray v.cells.zipIdx) = (setL cells o v.cells.toList).toArray := by
          rw [← e, ← Array.foldl_toList, Array.toList_zipIdx]
        rw [e2]
        exact ih _ _ h
      · cases h
theorem places_spec {P : Program} {t : TypeId} {ps : List (Nat × Nat)} (h : places P t = some ps) (w : World) : ∃ fs, P.underlying t = some (.struct fs) ∧ (fs.mapM (m := Sem) fun f => do pure (f.offset, ← sizeOf f.type)).run P w = .ok ps.toArray w := by
  unfold places at h
  split at h
  · rename_i fs hu
    refine ⟨fs, hu, ?_⟩
    have key : ∀ (l : List Field) (ps : List (Nat × Nat)), (l.mapM fun f => (siz P f.type).map fun s => (f.offset, s)) = some ps → (l.mapM (m := Sem) fun f => do pure (f.offset, ← sizeOf f.type)).run P w = .ok ps w := by
      intro l
      induction l with
      | nil => intro ps h; cases h; rfl
      | cons f t ih =>
        intro ps h
        simp only [List.mapM_cons, Option.bind_eq_bind, Option.bind_eq_some_iff, Option.map_eq_some_iff] at h
        obtain ⟨a, ⟨s, hs, rfl⟩, qs, hq, h⟩ := h
        cases h
        obtain ⟨i, hi, rfl⟩ := Option.map_eq_some_iff.1 hs
        rw [List.mapM_cons, Sem.run_bind, Sem.run_bind, run_sizeOf hi]
        simp only [Result.andThen_ok, Sem.run_pure]
        rw [Sem.run_bind, ih qs hq]
        rfl
    have := key fs.toList ps h
    rw [Array.mapM_eq_mapM_toList, Sem.run_map, this]
    rfl
  · cases h
theorem op_build {parts : List (Nat × Operand)} {vs : List (Nat × Value)} {zs out : List Value} {ps : List (Nat × Nat)} (s : NxF P n l E L Ls ⟨some d, .build t parts.toArray, ty, pos, aft, g⟩ X Y) (hz : zer P t = some (.agg zs.toArray)) (hp : places P t = some ps) (hv : Pts l parts vs) (ho : fillL ps zs vs = some out) (hn : Nat.ble (d + 1) n = true) (h : At n ((d, .agg out.toArray) :: l) E L Y) : At n l E L X :=
  op_val s (fun a w hf hw => by
    obtain ⟨i, hi, hiz⟩ := Option.bind_eq_some_iff.1 hz
    obtain ⟨fs, hu, hm⟩ := places_spec hp w
    have hzr : (zeroValue t).run P w = .ok (.agg zs.toArray) w := by simp [zeroValue, typeInfo, hi, hiz]
    have hfill := fill_fillL (place := (ps.toArray[·]?)) (fun i o h => by simpa using h) vs zs out ho
    have hpv : (parts.toArray.map fun (x : Nat × Operand) => (x.1, a.eval x.2)) = vs.toArray := by rw [List.map_toArray, hv.map hf]
    have hb : (Instr.build t vs.toArray).run P w = .ok (.agg out.toArray) w := by
      unfold Instr.build
      rw [Sem.run_bind, hzr]
      simp only [Result.andThen_ok]
      rw [Sem.run_bind, run_underlying hu]
      simp only [Result.andThen_ok]
      rw [Sem.run_bind, hm]
      simp only [Result.andThen_ok, Value.cells, hfill, Sem.run_pure]
    show ((do pure (.value (← Instr.build t (parts.toArray.map fun (x : Nat × Operand) => (x.1, a.eval x.2)))) : Sem Next)).run P w = _
    rw [hpv, Sem.run_bind, hb]
    rfl) rfl hn h
/-- A slice literal. -/
theorem op_buildSlice {parts : List (Nat × Operand)} {vs : List (Nat × Value)} {zv : Value} {out : List Value} {m : Nat} (s : NxA P n l E L ⟨some d, .buildSlice t m parts.toArray, ty, pos, aft, g⟩ X Y) (ht : P.underlying t = some (.slice e)) (hz : zer P e = some zv) (hsz : siz P e = some size) (hv : Pts l parts vs)
    (ho : fillL ((List.range m).map fun i => (i * size, size)) (madeCells zv.cells (m * size)).toList vs = some out) (hlen : out.length = m * size) (hm : Nat.ble (m * size) 16777216 = true) (hm2 : Nat.ble m 16777216 = true) (hn : Nat.ble (d + 1) n = true)
    (h : ∀ N ao, Row N e size ao m m out → At n ((d, .slice ao m m) :: l) E (N :: L) Y) : At n l E L X := by
  have hm' := Nat.le_of_ble_eq_true hm
  refine op_new s (fun v L' => ∃ N ao, v = .slice ao m m ∧ L' = N :: L ∧ Row N e size ao m m out) (fun a w hf hw => ?_) rfl hn (fun v L' ⟨N, ao, hv, hL, hB⟩ => by subst hv; subst hL; exact h N ao hB)
  obtain ⟨i, hi, hiz⟩ := Option.bind_eq_some_iff.1 hz
  obtain ⟨i', hi', hs'⟩ := Option.map_eq_some_iff.1 hsz
  rw [hi] at hi'; cases hi'
  have hzr : (zeroValue e).run P w = .ok zv w := by simp [zeroValue, typeInfo, hi, hiz]
  have hpv : (parts.toArray.map fun (x : Nat × Operand) => (x.1, a.eval x.2)) = vs.toArray := by rw [List.map_toArray, hv.map hf]
  have hfill := fill_fillL (place := fun i => some (i * size, size)) (fun i o h => by
    rw [List.getElem?_map, Option.map_eq_some_iff] at h
    obtain ⟨i', hi', rfl⟩ := h
    have := List.getElem?_eq_some_iff.1 hi'
    obtain ⟨h1, h2⟩ := this
    simp at h2; subst h2; rfl) vs _ out ho
  refine ⟨_, _, _, ?_, Agree.alloc w (.cells out.toArray e), hw.alloc _, single w.heap.size (.cells out.toArray e), some ⟨w.heap.size, 0, none⟩, rfl, rfl, ⟨hlen, Nat.le_refl _, ?_, .inr ⟨w.heap.size, _, rfl, single_self _ _, by simpa using hlen, by simp [← hlen]⟩⟩⟩
  · show ((do pure (.value (← Instr.buildSlice t m (parts.toArray.map fun (x : Nat × Operand) => (x.1, a.eval x.2)))) : Sem Next)).run P w = _
    rw [hpv, Sem.run_bind]
    have hb : (Instr.buildSlice t m vs.toArray).run P w = .ok (.slice (some ⟨w.heap.size, 0, none⟩) m m) (w.alloc (.cells out.toArray e)) := by
      have hbig : ¬ m * size > 2 ^ 24 := by omega
      unfold Instr.buildSlice
      simp only [Sem.run_bind, run_underlying ht, Result.andThen_ok, run_sizeOf hi, hs', if_neg hbig, Sem.run_pure]
      by_cases h0 : m * size = 0
      · have e1 : (madeCells zv.cells (m * size)) = #[] := by rw [h0]; simp [madeCells]
        rw [e1] at hfill
        have hfill' : Instr.fill (fun i => some (i * size, size)) #[] vs = some out.toArray := hfill
        have e0 : ∀ a : Array Value, ((Array.range 0).map fun x => a[x % a.size]!) = #[] := fun a => by simp
        simp only [h0, if_true, Sem.run_pure, Result.andThen_ok, e0, hfill', Sem.run_bind, newRow]
        rfl
      · simp only [if_neg h0, Sem.run_bind, hzr, Result.andThen_ok, Sem.run_pure]
        have e1 : ((Array.range (m * size)).map fun x => zv.cells[x % zv.cells.size]!) = madeCells zv.cells (m * size) := rfl
        rw [e1]
        have hfill' : Instr.fill (fun i => some (i * size, size)) (madeCells zv.cells (m * size)) vs = some out.toArray := by simpa using hfill
        simp only [hfill', Sem.run_bind, newRow, Sem.run_pure]
        rfl
    rw [hb]
    rfl
  · have := Nat.le_of_ble_eq_true hm2
    unfold maxLen; omega
end
end Go.Proofs.YtdplcfineaikjaaDoor
/- The engine, part 8: parts of slices. For whatever program. No condition. -/
namespace Go.Proofs.YtdplcfineaikjaaDoor
set_option linter.unusedVariables false
set_option linter.unusedSimpArgs false
open Go Go.RowKit
theorem sadr_zero (ao : Option Addr) (m s : Nat) : sadr ao 0 m s = ao := by
  unfold sadr
  split
  · rfl
  · cases ao with
    | none => rfl
    | some a => simp [Addr.add]
section
variable {P : Program} {n : Nat} {l l' : List (Nat × Value)} {E : World} {L L1 Ls : List Heaplet} {o : Oper} {X Y K : Act → World → Prop} {N : Heaplet} {Q : Exit → Act → World → Prop}
variable {d : Nat} {ty t t' e : TypeId} {pos : String} {aft : Array Edge} {g : Option (Nat × Bool)} {v : Value} {x y z : Operand} {k : IntKind} {p q : Int} {size len cap : Nat} {ao : Option Addr} {xs : List Value} {b off j : Nat}
theorem op_slice0 {hi mx : Option Operand} {y' z' : Nat} (s : NxF P n l E L Ls ⟨some d, .slice t x none hi mx, ty, pos, aft, g⟩ X Y) (ht : selt P t = some (e, size)) (hx : ev l x = some (.slice ao len cap)) (hhi : Bd l hi len y') (hmx : Bd l mx cap z') (h2 : y' ≤ z') (h3 : z' ≤ cap)
    (hm : mx.isSome = true → hi.isSome = true) (hn : Nat.ble (d + 1) n = true) (h : At n ((d, .slice ao y' z') :: l) E L Y) : At n l E L X :=
  op_slice s ht hx .none hhi hmx (Nat.zero_le _) h2 h3 hm hn (by rw [sadr_zero]; exact h)
theorem RSl.isSome {N : Heaplet} {size : Nat} {ao : Option Addr} {n cap : Nat} {xs : List Value} (h : RSl N size ao n cap xs) (h0 : 0 < n) : ao.isSome = true := by
  obtain ⟨b, off, rfl, _⟩ := h.2.2.2 h0; rfl
theorem RSl.take {N : Heaplet} {size : Nat} {ao : Option Addr} {n cap : Nat} {xs : List Value} (h : RSl N size ao n cap xs) {hi m : Nat} (h2 : hi ≤ m) (h3 : m ≤ cap) (h4 : hi ≤ n) : RSl N size ao hi m (xs.take (hi * size)) := by
  have := h.part (Nat.zero_le hi) h2 h3 h4
  simpa [sadr_zero] using this
theorem RSl.drop {N : Heaplet} {size : Nat} {ao : Option Addr} {n cap : Nat} {xs : List Value} (h : RSl N size ao n cap xs) {lo : Nat} (h4 : lo ≤ n) : RSl N size (sadr ao lo cap size) (n - lo) (cap - lo) (xs.drop (lo * size)) := by
  have := h.part h4 h.2.1 (Nat.le_refl _) (Nat.le_refl _)
  rwa [List.take_of_length_le (by rw [List.length_drop, h.1, Nat.sub_mul]; exact Nat.le_refl _)] at this
theorem u8s_take (l : List UInt8) (k : Nat) : (u8s l).take k = u8s (l.take k) := by simp [u8s]
theorem u8s_drop (l : List UInt8) (k : Nat) : (u8s l).drop k = u8s (l.drop k) := by simp [u8s]
theorem u64s_takeR (l : List UInt64) (k : Nat) : (u64s l).take k = u64s (l.take k) := by simp [u64s]
theorem u64s_drop (l : List UInt64) (k : Nat) : (u64s l).drop k = u64s (l.drop k) := by simp [u64s]
theorem u32s_take (l : List UInt32) (k : Nat) : (u32s l).take k = u32s (l.take k) := by simp [u32s]
theorem u32s_drop (l : List UInt32) (k : Nat) : (u32s l).drop k = u32s (l.drop k) := by simp [u32s]
theorem RSl.take8 {N : Heaplet} {ao : Option Addr} {n cap : Nat} {bs : List UInt8} (h : RSl N 1 ao n cap (u8s bs)) {hi m : Nat} (h2 : hi ≤ m) (h3 : m ≤ cap) (h4 : hi ≤ n) : RSl N 1 ao hi m (u8s (bs.take hi)) := by
  have := h.take h2 h3 h4; rwa [Nat.mul_one, u8s_take] at this
theorem RSl.drop8 {N : Heaplet} {ao : Option Addr} {n cap : Nat} {bs : List UInt8} (h : RSl N 1 ao n cap (u8s bs)) {lo : Nat} (h4 : lo ≤ n) : RSl N 1 (sadr ao lo cap 1) (n - lo) (cap - lo) (u8s (bs.drop lo)) := by
  have := h.drop h4; rwa [Nat.mul_one, u8s_drop] at this
theorem RSl.part8 {N : Heaplet} {ao : Option Addr} {n cap : Nat} {bs : List UInt8} (h : RSl N 1 ao n cap (u8s bs)) {lo hi m : Nat} (h1 : lo ≤ hi) (h2 : hi ≤ m) (h3 : m ≤ cap) (h4 : hi ≤ n) : RSl N 1 (sadr ao lo m 1) (hi - lo) (m - lo) (u8s ((bs.drop lo).take (hi - lo))) := by
  have := h.part h1 h2 h3 h4; rwa [Nat.mul_one, Nat.mul_one, u8s_drop, u8s_take] at this
theorem RSl.len8 {N : Heaplet} {ao : Option Addr} {n cap : Nat} {bs : List UInt8} (h : RSl N 1 ao n cap (u8s bs)) : bs.length = n := by simpa using h.len
theorem RSl.len64 {N : Heaplet} {ao : Option Addr} {n cap : Nat} {bs : List UInt64} (h : RSl N 1 ao n cap (u64s bs)) : bs.length = n := by simpa using h.len
theorem RSl.len32 {N : Heaplet} {ao : Option Addr} {n cap : Nat} {bs : List UInt32} (h : RSl N 1 ao n cap (u32s bs)) : bs.length = n := by simpa using h.len
theorem RSl.cap63 {N : Heaplet} {size : Nat} {ao : Option Addr} {n cap : Nat} {xs : List Value} (h : RSl N size ao n cap xs) : n ≤ cap ∧ cap ≤ 9223372036854775807 := ⟨h.2.1, h.2.2.1⟩
end
/-! What was proved of a call in the elder words. -/
theorem Fn.of_ret {P : Program} {f : FuncId} {args : Array Value} {Lr : List Heaplet} {R : Value → World → Prop} {Post : Value → List Heaplet → Prop}
    (h : ∀ w, (∀ N ∈ Lr, N.le (whole w)) → Calls P f args w (Ret w R))
    (hp : ∀ w v w', R v w' → Below w.heap.size w w' → ∃ L1, Post v L1 ∧ (∀ N ∈ L1, N.le (whole w') ∧ ∀ k o, N k = some o → w.heap.size ≤ k) ∧ L1.Pairwise Apart) : Fn P f args [] Lr Post := by
  intro E w R hw hr
  refine (h w fun N hN => Heaplet.le_trans (hr N hN) (hw.sub R (by simp))).mono ?_
  rintro e w' ⟨v, rfl, hR, hb⟩
  obtain ⟨L1, h1, h2, h3⟩ := hp w v w' hR hb
  refine ⟨v, L1, rfl, h1, hb.os.trans hw.os, hb.tape.trans hw.tape, hb.output.trans hw.output, fun N hN => ?_, ?_⟩
  · rcases List.mem_append.1 hN with hN | hN
    · exact (h2 N hN).1
    · simp at hN; subst hN
      intro k o hk
      have hlt := hw.lt (List.mem_append_right _ (List.mem_singleton.2 rfl)) hk
      exact (hb.block k hlt).trans (hw.sub _ (by simp) k o hk)
  · rw [List.pairwise_append]
    refine ⟨h3, by simp, fun A hA B hB k => ?_⟩
    simp at hB; subst hB
    cases hk : A k with
    | none => exact .inl rfl
    | some o =>
      right
      cases hm : B k with
      | none => rfl
      | some o' =>
        have := hw.lt (List.mem_append_right _ (List.mem_singleton.2 rfl)) hm
        have := (h2 A hA).2 k o hk
        omega
/-- It gives bytes (or limbs) in a slice that owns its block. -/
theorem Fn.of_ownb {P : Program} {f : FuncId} {args : Array Value} {Lr : List Heaplet} {e : TypeId} {xs : List Value} (h : ∀ w, (∀ N ∈ Lr, N.le (whole w)) → Calls P f args w (Ret w (OwnB w.heap.size e xs))) :
    Fn P f args [] Lr (fun v L => ∃ N ao cap, v = .slice ao xs.length cap ∧ L = [N] ∧ Row N e 1 ao xs.length cap xs) := by
  intro E w R hw hr
  refine (h w fun N hN => Heaplet.le_trans (hr N hN) (hw.sub R (by simp))).mono ?_
  rintro e w' ⟨v, rfl, ⟨ao, cap, rfl, ho⟩, hb⟩
  have ho0 := owns_mono ho (Nat.zero_le _)
  have hbase : ∀ b, ao = some b → w.heap.size ≤ b.block := fun b hb' => by
    obtain ⟨_, ⟨hv, _⟩ | ⟨g, cap', cur, hv, hg, _⟩⟩ := ho
    · subst hb'; cases hv
    · subst hb'
      simp only [Value.slice.injEq, Option.some.injEq] at hv
      obtain ⟨rfl, _⟩ := hv
      exact hg
  have hR : Hp E [R] w' := by
    refine ⟨hb.os.trans hw.os, hb.tape.trans hw.tape, hb.output.trans hw.output, fun N hN k o hk => ?_, by simp⟩
    simp at hN; subst hN
    have hlt := hw.lt (List.mem_append_right _ (List.mem_singleton.2 rfl)) hk
    exact (hb.block k hlt).trans (hw.sub _ (by simp) k o hk)
  rcases owns_row ho0 with ⟨rfl, hrow⟩ | ⟨b, cur, rfl, hheap, hrow⟩
  · refine ⟨_, [fun _ => none], rfl, ⟨_, _, _, rfl, rfl, hrow _⟩, ⟨hR.os, hR.tape, hR.output, fun N hN => ?_, ?_⟩⟩
    · rcases List.mem_cons.1 hN with rfl | hN
      · intro k o hk; cases hk
      · exact hR.sub N hN
    · simp [Apart]
  · refine ⟨_, [single b (.cells cur e (0, 0))], rfl, ⟨_, _, _, rfl, rfl, hrow _ (single_self _ _)⟩, ⟨hR.os, hR.tape, hR.output, fun N hN => ?_, ?_⟩⟩
    · rcases List.mem_cons.1 hN with rfl | hN
      · intro k o hk
        unfold single at hk
        split at hk
        · rename_i e; subst e; cases hk; exact hheap
        · cases hk
      · exact hR.sub N hN
    · simp only [List.cons_append, List.nil_append, List.pairwise_cons, List.mem_singleton, List.not_mem_nil, false_imp_iff, implies_true, and_true, List.Pairwise.nil, forall_eq]
      intro k
      unfold single
      split
      · rename_i e
        right
        cases hm : R k with
        | none => rfl
        | some o' =>
          have h1 := hw.lt (List.mem_append_right _ (List.mem_singleton.2 rfl)) hm
          have h2 := hbase _ rfl
          simp at h2
          omega
      · exact .inl rfl
end Go.Proofs.YtdplcfineaikjaaDoor
/- The engine, part 9: interfaces, byte strings out of literals, pointers. For whatever program. No condition. -/
namespace Go.Proofs.YtdplcfineaikjaaDoor
set_option linter.unusedVariables false
set_option linter.unusedSimpArgs false
open Go Go.RowKit
def isIfc (P : Program) (t : TypeId) : Bool := match P.underlying t with
  | some (.interface _) => true
  | _ => false
def notIfc (P : Program) (t : TypeId) : Bool := match P.underlying t with
  | some (.interface _) => false
  | none => false
  | _ => true
section
variable {P : Program} {n : Nat} {l l' : List (Nat × Value)} {E : World} {L L1 Ls : List Heaplet} {o : Oper} {X Y K : Act → World → Prop} {N : Heaplet} {Q : Exit → Act → World → Prop}
variable {d : Nat} {ty t t' e : TypeId} {pos : String} {aft : Array Edge} {g : Option (Nat × Bool)} {v : Value} {x y z : Operand} {k : IntKind} {p q : Int} {size len cap : Nat} {ao : Option Addr} {xs : List Value} {b off j : Nat}
theorem op_mkI (s : NxF P n l E L Ls ⟨some d, .makeInterface t x, ty, pos, aft, g⟩ X Y) (ht : notIfc P t = true) (hx : ev l x = some v) (hn : Nat.ble (d + 1) n = true) (h : At n ((d, .iface t v) :: l) E L Y) : At n l E L X :=
  op_val s (fun a w hf _ => by
    unfold notIfc at ht
    cases hu : P.underlying t with
    | none => rw [hu] at ht; cases ht
    | some u =>
      rw [hu] at ht
      simp only [execOp, hf.eval hx, Instr.makeInterface, Sem.run_bind, run_underlying hu, Result.andThen_ok]
      cases u <;> first | rfl | cases ht) rfl hn h
theorem run_assert {asserted : TypeId} (ht : notIfc P asserted = true) (w : World) (ok : Bool) : (Instr.typeAssert (.iface t v) ty asserted ok).run P w = if t = asserted then .ok (if ok then .tuple #[v, .bool true] else v) w else (Instr.typeAssert (.iface t v) ty asserted ok).run P w := by
  split
  · rename_i e
    subst e
    unfold notIfc at ht
    cases hu : P.underlying t with
    | none => rw [hu] at ht; cases ht
    | some u =>
      rw [hu] at ht
      simp only [Instr.typeAssert, Sem.run_bind, run_underlying hu, Result.andThen_ok]
      cases u <;> first | (cases ht; done) | (simp; rfl) | simp
  · rfl
theorem op_assertY {tx : TypeId} (s : NxF P n l E L Ls ⟨some d, .typeAssert x tx t true, ty, pos, aft, g⟩ X Y) (ht : notIfc P t = true) (hx : ev l x = some (.iface t v)) (hn : Nat.ble (d + 1) n = true) (h : At n ((d, .tuple #[v, .bool true]) :: l) E L Y) : At n l E L X :=
  op_val s (fun a w hf _ => by simp only [execOp, hf.eval hx, Sem.run_bind]; rw [run_assert ht]; simp) rfl hn h
theorem op_assert1 {tx : TypeId} (s : NxF P n l E L Ls ⟨some d, .typeAssert x tx t false, ty, pos, aft, g⟩ X Y) (ht : notIfc P t = true) (hx : ev l x = some (.iface t v)) (hn : Nat.ble (d + 1) n = true) (h : At n ((d, v) :: l) E L Y) : At n l E L X :=
  op_val s (fun a w hf _ => by simp only [execOp, hf.eval hx, Sem.run_bind]; rw [run_assert ht]; simp) rfl hn h
theorem op_assertN {tx : TypeId} {zv : Value} (s : NxF P n l E L Ls ⟨some d, .typeAssert x tx t true, ty, pos, aft, g⟩ X Y) (ht : notIfc P t = true) (hz : zer P t = some zv) (hx : ev l x = some (.iface t' v)) (hne : (t' == t) = false) (hn : Nat.ble (d + 1) n = true) (h : At n ((d, .tuple #[zv, .bool false]) :: l) E L Y) : At n l E L X :=
  op_val s (fun a w hf _ => by
    obtain ⟨i, hi, hiz⟩ := Option.bind_eq_some_iff.1 hz
    have hzr : (zeroValue t).run P w = .ok zv w := by simp [zeroValue, typeInfo, hi, hiz]
    have hne' : ¬ t' = t := by simpa using hne
    unfold notIfc at ht
    cases hu : P.underlying t with
    | none => rw [hu] at ht; cases ht
    | some u =>
      rw [hu] at ht
      simp only [execOp, hf.eval hx, Instr.typeAssert, Sem.run_bind, run_underlying hu, Result.andThen_ok]
      cases u <;> first | (cases ht; done) | (simp [hne', hzr])) rfl hn h
theorem run_equal_iface_nil (ht : isIfc P t = true) (w : World) : (Op.equal t (.iface t' v) .nilIface).run P w = .ok false w := by
  unfold isIfc at ht
  cases hu : P.underlying t with
  | none => rw [hu] at ht; cases ht
  | some u =>
    rw [hu] at ht
    unfold Op.equal
    show (Op.equalIn (9999 + 1) t _ _).run P w = _
    unfold Op.equalIn
    rw [Sem.run_bind, run_underlying hu]
    cases u <;> first | (cases ht; done) | rfl
theorem run_equal_nil_nil (ht : isIfc P t = true) (w : World) : (Op.equal t .nilIface .nilIface).run P w = .ok true w := by
  unfold isIfc at ht
  cases hu : P.underlying t with
  | none => rw [hu] at ht; cases ht
  | some u =>
    rw [hu] at ht
    unfold Op.equal
    show (Op.equalIn (9999 + 1) t _ _).run P w = _
    unfold Op.equalIn
    rw [Sem.run_bind, run_underlying hu]
    cases u <;> first | (cases ht; done) | rfl
/-- x == nil, x an interface that holds something, or nil. -/
theorem op_eqNilF (s : NxF P n l E L Ls ⟨some d, .binOp .eql t x (.const .nilIface) t', ty, pos, aft, g⟩ X Y) (ht : isIfc P t = true) (hx : ev l x = some (.iface e v)) (hn : Nat.ble (d + 1) n = true) (h : At n ((d, .bool false) :: l) E L Y) : At n l E L X :=
  op_bin s hx rfl (fun w => by simp [eqGuard]) (fun w => by simp [binOp, run_equal_iface_nil ht]) hn h
theorem op_eqNilT (s : NxF P n l E L Ls ⟨some d, .binOp .eql t x (.const .nilIface) t', ty, pos, aft, g⟩ X Y) (ht : isIfc P t = true) (hx : ev l x = some .nilIface) (hn : Nat.ble (d + 1) n = true) (h : At n ((d, .bool true) :: l) E L Y) : At n l E L X :=
  op_bin s hx rfl (fun w => by simp [eqGuard]) (fun w => by simp [binOp, run_equal_nil_nil ht]) hn h
theorem op_nilChk {ad : Addr} (s : NxF P n l E L Ls ⟨some d, .nilCheck x, ty, pos, aft, g⟩ X Y) (hx : ev l x = some (.pointer (some ad))) (hn : Nat.ble (d + 1) n = true) (h : At n ((d, .pointer (some ad)) :: l) E L Y) : At n l E L X :=
  op_val s (fun a w hf _ => by simp [execOp, hf.eval hx]) rfl hn h
/-- []byte of a literal: the block is marked, the bytes stand. -/
theorem op_convB (s : Nx P n l E L ⟨some d, .convert t t x, ty, pos, aft, g⟩ X Y) (ht : P.underlying t = some (.slice e)) (he : P.underlying e = some (.int .u8)) (hx : ev l x = some (.slice ao len cap)) (hr : Row N t' 1 ao len cap xs) (h0 : 0 < len) (sel : L.Perm (N :: L1)) (hn : Nat.ble (d + 1) n = true)
    (h : ∀ N, RSl N 1 ao len cap xs → At n ((d, .slice ao len cap) :: l) E (N :: L1) Y) : At n l E L X := by
  refine op_upd s (fun v L' => ∃ N, v = .slice ao len cap ∧ L' = N :: L1 ∧ RSl N 1 ao len cap xs) (fun a w hf hw => ?_) rfl hn (fun v L' ⟨N, hv, hL, hB⟩ => by subst hv; subst hL; exact h N hB)
  have hw2 := hw.perm sel
  have hr' := hr
  obtain ⟨h1, h2, h3, ⟨rfl, hz, _⟩ | ⟨b, cur, rfl, hN, hcs, htk⟩⟩ := hr
  · omega
  have hheap : w.heap[b]? = some (.cells cur t' (0, 0)) := hw2.sub N (List.mem_cons_self ..) _ _ hN
  let w' := w.freeze ⟨b, cur.size, none⟩ 1
  have hnew : w'.heap[b]? = some (.cells cur t' (cur.size, cur.size + 1)) := by
    simp only [w', World.freeze]
    simp [Array.getElem?_modify, hheap]
  have hold : ∀ k, k ≠ b → k < w.heap.size → w'.heap[k]? = w.heap[k]? := fun k hk _ => by
    simp only [w', World.freeze]
    simp [Array.getElem?_modify, Ne.symm hk]
  refine ⟨_, w', _, ?_, hw2.put (o' := .cells cur t' (cur.size, cur.size + 1)) hN (by simp [w', World.freeze]) (by simp [w', World.freeze]) (by simp [w', World.freeze]) hnew hold, _, rfl, rfl, ?_⟩
  · simp only [execOp, hf.eval hx, convert, Sem.run_bind, run_underlying ht, Result.andThen_ok, run_underlying he]
    have hm : (markStringish ⟨b, 0, none⟩).run P w = .ok () w' := by
      have hsh : w.shape? b = some (t', cur.size) := by simp [World.shape?, hheap]
      simp [markStringish, shape, freeze, Sem.run, hsh, w']
    simp [hm]
  · have hs := hr'.rsl
    obtain ⟨a1, a2, a3, a4⟩ := hs
    refine ⟨a1, a2, a3, fun hp => ?_⟩
    obtain ⟨b', off', e', hrg⟩ := a4 hp
    refine ⟨b', off', e', fun i hi => ?_⟩
    have := hrg i hi
    simp only [Option.some.injEq, Addr.mk.injEq] at e'
    obtain ⟨rfl, rfl, _⟩ := e'
    unfold cellOf at this ⊢
    rw [hN] at this
    rw [upd_self]
    exact this
end
end Go.Proofs.YtdplcfineaikjaaDoor
/- The engine, part 10: slice literals. For whatever program. No condition. -/
namespace Go.Proofs.YtdplcfineaikjaaDoor
set_option linter.unusedVariables false
set_option linter.unusedSimpArgs false
open Go Go.RowKit
/-- The heaplet that holds nothing. -/
def nilH : Heaplet := fun _ => none
theorem At.empty {n : Nat} {l : List (Nat × Value)} {E : World} {L : List Heaplet} {K : Act → World → Prop} (h : At n l E (nilH :: L) K) : At n l E L K := fun a w hf hw => h a w hf
  ⟨hw.os, hw.tape, hw.output, fun N hN => by
    rcases List.mem_cons.1 hN with rfl | hN
    · intro k o hk; cases hk
    · exact hw.sub N hN, by rw [List.pairwise_cons]; exact ⟨fun _ _ _ => .inl rfl, hw.sep⟩⟩
theorem At.mergeN {n : Nat} {l : List (Nat × Value)} {E : World} {L : List Heaplet} {K : Act → World → Prop} {A B : Heaplet} (h : ∀ J : Heaplet, A.le J → B.le J → At n l E (J :: L) K) : At n l E (A :: B :: L) K :=
  At.merge fun hap => h _ join2_left (join2_right hap)
theorem setL_append (vs : List Value) : ∀ (a b c : List Value), b.length = vs.length → setL (a ++ b ++ c) a.length vs = a ++ vs ++ c := by
  induction vs with
  | nil => intro a b c h; simp at h; subst h; simp [setL]
  | cons v t ih =>
    intro a b c h
    cases b with
    | nil => simp at h
    | cons x b =>
      rw [setL]
      have e : (a ++ x :: b ++ c).set a.length v = (a ++ [v]) ++ b ++ c := by simp
      rw [e]
      have := ih (a ++ [v]) b c (by simpa using h)
      rw [List.length_append, List.length_singleton] at this
      rw [this]; simp
def flatV (vs : List (Nat × Value)) : List Value := vs.flatMap fun p => p.2.cells.toList
theorem fillL_all (size m : Nat) : ∀ (vs : List (Nat × Value)) (k : Nat) (a zs : List Value), vs.map (·.1) = List.range' k vs.length → k + vs.length ≤ m → (∀ p ∈ vs, p.2.cells.toList.length = size) → a.length = k * size → zs.length = vs.length * size →
    fillL ((List.range m).map fun i => (i * size, size)) (a ++ zs) vs = some (a ++ flatV vs) := by
  intro vs
  induction vs with
  | nil => intro k a zs _ _ _ _ h; simp at h; subst h; simp [fillL, flatV]
  | cons p t ih =>
    intro k a zs hi hm hs ha hz
    obtain ⟨i, v⟩ := p
    simp only [List.map_cons, List.length_cons, List.range'_succ, List.cons.injEq] at hi
    obtain ⟨rfl, hi⟩ := hi
    simp only [List.length_cons] at hm hz
    have hv := hs _ (List.mem_cons_self ..)
    simp only at hv
    have hget : ((List.range m).map fun i => (i * size, size))[i]? = some (i * size, size) := by
      rw [List.getElem?_map, List.getElem?_range (by omega)]; rfl
    have hz' : size ≤ zs.length := by rw [hz, Nat.add_mul]; omega
    have hcond : v.cells.toList.length = size ∧ i * size + v.cells.toList.length ≤ (a ++ zs).length := by
      rw [List.length_append]; omega
    have hset : setL (a ++ zs) (i * size) v.cells.toList = (a ++ v.cells.toList) ++ zs.drop size := by
      have := setL_append v.cells.toList a (zs.take size) (zs.drop size) (by rw [List.length_take]; omega)
      rw [List.append_assoc, List.take_append_drop, ha] at this
      exact this
    have hrec := ih (i + 1) (a ++ v.cells.toList) (zs.drop size) hi (by omega) (fun q hq => hs q (List.mem_cons_of_mem _ hq)) (by rw [List.length_append, ha, hv, Nat.add_mul, Nat.one_mul]) (by rw [List.length_drop, hz, Nat.add_mul]; omega)
    simp only [fillL, hget, if_pos hcond, hset, hrec]
    simp [flatV]
section
variable {P : Program} {n : Nat} {l l' : List (Nat × Value)} {E : World} {L L1 : List Heaplet} {X Y : Act → World → Prop} {d : Nat} {ty t e : TypeId} {pos : String} {aft : Array Edge} {g : Option (Nat × Bool)} {size : Nat}
theorem length_flatV {vs : List (Nat × Value)} (h : ∀ p ∈ vs, p.2.cells.toList.length = size) : (flatV vs).length = vs.length * size := by
  induction vs with
  | nil => simp [flatV]
  | cons p t ih =>
    have h1 := h p (List.mem_cons_self ..)
    have h2 := ih fun q hq => h q (List.mem_cons_of_mem _ hq)
    simp only [flatV, List.flatMap_cons, List.length_append, List.length_cons] at h2 ⊢
    rw [h1, h2, Nat.add_mul, Nat.one_mul, Nat.add_comm]
/-- A slice literal, all of whose places are written out. -/
theorem op_lit {parts : List (Nat × Operand)} {vs : List (Nat × Value)} {zv : Value} {m : Nat} (s : NxA P n l E L ⟨some d, .buildSlice t m parts.toArray, ty, pos, aft, g⟩ X Y) (ht : P.underlying t = some (.slice e)) (hz : zer P e = some zv) (hsz : siz P e = some size) (hv : Pts l parts vs)
    (hi : vs.map (·.1) = List.range' 0 vs.length) (hm0 : vs.length = m) (hs : ∀ p ∈ vs, p.2.cells.toList.length = size) (hm : Nat.ble (m * size) 16777216 = true) (hm2 : Nat.ble m 16777216 = true) (hn : Nat.ble (d + 1) n = true)
    (h : ∀ N ao, Row N e size ao m m (flatV vs) → At n ((d, .slice ao m m) :: l) E (N :: L) Y) : At n l E L X := by
  refine op_buildSlice s ht hz hsz hv (out := flatV vs) ?_ (by rw [length_flatV hs, hm0]) hm hm2 hn h
  have := fillL_all size m vs 0 [] (madeCells zv.cells (m * size)).toList hi (by omega) hs (by simp) (by rw [Array.length_toList, size_madeCells, hm0])
  simpa using this
end
end Go.Proofs.YtdplcfineaikjaaDoor
/- The engine, part 11: what is guarded by what was left out is left out. For whatever program. No condition. -/
namespace Go.Proofs.YtdplcfineaikjaaDoor
set_option linter.unusedVariables false
set_option linter.unusedSimpArgs false
open Go Go.RowKit
section
variable {P : Program} {n : Nat} {l : List (Nat × Value)} {E : World} {L : List Heaplet} {Q : Exit → Act → World → Prop} {ops : Array Oper} {rest : List Oper} {o : Oper}
theorem unwanted_of {j : Nat} {b : Bool} {oj : Oper} {d : Nat} {ds : List Deferred} {a : Act} (hf : Fr ds n l a) (hg : o.guard = some (j, b)) (hj : ops[j]? = some oj) (hd : oj.dst = some d) (hv : lk l d = some undef) : Region.wanted o (yielded ops a.tmps) = false := by
  have := hf.get d _ hv
  simp [Region.wanted, hg, yielded, hj, hd, this, undef]
theorem op_skipU {j : Nat} {b : Bool} {oj : Oper} {d e : Nat} (hg : o.guard = some (j, b)) (hj : ops[j]? = some oj) (hd : oj.dst = some d) (hv : lk l d = some undef) (he : o.dst = some e) (hn : Nat.ble (e + 1) n = true)
    (h : At n ((e, undef) :: l) E L (wpList P ops Q rest)) : At n l E L (wpList P ops Q (o :: rest)) := fun a w hf hw =>
  wpList_step fun K hK => by
    rw [unwanted_of hf hg hj hd hv]
    simp only [Bool.false_eq_true, if_false]
    rw [he]
    exact hK _ _ (h _ _ (hf.put (Nat.le_of_ble_eq_true hn)) hw)
theorem op_oskipU {i : Nat} {is : List Nat} {sink : Nat → Bool} {j : Nat} {b : Bool} {oj : Oper} {d e : Nat} (ho : ops[i]? = some o) (hg : o.guard = some (j, b)) (hj : ops[j]? = some oj) (hd : oj.dst = some d) (hv : lk l d = some undef) (he : o.dst = some e) (hn : Nat.ble (e + 1) n = true)
    (h : At n ((e, undef) :: l) E L (wpOne P ops sink Q is)) : At n l E L (wpOne P ops sink Q (i :: is)) := fun a w hf hw =>
  wpOne_skip ho (unwanted_of hf hg hj hd hv) (by rw [he]; exact h _ _ (hf.put (Nat.le_of_ble_eq_true hn)) hw)
theorem op_sskipU {i : Nat} {is : List Nat} {sink : Nat → Bool} {S : World → Prop} {j : Nat} {b : Bool} {oj : Oper} {d e : Nat} (ho : ops[i]? = some o) (hg : o.guard = some (j, b)) (hj : ops[j]? = some oj) (hd : oj.dst = some d) (hv : lk l d = some undef) (he : o.dst = some e) (hn : Nat.ble (e + 1) n = true)
    (h : At n ((e, undef) :: l) E L (St.wpOne P ops S sink Q is)) : At n l E L (St.wpOne P ops S sink Q (i :: is)) := fun a w hf hw =>
  St.wpOne_skip ho (unwanted_of hf hg hj hd hv) (by rw [he]; exact h _ _ (hf.put (Nat.le_of_ble_eq_true hn)) hw)
end
end Go.Proofs.YtdplcfineaikjaaDoor
/- The engine, part 12: words' other operations, copy, functions as values. For whatever program. No condition. -/
namespace Go.Proofs.YtdplcfineaikjaaDoor
set_option linter.unusedVariables false
set_option linter.unusedSimpArgs false
open Go Go.RowKit
theorem ofInt_u64 (x : UInt64) : BitVec.ofInt 64 (x.toNat : Int) = x.toBitVec := by
  apply BitVec.eq_of_toNat_eq
  rw [BitVec.toNat_ofInt, UInt64.toNat_toBitVec]
  have := x.toNat_lt
  omega
theorem bits_andNot_u64 (x y : UInt64) : bits .andNot .u64 (x.toNat : Int) (y.toNat : Int) = ((x &&& ~~~y).toNat : Int) := by
  have e : bits .andNot .u64 (x.toNat : Int) (y.toNat : Int) = IntKind.u64.wrap ((BitVec.ofInt 64 (x.toNat : Int) &&& ~~~(BitVec.ofInt 64 (y.toNat : Int))).toNat : Int) := rfl
  rw [e, ofInt_u64, ofInt_u64, IntKind.wrap_u64]
  have h : (x.toBitVec &&& ~~~y.toBitVec).toNat = (x &&& ~~~y).toNat := rfl
  rw [h]
  have := (x &&& ~~~y).toNat_lt
  omega
theorem bits_comp_u64 (x : UInt64) : bits .xor .u64 18446744073709551615 (x.toNat : Int) = ((~~~x).toNat : Int) := by
  have h := bits_xor_u64 18446744073709551615 x
  have e : ((18446744073709551615 : UInt64).toNat : Int) = 18446744073709551615 := rfl
  rw [e] at h
  rw [h]
  congr 2
section
variable {P : Program} {n : Nat} {l : List (Nat × Value)} {E : World} {L L1 Ls : List Heaplet} {o : Oper} {X Y : Act → World → Prop} {N M : Heaplet}
variable {d : Nat} {ty t t' t2 e e2 : TypeId} {pos : String} {aft : Array Edge} {g : Option (Nat × Bool)} {v : Value} {x y z : Operand} {k : IntKind} {p q : Int} {b off : Nat}
theorem op_andNotU {a b : UInt64} (s : NxF P n l E L Ls ⟨some d, .binOp .andNot t x y t', ty, pos, aft, g⟩ X Y) (hx : ev l x = some (.int .u64 (a.toNat : Int))) (hy : ev l y = some (.int .u64 (b.toNat : Int))) (hn : Nat.ble (d + 1) n = true) (h : At n ((d, .int .u64 ((a &&& ~~~b).toNat : Int)) :: l) E L Y) : At n l E L X :=
  op_bits (.inr (.inr (.inr rfl))) s hx hy hn (by rw [bits_andNot_u64]; exact h)
theorem op_compU {a : UInt64} (s : NxF P n l E L Ls ⟨some d, .unOp .xor t x, ty, pos, aft, g⟩ X Y) (hx : ev l x = some (.int .u64 (a.toNat : Int))) (hn : Nat.ble (d + 1) n = true) (h : At n ((d, .int .u64 ((~~~a).toNat : Int)) :: l) E L Y) : At n l E L X :=
  op_val s (fun a' w hf _ => by
    simp only [execOp, hf.eval hx, Op.unary]
    have e : Op.intBits .xor .u64 (if IntKind.u64.signed = true then -1 else IntKind.u64.max) (a.toNat : Int) = (pure (.int .u64 ((~~~a).toNat : Int)) : Sem Value) := by
      rw [intBits_xor, ← bits_comp_u64]; rfl
    rw [e]; rfl) rfl hn h
theorem op_quoU {a b : UInt64} (s : NxF P n l E L Ls ⟨some d, .binOp .quo t x y t', ty, pos, aft, g⟩ X Y) (hx : ev l x = some (.int .u64 (a.toNat : Int))) (hy : ev l y = some (.int .u64 (b.toNat : Int))) (hb : b.toNat ≠ 0) (hn : Nat.ble (d + 1) n = true) (h : At n ((d, .int .u64 ((a / b).toNat : Int)) :: l) E L Y) : At n l E L X :=
  op_int s hx hy (fun w => by
    have e : (b.toNat : Int) ≠ 0 := by omega
    have e1 : (a.toNat : Int).tdiv b.toNat = ((a / b).toNat : Int) := by
      rw [Int.tdiv_eq_ediv_of_nonneg (by omega), UInt64.toNat_div]; simp
    have e2 : IntKind.u64.wrap ((a / b).toNat : Int) = ((a / b).toNat : Int) := by
      rw [IntKind.wrap_u64]; have := (a / b).toNat_lt; omega
    have e0 : binOp .quo t (.int .u64 (a.toNat : Int)) (.int .u64 (b.toNat : Int)) = Op.intDiv .quo .u64 (a.toNat : Int) (b.toNat : Int) := by simp [binOp]
    rw [e0]
    unfold Op.intDiv
    rw [if_neg e]
    simp only [Sem.run_pure, e1, e2]) hn h
theorem op_remU {a b : UInt64} (s : NxF P n l E L Ls ⟨some d, .binOp .rem t x y t', ty, pos, aft, g⟩ X Y) (hx : ev l x = some (.int .u64 (a.toNat : Int))) (hy : ev l y = some (.int .u64 (b.toNat : Int))) (hb : b.toNat ≠ 0) (hn : Nat.ble (d + 1) n = true) (h : At n ((d, .int .u64 ((a % b).toNat : Int)) :: l) E L Y) : At n l E L X :=
  op_rem s hx hy (by omega) (by omega) hn (by
    rw [show (a.toNat : Int) % b.toNat = ((a % b).toNat : Int) from by rw [UInt64.toNat_mod]; simp]
    exact h)
/-- copy into a block that is known whole. -/
theorem op_copyB {cs ys : List Value} {dl dc m cap' : Nat} {ao' : Option Addr} (s : Nx P n l E L ⟨some d, .call ⟨.builtin .copy, #[x, y], #[t, t2]⟩, ty, pos, aft, g⟩ X Y) (ht : selt P t = some (e, 1))
    (hx : ev l x = some (.slice (some ⟨b, off, none⟩) dl dc)) (hy : ev l y = some (.slice ao' m cap')) (hb : Blk N b e2 cs) (hs : RSl M 1 ao' m cap' ys) (hM : M ∈ L) (h1 : ∀ u ∈ ys, u.oneCell' = true) (hfit : off + min m dl ≤ cs.length) (sel : L.Perm (N :: L1)) (hn : Nat.ble (d + 1) n = true)
    (h : ∀ N', Blk N' b e2 (cs.take off ++ ys.take (min m dl) ++ cs.drop (off + min m dl)) → At n ((d, .int .i64 ((min m dl : Nat) : Int)) :: l) E (N' :: L1) Y) : At n l E L X := by
  obtain ⟨hu, i, hi, hsz⟩ := selt_spec ht
  have hlen : ys.length = m := hs.len
  refine op_upd s (fun v L' => ∃ N', v = .int .i64 ((min m dl : Nat) : Int) ∧ L' = N' :: L1 ∧ Blk N' b e2 (cs.take off ++ ys.take (min m dl) ++ cs.drop (off + min m dl))) (fun a w hf hw => ?_) rfl hn (fun v L' ⟨N', e1, e2, hb'⟩ => by subst e1 e2; exact h N' hb')
  have hw2 := hw.perm sel
  have hheap := hw2.sub N (List.mem_cons_self ..) _ _ hb
  have hres : ∀ u w', (Builtin.copy_ #[t, t2] ty #[.slice (some ⟨b, off, none⟩) dl dc, .slice ao' m cap']).run P w = .ok u w' → (execOp a.eval ⟨some d, .call ⟨.builtin .copy, #[x, y], #[t, t2]⟩, ty, pos, aft, g⟩).run P w = .ok (.value u) w' := fun u w' hr => by
    simp only [execOp, resolve, invoke, builtin, Sem.run_bind, Sem.run_pure, Result.andThen_ok, List.map_toArray, List.map_cons, List.map_nil, hf.eval hx, hf.eval hy, hr]
  by_cases h0 : min m dl = 0
  · have hr := run_copy_none (P := P) w t t2 ty e (some ⟨b, off, none⟩) ao' dl dc m cap' hu (by rw [hi]; simp [hsz]) h0
    refine ⟨_, w, N :: L1, hres _ _ hr, hw2, N, by rw [h0]; rfl, rfl, ?_⟩
    rw [h0, List.take_zero, List.append_nil, Nat.add_zero, List.take_append_drop]; exact hb
  · obtain ⟨b', off', rfl, hr'⟩ := hs.2.2.2 (by omega)
    have hsrc : ∀ j v, (ys.take (min m dl))[j]? = some v → w.cell? ((⟨b', off', none⟩ : Addr).add j) = some v := fun j v hj => by
      rw [List.getElem?_take] at hj
      split at hj
      · obtain ⟨hlt, rfl⟩ := List.getElem?_eq_some_iff.1 hj
        rw [addr_add]; exact hw.cell hM (hr' j hlt)
      · cases hj
    have hlt : (ys.take (min m dl)).length = min m dl := by rw [List.length_take]; omega
    have hr := run_copy_row (P := P) w t t2 ty e b off dl dc ⟨b', off', none⟩ m cap' cs.toArray e2 (ys.take (min m dl)) hu (by rw [hi]; simp [hsz]) hheap (by rw [hlt]) hsrc (by rw [hlt]; simpa using hfit) (fun u hu => h1 u (List.mem_of_mem_take hu))
    rw [hlt] at hr
    refine ⟨_, _, upd N b (.cells (cs.take off ++ ys.take (min m dl) ++ cs.drop (off + min m dl)).toArray e2 (0, 0)) :: L1, hres _ _ hr, ?_, _, rfl, rfl, upd_self _ _ _⟩
    refine hw2.put hb rfl rfl rfl ?_ (fun k hk _ => ?_)
    · have := setRow_heap w b cs.toArray (cs.take off ++ ys.take (min m dl) ++ cs.drop (off + min m dl)).toArray e2 (0, 0) hheap
      simpa using this
    · simp only [World.setRow, Array.getElem?_modify, if_neg (Ne.symm hk)]
/-- copy into a slice that owns its block. -/
theorem op_copyR {xs ys : List Value} {dl dc m cap' : Nat} {ao ao' : Option Addr} (s : Nx P n l E L ⟨some d, .call ⟨.builtin .copy, #[x, y], #[t, t2]⟩, ty, pos, aft, g⟩ X Y) (ht : selt P t = some (e, 1))
    (hx : ev l x = some (.slice ao dl dc)) (hy : ev l y = some (.slice ao' m cap')) (hb : Row N e2 1 ao dl dc xs) (hs : RSl M 1 ao' m cap' ys) (hM : M ∈ L) (h1 : ∀ u ∈ ys, u.oneCell' = true) (sel : L.Perm (N :: L1)) (hn : Nat.ble (d + 1) n = true)
    (h : ∀ N', Row N' e2 1 ao dl dc (ys.take (min m dl) ++ xs.drop (min m dl)) → At n ((d, .int .i64 ((min m dl : Nat) : Int)) :: l) E (N' :: L1) Y) : At n l E L X := by
  obtain ⟨hu, i, hi, hsz⟩ := selt_spec ht
  have hlen : ys.length = m := hs.len
  have hxl : xs.length = dl := hb.rsl.len
  refine op_upd s (fun v L' => ∃ N', v = .int .i64 ((min m dl : Nat) : Int) ∧ L' = N' :: L1 ∧ Row N' e2 1 ao dl dc (ys.take (min m dl) ++ xs.drop (min m dl))) (fun a w hf hw => ?_) rfl hn (fun v L' ⟨N', e1, e2, hb'⟩ => by subst e1 e2; exact h N' hb')
  have hw2 := hw.perm sel
  have hres : ∀ u w', (Builtin.copy_ #[t, t2] ty #[.slice ao dl dc, .slice ao' m cap']).run P w = .ok u w' → (execOp a.eval ⟨some d, .call ⟨.builtin .copy, #[x, y], #[t, t2]⟩, ty, pos, aft, g⟩).run P w = .ok (.value u) w' := fun u w' hr => by
    simp only [execOp, resolve, invoke, builtin, Sem.run_bind, Sem.run_pure, Result.andThen_ok, List.map_toArray, List.map_cons, List.map_nil, hf.eval hx, hf.eval hy, hr]
  by_cases h0 : min m dl = 0
  · have hr := run_copy_none (P := P) w t t2 ty e ao ao' dl dc m cap' hu (by rw [hi]; simp [hsz]) h0
    refine ⟨_, w, N :: L1, hres _ _ hr, hw2, N, by rw [h0]; rfl, rfl, ?_⟩
    rw [h0, List.take_zero, List.nil_append, List.drop_zero]; exact hb
  · obtain ⟨b', off', rfl, hr'⟩ := hs.2.2.2 (by omega)
    obtain ⟨r1, r2, r3, r4⟩ := hb
    rcases r4 with ⟨_, h5, _⟩ | ⟨b, cur, rfl, hN, hcs, htk⟩
    · omega
    have hheap := hw2.sub N (List.mem_cons_self ..) _ _ hN
    have hsrc : ∀ j v, (ys.take (min m dl))[j]? = some v → w.cell? ((⟨b', off', none⟩ : Addr).add j) = some v := fun j v hj => by
      rw [List.getElem?_take] at hj
      split at hj
      · obtain ⟨hlt, rfl⟩ := List.getElem?_eq_some_iff.1 hj
        rw [addr_add]; exact hw.cell hM (hr' j hlt)
      · cases hj
    have hlt : (ys.take (min m dl)).length = min m dl := by rw [List.length_take]; omega
    have hr := run_copy_row (P := P) w t t2 ty e b 0 dl dc ⟨b', off', none⟩ m cap' cur e2 (ys.take (min m dl)) hu (by rw [hi]; simp [hsz]) hheap (by rw [hlt]) hsrc (by rw [hlt, hcs]; omega) (fun u hu => h1 u (List.mem_of_mem_take hu))
    rw [hlt, List.take_zero, List.nil_append, Nat.zero_add] at hr
    have hcl : cur.toList.length = dc := by simpa using hcs
    refine ⟨_, _, upd N b (.cells (ys.take (min m dl) ++ cur.toList.drop (min m dl)).toArray e2 (0, 0)) :: L1, hres _ _ hr, ?_, _, rfl, rfl, ⟨by simp; omega, r2, r3, .inr ⟨b, _, rfl, upd_self _ _ _, by simp; omega, ?_⟩⟩⟩
    · refine hw2.put hN rfl rfl rfl ?_ (fun k hk _ => ?_)
      · exact setRow_heap w b cur (ys.take (min m dl) ++ cur.toList.drop (min m dl)).toArray e2 (0, 0) hheap
      · simp only [World.setRow, Array.getElem?_modify, if_neg (Ne.symm hk)]
    · rw [← htk, Nat.mul_one, List.take_append, hlt, List.take_of_length_le (by omega : (ys.take (min m dl)).length ≤ dl), List.drop_take]
/-- A call of a function that the model answers itself. -/
theorem op_ext {f : FuncId} {xs : List Operand} {args : List Value} {ats : Array TypeId} (s : NxA P n l E L ⟨some d, .call ⟨.value (.func f), xs.toArray, ats⟩, ty, pos, aft, g⟩ X Y)
    (ha : Evs l xs args) (hr : ∀ w, (callFunc f args.toArray).run P w = .ok (.value v) w) (hn : Nat.ble (d + 1) n = true) (h : At n ((d, v) :: l) E L Y) : At n l E L X := fun a w hf hw => by
  refine s a w hf hw ?_
  unfold Oper.wp
  have hrun : (execOp a.eval ⟨some d, .call ⟨.value (.func f), xs.toArray, ats⟩, ty, pos, aft, g⟩).run P w = .ok (.value v) w := by
    have he : a.eval (.func f) = .func (.func f) #[] #[] := rfl
    simp only [execOp, resolve, invoke, Sem.run_bind, Sem.run_pure, Result.andThen_ok, List.map_toArray, ha.map hf, he, Deferred.ofValue, Array.empty_append, Array.append_empty, hr]
  rw [hrun]
  exact ⟨fun _ _ => rfl, h _ _ (hf.put (Nat.le_of_ble_eq_true hn)) hw⟩
/-! Functions as values. -/
inductive Cps (l : List (Nat × Value)) : List Operand → List Value → Prop
  | nil : Cps l [] []
  | cons {x : Operand} {v : Value} {xs : List Operand} {vs : List Value} (h : ev l x = some v) (k : Cps l xs vs) : Cps l (x :: xs) (v :: vs)
theorem Cps.map {xs : List Operand} {vs : List Value} (h : Cps l xs vs) {ds : List Deferred} {a : Act} (hf : Fr ds n l a) : xs.map a.eval = vs := by
  induction h with
  | nil => rfl
  | cons hx _ ih => rw [List.map_cons, hf.eval hx, ih]
theorem op_mkF {fn : Go.Fn} {first caps : List Operand} {fs cs : List Value} (s : NxF P n l E L Ls ⟨some d, .makeFunc fn first.toArray caps.toArray, ty, pos, aft, g⟩ X Y) (h1 : Cps l first fs) (h2 : Cps l caps cs) (hn : Nat.ble (d + 1) n = true) (h : At n ((d, .func fn fs.toArray cs.toArray) :: l) E L Y) : At n l E L X :=
  op_val s (fun a w hf _ => by
    simp [execOp, Instr.makeFunc, List.map_toArray, h1.map hf, h2.map hf]) rfl hn h
theorem op_callV {f : FuncId} {fn : Func} {c : Operand} {xs : List Operand} {args caps : List Value} {ats : Array TypeId} {L0 Lr F : List Heaplet} {Post : Value → List Heaplet → Prop} (s : Nx P n l E L ⟨some d, .call ⟨.value c, xs.toArray, ats⟩, ty, pos, aft, g⟩ X Y)
    (hcv : ev l c = some (.func (.func f) #[] caps.toArray)) (ha : Evs l xs args) (hc : Fn P f (args ++ caps).toArray L0 Lr Post) (hfn : P.funcs[f]? = some fn) (hb : fn.body.isSome = true) (hne : (fn.name == "runtime.NumGoroutine") = false) (hL : L.Perm (L0 ++ F)) (hr : ∀ N ∈ Lr, N ∈ F) (hn : Nat.ble (d + 1) n = true)
    (h : ∀ v L1, Post v L1 → At n ((d, v) :: l) E (L1 ++ F) Y) : At n l E L X := fun a w hf hw => by
  refine s a w hf hw ?_
  unfold Oper.wp
  have hw2 := hw.perm hL
  have hrun : (execOp a.eval ⟨some d, .call ⟨.value c, xs.toArray, ats⟩, ty, pos, aft, g⟩).run P w = .ok (.enter f (args ++ caps).toArray) w := by
    have hne' : fn.name ≠ "runtime.NumGoroutine" := by simpa using hne
    have he := hf.eval hcv
    have hap : args.toArray ++ caps.toArray = (args ++ caps).toArray := by simp
    simp only [execOp, resolve, invoke, Sem.run_bind, Sem.run_pure, Result.andThen_ok, List.map_toArray, ha.map hf, he, Deferred.ofValue, Array.empty_append, hap, run_call hfn hb hne']
  rw [hrun]
  have hsep := List.pairwise_append.1 hw2.sep
  let R : Heaplet := fun k => if ∃ N ∈ L0, N k ≠ none then none else w.heap[k]?
  have hRw : R.le (whole w) := fun k o hk => by
    simp only [R] at hk
    split at hk
    · cases hk
    · exact hk
  have hFR : ∀ N ∈ F, N.le R := fun N hN k o hk => by
    have hno : ¬ ∃ M ∈ L0, M k ≠ none := by
      rintro ⟨M, hM, hMk⟩
      rcases hsep.2.2 M hM N hN k with h | h
      · exact hMk h
      · rw [hk] at h; cases h
    simp only [R, if_neg hno]
    exact hw2.sub N (List.mem_append_right _ hN) k o hk
  have hwR : Hp E (L0 ++ [R]) w := by
    refine ⟨hw.os, hw.tape, hw.output, fun N hN => ?_, ?_⟩
    · rcases List.mem_append.1 hN with hN | hN
      · exact hw2.sub N (List.mem_append_left _ hN)
      · simp at hN; subst hN; exact hRw
    · rw [List.pairwise_append]
      refine ⟨hsep.1, by simp, fun A hA B hB k => ?_⟩
      simp at hB; subst hB
      by_cases hAk : A k = none
      · exact .inl hAk
      · exact .inr (if_pos ⟨A, hA, hAk⟩)
  refine Calls.mono (hc E w R hwR fun N hN => hFR N (hr N hN)) ?_
  rintro e w' ⟨v, L1, rfl, hP, hw'⟩
  exact h v L1 hP _ _ (hf.put (Nat.le_of_ble_eq_true hn)) (hw'.refine hFR hsep.2.1)
end
end Go.Proofs.YtdplcfineaikjaaDoor
/- The engine, part 13: longer lists of heaplets. For whatever program. No condition. -/
namespace Go.Proofs.YtdplcfineaikjaaDoor
set_option linter.unusedVariables false
set_option linter.unusedSimpArgs false
open Go
theorem sel13 {A0 A1 A2 A3 A4 A5 A6 A7 A8 A9 A10 A11 A12 A13 : Heaplet} {L : List Heaplet} : (A1 :: A2 :: A3 :: A4 :: A5 :: A6 :: A7 :: A8 :: A9 :: A10 :: A11 :: A12 :: A13 :: A0 :: L).Perm (A0 :: A1 :: A2 :: A3 :: A4 :: A5 :: A6 :: A7 :: A8 :: A9 :: A10 :: A11 :: A12 :: A13 :: L) := (List.Perm.cons _ sel12).trans (.swap _ _ _)
theorem sel14 {A0 A1 A2 A3 A4 A5 A6 A7 A8 A9 A10 A11 A12 A13 A14 : Heaplet} {L : List Heaplet} : (A1 :: A2 :: A3 :: A4 :: A5 :: A6 :: A7 :: A8 :: A9 :: A10 :: A11 :: A12 :: A13 :: A14 :: A0 :: L).Perm (A0 :: A1 :: A2 :: A3 :: A4 :: A5 :: A6 :: A7 :: A8 :: A9 :: A10 :: A11 :: A12 :: A13 :: A14 :: L) := (List.Perm.cons _ sel13).trans (.swap _ _ _)
theorem sel15 {A0 A1 A2 A3 A4 A5 A6 A7 A8 A9 A10 A11 A12 A13 A14 A15 : Heaplet} {L : List Heaplet} : (A1 :: A2 :: A3 :: A4 :: A5 :: A6 :: A7 :: A8 :: A9 :: A10 :: A11 :: A12 :: A13 :: A14 :: A15 :: A0 :: L).Perm (A0 :: A1 :: A2 :: A3 :: A4 :: A5 :: A6 :: A7 :: A8 :: A9 :: A10 :: A11 :: A12 :: A13 :: A14 :: A15 :: L) := (List.Perm.cons _ sel14).trans (.swap _ _ _)
theorem sel16 {A0 A1 A2 A3 A4 A5 A6 A7 A8 A9 A10 A11 A12 A13 A14 A15 A16 : Heaplet} {L : List Heaplet} : (A1 :: A2 :: A3 :: A4 :: A5 :: A6 :: A7 :: A8 :: A9 :: A10 :: A11 :: A12 :: A13 :: A14 :: A15 :: A16 :: A0 :: L).Perm (A0 :: A1 :: A2 :: A3 :: A4 :: A5 :: A6 :: A7 :: A8 :: A9 :: A10 :: A11 :: A12 :: A13 :: A14 :: A15 :: A16 :: L) := (List.Perm.cons _ sel15).trans (.swap _ _ _)
theorem sel17 {A0 A1 A2 A3 A4 A5 A6 A7 A8 A9 A10 A11 A12 A13 A14 A15 A16 A17 : Heaplet} {L : List Heaplet} : (A1 :: A2 :: A3 :: A4 :: A5 :: A6 :: A7 :: A8 :: A9 :: A10 :: A11 :: A12 :: A13 :: A14 :: A15 :: A16 :: A17 :: A0 :: L).Perm (A0 :: A1 :: A2 :: A3 :: A4 :: A5 :: A6 :: A7 :: A8 :: A9 :: A10 :: A11 :: A12 :: A13 :: A14 :: A15 :: A16 :: A17 :: L) := (List.Perm.cons _ sel16).trans (.swap _ _ _)
theorem sel18 {A0 A1 A2 A3 A4 A5 A6 A7 A8 A9 A10 A11 A12 A13 A14 A15 A16 A17 A18 : Heaplet} {L : List Heaplet} : (A1 :: A2 :: A3 :: A4 :: A5 :: A6 :: A7 :: A8 :: A9 :: A10 :: A11 :: A12 :: A13 :: A14 :: A15 :: A16 :: A17 :: A18 :: A0 :: L).Perm (A0 :: A1 :: A2 :: A3 :: A4 :: A5 :: A6 :: A7 :: A8 :: A9 :: A10 :: A11 :: A12 :: A13 :: A14 :: A15 :: A16 :: A17 :: A18 :: L) := (List.Perm.cons _ sel17).trans (.swap _ _ _)
theorem sel19 {A0 A1 A2 A3 A4 A5 A6 A7 A8 A9 A10 A11 A12 A13 A14 A15 A16 A17 A18 A19 : Heaplet} {L : List Heaplet} : (A1 :: A2 :: A3 :: A4 :: A5 :: A6 :: A7 :: A8 :: A9 :: A10 :: A11 :: A12 :: A13 :: A14 :: A15 :: A16 :: A17 :: A18 :: A19 :: A0 :: L).Perm (A0 :: A1 :: A2 :: A3 :: A4 :: A5 :: A6 :: A7 :: A8 :: A9 :: A10 :: A11 :: A12 :: A13 :: A14 :: A15 :: A16 :: A17 :: A18 :: A19 :: L) := (List.Perm.cons _ sel18).trans (.swap _ _ _)
theorem sel20 {A0 A1 A2 A3 A4 A5 A6 A7 A8 A9 A10 A11 A12 A13 A14 A15 A16 A17 A18 A19 A20 : Heaplet} {L : List Heaplet} : (A1 :: A2 :: A3 :: A4 :: A5 :: A6 :: A7 :: A8 :: A9 :: A10 :: A11 :: A12 :: A13 :: A14 :: A15 :: A16 :: A17 :: A18 :: A19 :: A20 :: A0 :: L).Perm (A0 :: A1 :: A2 :: A3 :: A4 :: A5 :: A6 :: A7 :: A8 :: A9 :: A10 :: A11 :: A12 :: A13 :: A14 :: A15 :: A16 :: A17 :: A18 :: A19 :: A20 :: L) := (List.Perm.cons _ sel19).trans (.swap _ _ _)
theorem sel21 {A0 A1 A2 A3 A4 A5 A6 A7 A8 A9 A10 A11 A12 A13 A14 A15 A16 A17 A18 A19 A20 A21 : Heaplet} {L : List Heaplet} : (A1 :: A2 :: A3 :: A4 :: A5 :: A6 :: A7 :: A8 :: A9 :: A10 :: A11 :: A12 :: A13 :: A14 :: A15 :: A16 :: A17 :: A18 :: A19 :: A20 :: A21 :: A0 :: L).Perm (A0 :: A1 :: A2 :: A3 :: A4 :: A5 :: A6 :: A7 :: A8 :: A9 :: A10 :: A11 :: A12 :: A13 :: A14 :: A15 :: A16 :: A17 :: A18 :: A19 :: A20 :: A21 :: L) := (List.Perm.cons _ sel20).trans (.swap _ _ _)
theorem sel22 {A0 A1 A2 A3 A4 A5 A6 A7 A8 A9 A10 A11 A12 A13 A14 A15 A16 A17 A18 A19 A20 A21 A22 : Heaplet} {L : List Heaplet} : (A1 :: A2 :: A3 :: A4 :: A5 :: A6 :: A7 :: A8 :: A9 :: A10 :: A11 :: A12 :: A13 :: A14 :: A15 :: A16 :: A17 :: A18 :: A19 :: A20 :: A21 :: A22 :: A0 :: L).Perm (A0 :: A1 :: A2 :: A3 :: A4 :: A5 :: A6 :: A7 :: A8 :: A9 :: A10 :: A11 :: A12 :: A13 :: A14 :: A15 :: A16 :: A17 :: A18 :: A19 :: A20 :: A21 :: A22 :: L) := (List.Perm.cons _ sel21).trans (.swap _ _ _)
theorem sel23 {A0 A1 A2 A3 A4 A5 A6 A7 A8 A9 A10 A11 A12 A13 A14 A15 A16 A17 A18 A19 A20 A21 A22 A23 : Heaplet} {L : List Heaplet} : (A1 :: A2 :: A3 :: A4 :: A5 :: A6 :: A7 :: A8 :: A9 :: A10 :: A11 :: A12 :: A13 :: A14 :: A15 :: A16 :: A17 :: A18 :: A19 :: A20 :: A21 :: A22 :: A23 :: A0 :: L).Perm (A0 :: A1 :: A2 :: A3 :: A4 :: A5 :: A6 :: A7 :: A8 :: A9 :: A10 :: A11 :: A12 :: A13 :: A14 :: A15 :: A16 :: A17 :: A18 :: A19 :: A20 :: A21 :: A22 :: A23 :: L) := (List.Perm.cons _ sel22).trans (.swap _ _ _)
theorem sel24 {A0 A1 A2 A3 A4 A5 A6 A7 A8 A9 A10 A11 A12 A13 A14 A15 A16 A17 A18 A19 A20 A21 A22 A23 A24 : Heaplet} {L : List Heaplet} : (A1 :: A2 :: A3 :: A4 :: A5 :: A6 :: A7 :: A8 :: A9 :: A10 :: A11 :: A12 :: A13 :: A14 :: A15 :: A16 :: A17 :: A18 :: A19 :: A20 :: A21 :: A22 :: A23 :: A24 :: A0 :: L).Perm (A0 :: A1 :: A2 :: A3 :: A4 :: A5 :: A6 :: A7 :: A8 :: A9 :: A10 :: A11 :: A12 :: A13 :: A14 :: A15 :: A16 :: A17 :: A18 :: A19 :: A20 :: A21 :: A22 :: A23 :: A24 :: L) := (List.Perm.cons _ sel23).trans (.swap _ _ _)
theorem sel25 {A0 A1 A2 A3 A4 A5 A6 A7 A8 A9 A10 A11 A12 A13 A14 A15 A16 A17 A18 A19 A20 A21 A22 A23 A24 A25 : Heaplet} {L : List Heaplet} : (A1 :: A2 :: A3 :: A4 :: A5 :: A6 :: A7 :: A8 :: A9 :: A10 :: A11 :: A12 :: A13 :: A14 :: A15 :: A16 :: A17 :: A18 :: A19 :: A20 :: A21 :: A22 :: A23 :: A24 :: A25 :: A0 :: L).Perm (A0 :: A1 :: A2 :: A3 :: A4 :: A5 :: A6 :: A7 :: A8 :: A9 :: A10 :: A11 :: A12 :: A13 :: A14 :: A15 :: A16 :: A17 :: A18 :: A19 :: A20 :: A21 :: A22 :: A23 :: A24 :: A25 :: L) := (List.Perm.cons _ sel24).trans (.swap _ _ _)
theorem sel26 {A0 A1 A2 A3 A4 A5 A6 A7 A8 A9 A10 A11 A12 A13 A14 A15 A16 A17 A18 A19 A20 A21 A22 A23 A24 A25 A26 : Heaplet} {L : List Heaplet} : (A1 :: A2 :: A3 :: A4 :: A5 :: A6 :: A7 :: A8 :: A9 :: A10 :: A11 :: A12 :: A13 :: A14 :: A15 :: A16 :: A17 :: A18 :: A19 :: A20 :: A21 :: A22 :: A23 :: A24 :: A25 :: A26 :: A0 :: L).Perm (A0 :: A1 :: A2 :: A3 :: A4 :: A5 :: A6 :: A7 :: A8 :: A9 :: A10 :: A11 :: A12 :: A13 :: A14 :: A15 :: A16 :: A17 :: A18 :: A19 :: A20 :: A21 :: A22 :: A23 :: A24 :: A25 :: A26 :: L) := (List.Perm.cons _ sel25).trans (.swap _ _ _)
theorem sel27 {A0 A1 A2 A3 A4 A5 A6 A7 A8 A9 A10 A11 A12 A13 A14 A15 A16 A17 A18 A19 A20 A21 A22 A23 A24 A25 A26 A27 : Heaplet} {L : List Heaplet} : (A1 :: A2 :: A3 :: A4 :: A5 :: A6 :: A7 :: A8 :: A9 :: A10 :: A11 :: A12 :: A13 :: A14 :: A15 :: A16 :: A17 :: A18 :: A19 :: A20 :: A21 :: A22 :: A23 :: A24 :: A25 :: A26 :: A27 :: A0 :: L).Perm (A0 :: A1 :: A2 :: A3 :: A4 :: A5 :: A6 :: A7 :: A8 :: A9 :: A10 :: A11 :: A12 :: A13 :: A14 :: A15 :: A16 :: A17 :: A18 :: A19 :: A20 :: A21 :: A22 :: A23 :: A24 :: A25 :: A26 :: A27 :: L) := (List.Perm.cons _ sel26).trans (.swap _ _ _)
theorem sel28 {A0 A1 A2 A3 A4 A5 A6 A7 A8 A9 A10 A11 A12 A13 A14 A15 A16 A17 A18 A19 A20 A21 A22 A23 A24 A25 A26 A27 A28 : Heaplet} {L : List Heaplet} : (A1 :: A2 :: A3 :: A4 :: A5 :: A6 :: A7 :: A8 :: A9 :: A10 :: A11 :: A12 :: A13 :: A14 :: A15 :: A16 :: A17 :: A18 :: A19 :: A20 :: A21 :: A22 :: A23 :: A24 :: A25 :: A26 :: A27 :: A28 :: A0 :: L).Perm (A0 :: A1 :: A2 :: A3 :: A4 :: A5 :: A6 :: A7 :: A8 :: A9 :: A10 :: A11 :: A12 :: A13 :: A14 :: A15 :: A16 :: A17 :: A18 :: A19 :: A20 :: A21 :: A22 :: A23 :: A24 :: A25 :: A26 :: A27 :: A28 :: L) := (List.Perm.cons _ sel27).trans (.swap _ _ _)
theorem sel29 {A0 A1 A2 A3 A4 A5 A6 A7 A8 A9 A10 A11 A12 A13 A14 A15 A16 A17 A18 A19 A20 A21 A22 A23 A24 A25 A26 A27 A28 A29 : Heaplet} {L : List Heaplet} : (A1 :: A2 :: A3 :: A4 :: A5 :: A6 :: A7 :: A8 :: A9 :: A10 :: A11 :: A12 :: A13 :: A14 :: A15 :: A16 :: A17 :: A18 :: A19 :: A20 :: A21 :: A22 :: A23 :: A24 :: A25 :: A26 :: A27 :: A28 :: A29 :: A0 :: L).Perm (A0 :: A1 :: A2 :: A3 :: A4 :: A5 :: A6 :: A7 :: A8 :: A9 :: A10 :: A11 :: A12 :: A13 :: A14 :: A15 :: A16 :: A17 :: A18 :: A19 :: A20 :: A21 :: A22 :: A23 :: A24 :: A25 :: A26 :: A27 :: A28 :: A29 :: L) := (List.Perm.cons _ sel28).trans (.swap _ _ _)
theorem sel30 {A0 A1 A2 A3 A4 A5 A6 A7 A8 A9 A10 A11 A12 A13 A14 A15 A16 A17 A18 A19 A20 A21 A22 A23 A24 A25 A26 A27 A28 A29 A30 : Heaplet} {L : List Heaplet} : (A1 :: A2 :: A3 :: A4 :: A5 :: A6 :: A7 :: A8 :: A9 :: A10 :: A11 :: A12 :: A13 :: A14 :: A15 :: A16 :: A17 :: A18 :: A19 :: A20 :: A21 :: A22 :: A23 :: A24 :: A25 :: A26 :: A27 :: A28 :: A29 :: A30 :: A0 :: L).Perm (A0 :: A1 :: A2 :: A3 :: A4 :: A5 :: A6 :: A7 :: A8 :: A9 :: A10 :: A11 :: A12 :: A13 :: A14 :: A15 :: A16 :: A17 :: A18 :: A19 :: A20 :: A21 :: A22 :: A23 :: A24 :: A25 :: A26 :: A27 :: A28 :: A29 :: A30 :: L) := (List.Perm.cons _ sel29).trans (.swap _ _ _)
theorem mem14 {A0 A1 A2 A3 A4 A5 A6 A7 A8 A9 A10 A11 A12 A13 A14 : Heaplet} {L : List Heaplet} : A0 ∈ A1 :: A2 :: A3 :: A4 :: A5 :: A6 :: A7 :: A8 :: A9 :: A10 :: A11 :: A12 :: A13 :: A14 :: A0 :: L := List.Mem.tail _ mem13
theorem mem15 {A0 A1 A2 A3 A4 A5 A6 A7 A8 A9 A10 A11 A12 A13 A14 A15 : Heaplet} {L : List Heaplet} : A0 ∈ A1 :: A2 :: A3 :: A4 :: A5 :: A6 :: A7 :: A8 :: A9 :: A10 :: A11 :: A12 :: A13 :: A14 :: A15 :: A0 :: L := List.Mem.tail _ mem14
theorem mem16 {A0 A1 A2 A3 A4 A5 A6 A7 A8 A9 A10 A11 A12 A13 A14 A15 A16 : Heaplet} {L : List Heaplet} : A0 ∈ A1 :: A2 :: A3 :: A4 :: A5 :: A6 :: A7 :: A8 :: A9 :: A10 :: A11 :: A12 :: A13 :: A14 :: A15 :: A16 :: A0 :: L := List.Mem.tail _ mem15
theorem mem17 {A0 A1 A2 A3 A4 A5 A6 A7 A8 A9 A10 A11 A12 A13 A14 A15 A16 A17 : Heaplet} {L : List Heaplet} : A0 ∈ A1 :: A2 :: A3 :: A4 :: A5 :: A6 :: A7 :: A8 :: A9 :: A10 :: A11 :: A12 :: A13 :: A14 :: A15 :: A16 :: A17 :: A0 :: L := List.Mem.tail _ mem16
theorem mem18 {A0 A1 A2 A3 A4 A5 A6 A7 A8 A9 A10 A11 A12 A13 A14 A15 A16 A17 A18 : Heaplet} {L : List Heaplet} : A0 ∈ A1 :: A2 :: A3 :: A4 :: A5 :: A6 :: A7 :: A8 :: A9 :: A10 :: A11 :: A12 :: A13 :: A14 :: A15 :: A16 :: A17 :: A18 :: A0 :: L := List.Mem.tail _ mem17
theorem mem19 {A0 A1 A2 A3 A4 A5 A6 A7 A8 A9 A10 A11 A12 A13 A14 A15 A16 A17 A18 A19 : Heaplet} {L : List Heaplet} : A0 ∈ A1 :: A2 :: A3 :: A4 :: A5 :: A6 :: A7 :: A8 :: A9 :: A10 :: A11 :: A12 :: A13 :: A14 :: A15 :: A16 :: A17 :: A18 :: A19 :: A0 :: L := List.Mem.tail _ mem18
theorem mem20 {A0 A1 A2 A3 A4 A5 A6 A7 A8 A9 A10 A11 A12 A13 A14 A15 A16 A17 A18 A19 A20 : Heaplet} {L : List Heaplet} : A0 ∈ A1 :: A2 :: A3 :: A4 :: A5 :: A6 :: A7 :: A8 :: A9 :: A10 :: A11 :: A12 :: A13 :: A14 :: A15 :: A16 :: A17 :: A18 :: A19 :: A20 :: A0 :: L := List.Mem.tail _ mem19
theorem mem21 {A0 A1 A2 A3 A4 A5 A6 A7 A8 A9 A10 A11 A12 A13 A14 A15 A16 A17 A18 A19 A20 A21 : Heaplet} {L : List Heaplet} : A0 ∈ A1 :: A2 :: A3 :: A4 :: A5 :: A6 :: A7 :: A8 :: A9 :: A10 :: A11 :: A12 :: A13 :: A14 :: A15 :: A16 :: A17 :: A18 :: A19 :: A20 :: A21 :: A0 :: L := List.Mem.tail _ mem20
theorem mem22 {A0 A1 A2 A3 A4 A5 A6 A7 A8 A9 A10 A11 A12 A13 A14 A15 A16 A17 A18 A19 A20 A21 A22 : Heaplet} {L : List Heaplet} : A0 ∈ A1 :: A2 :: A3 :: A4 :: A5 :: A6 :: A7 :: A8 :: A9 :: A10 :: A11 :: A12 :: A13 :: A14 :: A15 :: A16 :: A17 :: A18 :: A19 :: A20 :: A21 :: A22 :: A0 :: L := List.Mem.tail _ mem21
theorem mem23 {A0 A1 A2 A3 A4 A5 A6 A7 A8 A9 A10 A11 A12 A13 A14 A15 A16 A17 A18 A19 A20 A21 A22 A23 : Heaplet} {L : List Heaplet} : A0 ∈ A1 :: A2 :: A3 :: A4 :: A5 :: A6 :: A7 :: A8 :: A9 :: A10 :: A11 :: A12 :: A13 :: A14 :: A15 :: A16 :: A17 :: A18 :: A19 :: A20 :: A21 :: A22 :: A23 :: A0 :: L := List.Mem.tail _ mem22
theorem mem24 {A0 A1 A2 A3 A4 A5 A6 A7 A8 A9 A10 A11 A12 A13 A14 A15 A16 A17 A18 A19 A20 A21 A22 A23 A24 : Heaplet} {L : List Heaplet} : A0 ∈ A1 :: A2 :: A3 :: A4 :: A5 :: A6 :: A7 :: A8 :: A9 :: A10 :: A11 :: A12 :: A13 :: A14 :: A15 :: A16 :: A17 :: A18 :: A19 :: A20 :: A21 :: A22 :: A23 :: A24 :: A0 :: L := List.Mem.tail _ mem23
theorem mem25 {A0 A1 A2 A3 A4 A5 A6 A7 A8 A9 A10 A11 A12 A13 A14 A15 A16 A17 A18 A19 A20 A21 A22 A23 A24 A25 : Heaplet} {L : List Heaplet} : A0 ∈ A1 :: A2 :: A3 :: A4 :: A5 :: A6 :: A7 :: A8 :: A9 :: A10 :: A11 :: A12 :: A13 :: A14 :: A15 :: A16 :: A17 :: A18 :: A19 :: A20 :: A21 :: A22 :: A23 :: A24 :: A25 :: A0 :: L := List.Mem.tail _ mem24
theorem mem26 {A0 A1 A2 A3 A4 A5 A6 A7 A8 A9 A10 A11 A12 A13 A14 A15 A16 A17 A18 A19 A20 A21 A22 A23 A24 A25 A26 : Heaplet} {L : List Heaplet} : A0 ∈ A1 :: A2 :: A3 :: A4 :: A5 :: A6 :: A7 :: A8 :: A9 :: A10 :: A11 :: A12 :: A13 :: A14 :: A15 :: A16 :: A17 :: A18 :: A19 :: A20 :: A21 :: A22 :: A23 :: A24 :: A25 :: A26 :: A0 :: L := List.Mem.tail _ mem25
theorem mem27 {A0 A1 A2 A3 A4 A5 A6 A7 A8 A9 A10 A11 A12 A13 A14 A15 A16 A17 A18 A19 A20 A21 A22 A23 A24 A25 A26 A27 : Heaplet} {L : List Heaplet} : A0 ∈ A1 :: A2 :: A3 :: A4 :: A5 :: A6 :: A7 :: A8 :: A9 :: A10 :: A11 :: A12 :: A13 :: A14 :: A15 :: A16 :: A17 :: A18 :: A19 :: A20 :: A21 :: A22 :: A23 :: A24 :: A25 :: A26 :: A27 :: A0 :: L := List.Mem.tail _ mem26
theorem mem28 {A0 A1 A2 A3 A4 A5 A6 A7 A8 A9 A10 A11 A12 A13 A14 A15 A16 A17 A18 A19 A20 A21 A22 A23 A24 A25 A26 A27 A28 : Heaplet} {L : List Heaplet} : A0 ∈ A1 :: A2 :: A3 :: A4 :: A5 :: A6 :: A7 :: A8 :: A9 :: A10 :: A11 :: A12 :: A13 :: A14 :: A15 :: A16 :: A17 :: A18 :: A19 :: A20 :: A21 :: A22 :: A23 :: A24 :: A25 :: A26 :: A27 :: A28 :: A0 :: L := List.Mem.tail _ mem27
theorem mem29 {A0 A1 A2 A3 A4 A5 A6 A7 A8 A9 A10 A11 A12 A13 A14 A15 A16 A17 A18 A19 A20 A21 A22 A23 A24 A25 A26 A27 A28 A29 : Heaplet} {L : List Heaplet} : A0 ∈ A1 :: A2 :: A3 :: A4 :: A5 :: A6 :: A7 :: A8 :: A9 :: A10 :: A11 :: A12 :: A13 :: A14 :: A15 :: A16 :: A17 :: A18 :: A19 :: A20 :: A21 :: A22 :: A23 :: A24 :: A25 :: A26 :: A27 :: A28 :: A29 :: A0 :: L := List.Mem.tail _ mem28
theorem mem30 {A0 A1 A2 A3 A4 A5 A6 A7 A8 A9 A10 A11 A12 A13 A14 A15 A16 A17 A18 A19 A20 A21 A22 A23 A24 A25 A26 A27 A28 A29 A30 : Heaplet} {L : List Heaplet} : A0 ∈ A1 :: A2 :: A3 :: A4 :: A5 :: A6 :: A7 :: A8 :: A9 :: A10 :: A11 :: A12 :: A13 :: A14 :: A15 :: A16 :: A17 :: A18 :: A19 :: A20 :: A21 :: A22 :: A23 :: A24 :: A25 :: A26 :: A27 :: A28 :: A29 :: A30 :: A0 :: L := List.Mem.tail _ mem29
end Go.Proofs.YtdplcfineaikjaaDoor
/- The engine: a string's runes, one by one; a rune as a string. For whatever program. No condition. -/
namespace Go.Proofs.YtdplcfineaikjaaDoor
set_option linter.unusedVariables false
set_option linter.unusedSimpArgs false
open Go Go.RowKit
/-- An iterator over a string stands at a place. -/
def IterH (N : Heaplet) (b : Nat) (s : List UInt8) (pos : Nat) : Prop := N b = some (.stringIter ⟨s.toArray⟩ pos)
/-- The rune at a place, and where the next one stands. -/
def runeAt (s : List UInt8) (pos : Nat) : Nat := (Lib.decodeL (s.drop pos)).1
def nextP (s : List UInt8) (pos : Nat) : Nat := if pos < s.length then pos + (Lib.decodeL (s.drop pos)).2 else pos
def nextV (s : List UInt8) (pos : Nat) : Value := .tuple (if pos < s.length then #[.bool true, .int .i64 (pos : Int), .int .i32 (runeAt s pos : Int)] else #[.bool false])
theorem nextP_y {s : List UInt8} {pos : Nat} (h : pos < s.length) : nextP s pos = pos + (Lib.decodeL (s.drop pos)).2 := if_pos h
theorem decode_at (s : List UInt8) (pos : Nat) : Utf8.decode ⟨s.toArray⟩ pos = Lib.decodeL (s.drop pos) := by
  have := Lib.decodeL_drop ⟨s.toArray⟩ pos
  rw [← this]
section
variable {P : Program} {n : Nat} {l : List (Nat × Value)} {E : World} {L L1 Ls : List Heaplet} {X Y : Act → World → Prop} {d : Nat} {t t' ty : TypeId} {x y : Operand} {N : Heaplet}
theorem op_rangeS {s : List UInt8} {pos : _} {aft : _} {g : _} (st : NxA P n l E L ⟨some d, .range t x, ty, pos, aft, g⟩ X Y) (ht : P.underlying t = some .string) (hx : ev l x = some (str s)) (hn : Nat.ble (d + 1) n = true)
    (h : ∀ N b, IterH N b s 0 → At n ((d, .pointer (some ⟨b, 0, none⟩)) :: l) E (N :: L) Y) : At n l E L X := by
  refine op_new st (fun v L' => ∃ N b, v = .pointer (some ⟨b, 0, none⟩) ∧ L' = N :: L ∧ IterH N b s 0) (fun a w hf hw => ?_) rfl hn (fun v L' ⟨N, b, hv, hL, hI⟩ => by subst hv; subst hL; exact h N b hI)
  refine ⟨_, w.alloc (.stringIter ⟨s.toArray⟩ 0), _, ?_, Agree.alloc _ _, hw.alloc _, single w.heap.size (.stringIter ⟨s.toArray⟩ 0), w.heap.size, rfl, rfl, single_self _ _⟩
  have e : (execOp a.eval ⟨some d, .range t x, ty, pos, aft, g⟩) = (do let v ← Instr.range t (a.eval x); pure (.value v) : Sem Next) := rfl
  rw [e, hf.eval hx]
  simp only [str, Instr.range, Sem.run_bind, run_underlying ht, Result.andThen_ok, Sem.run_pure]
  rfl
theorem op_nextS {s : List UInt8} {q b : Nat} {pos : _} {aft : _} {g : _} (st : Nx P n l E L ⟨some d, .next x true, ty, pos, aft, g⟩ X Y) (hx : ev l x = some (.pointer (some ⟨b, 0, none⟩))) (hI : IterH N b s q) (sel : L.Perm (N :: L1)) (hn : Nat.ble (d + 1) n = true)
    (h : ∀ N, IterH N b s (nextP s q) → At n ((d, nextV s q) :: l) E (N :: L1) Y) : At n l E L X := by
  refine op_upd st (fun v L' => v = nextV s q ∧ ∃ N, L' = N :: L1 ∧ IterH N b s (nextP s q)) (fun a w hf hw => ?_) rfl hn (fun v L' ⟨hv, N, hL, hI⟩ => by subst hv; subst hL; exact h N hI)
  have hw2 := hw.perm sel
  have hk : w.heap[b]? = some (.stringIter ⟨s.toArray⟩ q) := hw2.sub N (List.mem_cons_self ..) _ _ hI
  have hlt : b < w.heap.size := (Array.getElem?_eq_some_iff.1 hk).1
  have e : (execOp a.eval ⟨some d, .next x true, ty, pos, aft, g⟩) = (do let v ← Instr.next (a.eval x) true ty; pure (.value v) : Sem Next) := rfl
  by_cases hq : q < s.length
  · refine ⟨nextV s q, w.iterAt b ⟨s.toArray⟩ (nextP s q), upd N b (.stringIter ⟨s.toArray⟩ (nextP s q)) :: L1, ?_, ?_, rfl, _, rfl, upd_self _ _ _⟩
    · rw [e, hf.eval hx, Sem.run_bind, Lib.run_next_any_at w b ⟨s.toArray⟩ q ty hk hq, decode_at]
      simp only [Result.andThen_ok, Sem.run_pure, nextV, if_pos hq, nextP_y hq, runeAt]
    · refine hw2.put (o' := .stringIter ⟨s.toArray⟩ (nextP s q)) hI rfl rfl rfl (Lib.iterAt_heap w b _ q _ hk) (fun k hk2 _ => Lib.iterAt_other w b k _ _ hk2)
  · refine ⟨nextV s q, w, N :: L1, ?_, hw2, rfl, N, rfl, ?_⟩
    · rw [e, hf.eval hx, Sem.run_bind, Lib.run_next_end_at w b ⟨s.toArray⟩ q ty hk hq]
      simp only [Result.andThen_ok, Sem.run_pure, nextV, if_neg hq]
    · rw [nextP, if_neg hq]; exact hI
theorem op_nx0 {s : List UInt8} {q : Nat} {pos : _} {aft : _} {g : _} (st : NxF P n l E L Ls ⟨some d, .extract x 0, ty, pos, aft, g⟩ X Y) (hx : ev l x = some (nextV s q)) (hn : Nat.ble (d + 1) n = true) (h : At n ((d, .bool (decide (q < s.length))) :: l) E L Y) : At n l E L X := by
  by_cases hq : q < s.length
  · rw [decide_eq_true hq] at h
    exact op_extract (vs := [.bool true, .int .i64 (q : Int), .int .i32 (runeAt s q : Int)]) st (by rw [hx, nextV, if_pos hq]) rfl hn h
  · rw [decide_eq_false hq] at h
    exact op_extract (vs := [.bool false]) st (by rw [hx, nextV, if_neg hq]) rfl hn h
theorem op_nx1 {s : List UInt8} {q : Nat} {pos : _} {aft : _} {g : _} (st : NxF P n l E L Ls ⟨some d, .extract x 1, ty, pos, aft, g⟩ X Y) (hx : ev l x = some (nextV s q)) (hq : q < s.length) (hn : Nat.ble (d + 1) n = true) (h : At n ((d, .int .i64 (q : Int)) :: l) E L Y) : At n l E L X :=
  op_extract (vs := [.bool true, .int .i64 (q : Int), .int .i32 (runeAt s q : Int)]) st (by rw [hx, nextV, if_pos hq]) rfl hn h
theorem op_nx2 {s : List UInt8} {q : Nat} {pos : _} {aft : _} {g : _} (st : NxF P n l E L Ls ⟨some d, .extract x 2, ty, pos, aft, g⟩ X Y) (hx : ev l x = some (nextV s q)) (hq : q < s.length) (hn : Nat.ble (d + 1) n = true) (h : At n ((d, .int .i32 (runeAt s q : Int)) :: l) E L Y) : At n l E L X :=
  op_extract (vs := [.bool true, .int .i64 (q : Int), .int .i32 (runeAt s q : Int)]) st (by rw [hx, nextV, if_pos hq]) rfl hn h
theorem At.scope {c : Code} {Q : Exit → Act → World → Prop} (h : At n l E L (c.wp P (Exit.noGoto Q))) : At n l E L ((Code.scope c).wp P Q) := fun a w hf hw => wp_scope_straight (h a w hf hw)
theorem At.label {k : Nat} {Q : Exit → Act → World → Prop} (h : At n l E L (Q .normal)) : At n l E L ((Code.label k).wp P Q) := fun a w hf hw => wp_label (h a w hf hw)
theorem At.noNorm {Q : Exit → Act → World → Prop} (h : At n l E L (Q .normal)) : At n l E L (Exit.noGoto Q .normal) := h
theorem At.noRet {Q : Exit → Act → World → Prop} (h : At n l E L (Q .ret)) : At n l E L (Exit.noGoto Q .ret) := h
theorem At.noExit {id : Nat} {Q : Exit → Act → World → Prop} (h : At n l E L (Q (.exit id))) : At n l E L (Exit.noGoto Q (.exit id)) := h
theorem wrap_i32 {a : Int} (h1 : -2147483648 ≤ a) (h2 : a ≤ 2147483647) : IntKind.i32.wrap a = a := by
  unfold IntKind.wrap
  simp only [IntKind.bits, IntKind.signed, Bool.true_and, decide_eq_true_eq, show (2 : Int) ^ 32 = 4294967296 from rfl, show (2 : Int) ^ (32 - 1) = 2147483648 from rfl]
  split <;> omega
theorem op_convi32 {k : IntKind} {p : Int} {pos : _} {aft : _} {g : _} (s : NxF P n l E L Ls ⟨some d, .convert t t' x, ty, pos, aft, g⟩ X Y) (ht0 : (P.underlying t).isSome = true) (ht : P.underlying t' = some (.int .i32)) (hx : ev l x = some (.int k p)) (h1 : -2147483648 ≤ p) (h2 : p ≤ 2147483647) (hn : Nat.ble (d + 1) n = true) (h : At n ((d, .int .i32 p) :: l) E L Y) : At n l E L X :=
  op_convW s ht0 ht hx hn (by rw [wrap_i32 h1 h2]; exact h)
theorem op_arith32 {p q r : Int} {op : BinOp} {pos : _} {aft : _} {g : _} (hop : (op = .add ∧ r = p + q) ∨ (op = .sub ∧ r = p - q)) (s : NxF P n l E L Ls ⟨some d, .binOp op t x y t', ty, pos, aft, g⟩ X Y) (hx : ev l x = some (.int .i32 p)) (hy : ev l y = some (.int .i32 q)) (h1 : -2147483648 ≤ r) (h2 : r ≤ 2147483647) (hn : Nat.ble (d + 1) n = true) (h : At n ((d, .int .i32 r) :: l) E L Y) : At n l E L X := by
  rcases hop with ⟨rfl, rfl⟩ | ⟨rfl, rfl⟩
  · exact op_addW s hx hy hn (by rw [wrap_i32 h1 h2]; exact h)
  · exact op_subW s hx hy hn (by rw [wrap_i32 h1 h2]; exact h)
end
end Go.Proofs.YtdplcfineaikjaaDoor
/- The engine: a test that was made is known behind it; a byte of a string. For whatever program. No condition. -/
namespace Go.Proofs.YtdplcfineaikjaaDoor
set_option linter.unusedVariables false
set_option linter.unusedSimpArgs false
open Go Go.RowKit
section
variable {P : Program} {n : Nat} {l : List (Nat × Value)} {E : World} {L Ls : List Heaplet} {X Y : Act → World → Prop} {K : Act → World → Prop} {d : Nat} {t t' ty : TypeId} {x y : Operand}
theorem At.knowV {v : Value} (hl : lk l d = some v) (h : At n ((d, v) :: l) E L K) : At n l E L K := fun a w hf hw => h a w ⟨hf.defers, hf.size, fun i u hi => by
  unfold lk at hi
  by_cases e : d = i
  · subst e
    simp at hi
    subst hi
    exact hf.get d v hl
  · have : Nat.beq d i = false := beq_no e
    rw [this] at hi
    exact hf.get i u hi⟩ hw
theorem At.knowT {p : Prop} [Decidable p] (hl : lk l d = some (.bool (decide p))) (hp : p) (h : At n ((d, .bool true) :: l) E L K) : At n l E L K :=
  At.knowV (by rw [hl, decide_eq_true hp]) h
theorem At.knowF {p : Prop} [Decidable p] (hl : lk l d = some (.bool (decide p))) (hp : ¬ p) (h : At n ((d, .bool false) :: l) E L K) : At n l E L K :=
  At.knowV (by rw [hl, decide_eq_false hp]) h
theorem At.knowBT {b : Bool} (hl : lk l d = some (.bool b)) (hb : b = true) (h : At n ((d, .bool true) :: l) E L K) : At n l E L K := At.knowV (by rw [hl, hb]) h
theorem At.knowBF {b : Bool} (hl : lk l d = some (.bool b)) (hb : b = false) (h : At n ((d, .bool false) :: l) E L K) : At n l E L K := At.knowV (by rw [hl, hb]) h
theorem op_quo8 {p q : Int} {pos : _} {aft : _} {g : _} (s : NxF P n l E L Ls ⟨some d, .binOp .quo t x y t', ty, pos, aft, g⟩ X Y) (hx : ev l x = some (.int .u8 p)) (hy : ev l y = some (.int .u8 q)) (h1 : 0 ≤ p) (h2 : 0 < q) (h3 : p ≤ 255) (hn : Nat.ble (d + 1) n = true) (h : At n ((d, .int .u8 (p / q)) :: l) E L Y) : At n l E L X :=
  op_int s hx hy (fun w => by
    have e : q ≠ 0 := by omega
    have e2 : p / q ≤ p := Int.ediv_le_self _ h1
    have e3 : 0 ≤ p / q := Int.ediv_nonneg h1 (by omega)
    have e4 : IntKind.u8.wrap (p / q) = p / q := by rw [wrapU8]; omega
    simp [binOp, Op.intDiv, e, Int.tdiv_eq_ediv_of_nonneg h1, e4]) hn h
theorem op_idxS {bs : List UInt8} {k : IntKind} {p : Int} {j : Nat} {pos : _} {aft : _} {g : _} (s : NxF P n l E L Ls ⟨some d, .index t x y, ty, pos, aft, g⟩ X Y) (ht : P.underlying t = some .string) (hx : ev l x = some (str bs)) (hy : ev l y = some (.int k p)) (hj : p = (j : Int)) (hlt : j < bs.length) (hn : Nat.ble (d + 1) n = true) (h : At n ((d, .int .u8 ((bs.getD j 0).toNat : Int)) :: l) E L Y) : At n l E L X := by
  refine op_val s (fun a w hf hw => ?_) rfl hn h
  subst hj
  have e2 : (⟨bs.toArray⟩ : ByteArray).size = bs.length := rfl
  have e3 : (⟨bs.toArray⟩ : ByteArray)[j]? = some (bs.getD j 0) := by
    rw [getElem?_pos (⟨bs.toArray⟩ : ByteArray) j (by rw [e2]; exact hlt)]
    congr 1
    rw [List.getD_eq_getElem?_getD, List.getElem?_eq_getElem hlt]
    rfl
  simp only [execOp, hf.eval hx, hf.eval hy, str, Instr.index, asIntOf, Sem.run_bind, Sem.run_pure, Result.andThen_ok, run_underlying ht, Int.toNat_natCast]
  rw [if_pos (Int.natCast_nonneg j), e3]
  rfl
end
section
variable {P : Program} {n : Nat} {l : List (Nat × Value)} {E : World} {L Ls : List Heaplet} {X Y : Act → World → Prop} {d : Nat} {t ty : TypeId} {x : Operand}
theorem op_sliceStr {lo hi : Option Operand} {bs : List UInt8} {x' y' z' : Nat} {pos : _} {aft : _} {g : _} (s : NxF P n l E L Ls ⟨some d, .slice t x lo hi none, ty, pos, aft, g⟩ X Y) (ht : P.underlying t = some .string) (hx : ev l x = some (str bs)) (hlo : Bd l lo 0 x') (hhi : Bd l hi bs.length y') (hmx : Bd l none bs.length z') (h1 : x' ≤ y') (h2 : y' ≤ z') (h3 : z' ≤ bs.length)
    (hm : (none : Option Operand).isSome = true → hi.isSome = true) (hn : Nat.ble (d + 1) n = true) (h : At n ((d, str ((bs.drop x').take (y' - x'))) :: l) E L Y) : At n l E L X := by
  refine op_val s (fun a w hf hw => ?_) rfl hn h
  have e : (⟨bs.toArray⟩ : ByteArray).size = bs.length := rfl
  have e2 := run_sliceBounds (P := P) hf (isS := false) hlo hhi hmx h1 h2 h3 hm w
  rw [Option.map_none] at e2
  simp only [execOp, hf.eval hx, Instr.sliceAt, Instr.slice, str, Sem.run_bind, run_underlying ht, Result.andThen_ok, e, Option.map_none, Option.isSome_none, Bool.false_eq_true, if_false, e2, Sem.run_pure, ByteArray.extract_mk]
end
end Go.Proofs.YtdplcfineaikjaaDoor
/- A drawn region walked by a plan, where what is read stays as it is, and more may be read behind each act. No condition. -/
namespace Go.Proofs.YtdplcfineaikjaaDoor.Sg
set_option linter.unusedVariables false
set_option linter.unusedSimpArgs false
open Go Go.Proofs.YtdplcfineaikjaaDoor Go.Proofs.YtdplcfineaikjaaDoor.St
section
variable {P : Program} {ops : Array Oper} {md : Region.Mode} {S : World → Prop} {Q : Exit → Act → World → Prop}
def wpPlan (P : Program) (ops : Array Oper) (Q : Exit → Act → World → Prop) : Plan → (World → Prop) → Act → World → Prop
  | .done, _, a, w => Q .normal a w
  | .take i p, S, a, w =>
    match ops[i]? with
    | none => False
    | some o =>
      if Region.wanted o (yielded ops a.tmps) then ∃ v, (∀ w', S w' → (execOp a.eval o).run P w' = .ok (.value v) w') ∧ wpPlan P ops Q p S (a.put o.dst v) w
      else wpPlan P ops Q p S (a.put o.dst undef) w
  | .fork i sink p rest, S, a, w =>
    (match ops[i]? with
     | none => False
     | some o =>
       if Region.wanted o (yielded ops a.tmps) then o.wp P a w (fun a' w' => ∃ S' : World → Prop, (∀ u, S' u → S u) ∧ ((sink = true ∧ p = .done) ∨ S' w') ∧ wpPlan P ops Q p S' a' w') (fun _ _ _ => False)
       else wpPlan P ops Q p S (a.put o.dst undef) w) ∧ wpPlan P ops Q rest S a w
  | .nofork, _, _, _ => True
/-- One of those that may act first: its own step is among the plan's. -/
theorem chain_get {i : Nat} : ∀ {p : Plan} {G : Nat → Prop} {a : Act} {w : World}, ChainOK md ops p G → i ∈ p.heads → wpPlan P ops Q p S a w →
    ∃ (snk : Bool) (q : Plan), ((i < ops.size ∧ ¬ G i ∧ DepsIn md ops G i) ∧ (snk = true → ∀ j, G j → ∃ k, With G i k ∧ WaitsOn md ops k j) ∧ PlanOK md ops q (With G i)) ∧
      (match ops[i]? with
       | none => False
       | some o =>
         if Region.wanted o (yielded ops a.tmps) then o.wp P a w (fun a' w' => ∃ S' : World → Prop, (∀ u, S' u → S u) ∧ ((snk = true ∧ q = .done) ∨ S' w') ∧ wpPlan P ops Q q S' a' w') (fun _ _ _ => False)
         else wpPlan P ops Q q S (a.put o.dst undef) w)
  | .fork c snk q rest, G, a, w => fun hc hi hw => by
    rcases List.mem_cons.1 hi with rfl | hi
    · exact ⟨snk, q, hc.1, hw.1⟩
    · exact chain_get hc.2 hi hw.2
  | .done, _, _, _ => fun hc => hc.elim
  | .take _ _, _, _, _ => fun hc => hc.elim
  | .nofork, _, _, _ => fun _ hi => by cases hi

structure PlanInv (P : Program) (md : Region.Mode) (ops : Array Oper) (S : World → Prop) (Q : Exit → Act → World → Prop) (listed : Array Bool) (pend : List (Nat × Value)) (rem : Plan) (a ag : Act) (w : World) : Prop where
  size : listed.size = ops.size
  closed : ∀ j, listed.getD j false = true → DepsIn md ops (fun k => listed.getD k false = true) j
  apart : ∀ j ∈ pend.map (·.1), j < ops.size ∧ listed.getD j false = false
  nodup : (pend.map (·.1)).Nodup
  fl : ∀ j ∈ pend.map (·.1), FloatsAt ops j
  ord : OrdOK md ops (fun _ => false) (fun k => listed.getD k false = true) (pend.map (·.1))
  plan : PlanOK md ops rem (fun k => listed.getD k false = true ∨ k ∈ pend.map (·.1))
  run : St.PendRun P ops S a pend ag
  st : (pend = [] ∧ rem = .done) ∨ S w
  wp : wpPlan P ops Q rem S ag w

theorem wpAny_of_plan (hs : ∀ (j : Nat) (oj : Oper), ops[j]? = some oj → NoSel oj) (hp : PairsOK md ops) :
    ∀ (fuel : Nat) (S : World → Prop) (listed : Array Bool) (pend : List (Nat × Value)) (rem : Plan) (a ag : Act) (w : World),
      unl listed ≤ fuel → PlanInv P md ops S Q listed pend rem a ag w → wpAny P md ops Q fuel listed a w := by
  -- nothing is ready: all has been done
  have stop : ∀ (S : World → Prop) (rem : Plan) (listed : Array Bool) (pend : List (Nat × Value)) (a ag : Act) (w : World), PlanInv P md ops S Q listed pend rem a ag w → Region.ready md ops listed = [] → Q .normal a w := by
    intro S rem listed pend a ag w I hr
    have hnil : pend = [] := by
      cases pend with
      | nil => rfl
      | cons p pend =>
        have ha := I.apart p.1 (by simp)
        have : p.1 ∈ Region.ready md ops listed := (ready_iff I.size).2 ⟨ha.1, ha.2, I.ord.1⟩
        rw [hr] at this
        cases this
    subst hnil
    have hrun := I.run
    cases hrun
    have hpl := I.plan
    cases rem with
    | done => exact I.wp
    | take i p =>
      have h0 := hpl.1
      have : i ∈ Region.ready md ops listed := (ready_iff I.size).2 ⟨h0.1, by simpa using h0.2.1, h0.2.2.1.mono fun j hj => by simpa using hj⟩
      rw [hr] at this; cases this
    | fork i snk p rest =>
      have h0 := hpl.2.1.1
      have : i ∈ Region.ready md ops listed := (ready_iff I.size).2 ⟨h0.1, by simpa using h0.2.1, h0.2.2.mono fun j hj => by simpa using hj⟩
      rw [hr] at this; cases this
    | nofork => exact hpl.elim
  intro fuel
  induction fuel with
  | zero =>
    intro S listed pend rem a ag w hlen I
    have hready : Region.ready md ops listed = [] := by
      cases h : Region.ready md ops listed with
      | nil => rfl
      | cons j l =>
        have hj : j ∈ Region.ready md ops listed := by rw [h]; exact List.mem_cons_self
        obtain ⟨hlt, h0, _⟩ := (ready_iff I.size).1 hj
        rw [unl_zero (by omega) (by rw [I.size]; exact hlt)] at h0; cases h0
    exact ⟨hready, stop _ _ _ _ _ _ _ I hready⟩
  | succ fuel ih =>
    intro S listed pend rem a ag w hlen I
    refine ⟨stop _ _ _ _ _ _ _ I, ?_⟩
    intro i hi
    obtain ⟨hlt, hun, hd⟩ := (ready_iff I.size).1 hi
    obtain ⟨o, ho⟩ : ∃ o, ops[i]? = some o := ⟨_, Array.getElem?_eq_getElem hlt⟩
    have hil : i < listed.size := by rw [I.size]; exact hlt
    have hcnt : unl (listed.setIfInBounds i true) ≤ fuel := by have := unl_set hil hun; omega
    have hpull : ∀ (pend : List (Nat × Value)) (rem : Plan) (ag : Act), PlanInv P md ops S Q listed pend rem a ag w → i ∈ pend.map (·.1) →
        wpOp P ops Q i (wpAny P md ops Q fuel (listed.setIfInBounds i true)) a w := by
      intro pend rem ag I hm
      obtain ⟨⟨i', v⟩, hmem, rfl⟩ := List.mem_map.1 hm
      obtain ⟨pre, post, rfl⟩ := List.append_of_mem hmem
      dsimp only at *
      have hord := I.ord
      have hnd := I.nodup
      simp only [List.map_append, List.map_cons] at hord hnd
      have hn : i' ∉ pre.map (·.1) := by
        intro hh
        have := List.nodup_append.1 hnd
        exact this.2.2 i' hh i' List.mem_cons_self rfl
      have hpre : ∀ j ∈ pre.map (·.1), listed.getD j false = false := fun j hj => (I.apart j (by simp only [List.map_append]; exact List.mem_append_left _ hj)).2
      obtain ⟨h1, h2⟩ := St.PendRun.pull ho hs pre (apartPre' hp ho hd hpre hn (hord.noWait _ (by simp [hun]) hn)) I.run
      have hSw : S w := I.st.resolve_left (by rintro ⟨h, _⟩; simp at h)
      refine h1.wpOp hSw ho ?_
      refine ih S _ (pre ++ post) rem _ ag w hcnt ?_
      have hsub : ∀ j, j ∈ (pre ++ post).map (·.1) → j ∈ (pre ++ (i', v) :: post).map (·.1) ∧ j ≠ i' := by
        intro j hj
        simp only [List.map_append, List.map_cons] at hj ⊢
        refine ⟨?_, ?_⟩
        · rcases List.mem_append.1 hj with h | h
          · exact List.mem_append_left _ h
          · exact List.mem_append_right _ (List.mem_cons_of_mem _ h)
        · rintro rfl
          have hnd2 := List.nodup_append.1 hnd
          rcases List.mem_append.1 hj with h | h
          · exact hn h
          · exact (List.nodup_cons.1 hnd2.2.1).1 h
      refine ⟨by simpa using I.size, closed_set I.size hlt I.closed hd, ?_, ?_, ?_, ?_, ?_, h2, .inr hSw, I.wp⟩
      · intro j hj
        obtain ⟨h1, h2⟩ := hsub j hj
        refine ⟨(I.apart j h1).1, ?_⟩
        rw [getD_set_ne false (Ne.symm h2)]
        exact (I.apart j h1).2
      · simp only [List.map_append]
        exact (List.nodup_cons.1 ((List.Perm.nodup_iff List.perm_middle).1 hnd)).2
      · intro j hj
        exact I.fl j (hsub j hj).1
      · have := OrdOK.pull (pre.map (·.1)) (fun j hj => I.fl j (by simp only [List.map_append]; exact List.mem_append_left _ hj)) hd hord
        simp only [List.map_append]
        exact OrdOK.congr (fun j => (getD_setIf hil).symm) this
      · refine PlanOK.congr (fun j => ?_) I.plan
        rw [getD_setIf hil]
        simp only [With, List.map_append, List.map_cons, List.mem_append, List.mem_cons]
        constructor
        · rintro (h | h | h | h)
          · exact .inl (.inl h)
          · exact .inr (.inl h)
          · exact .inl (.inr h)
          · exact .inr (.inr h)
        · rintro ((h | h) | h | h)
          · exact .inl h
          · exact .inr (.inr (.inl h))
          · exact .inr (.inl h)
          · exact .inr (.inr (.inr h))
    have hact : ∀ (pend : List (Nat × Value)) (rem : Plan) (ag : Act), PlanInv P md ops S Q listed pend rem a ag w → S w → i ∉ pend.map (·.1) →
        (∃ (snk : Bool) (q : Plan), ((i < ops.size ∧ ¬ (listed.getD i false = true ∨ i ∈ pend.map (·.1)) ∧ DepsIn md ops (fun k => listed.getD k false = true ∨ k ∈ pend.map (·.1)) i) ∧
            (snk = true → ∀ j, (listed.getD j false = true ∨ j ∈ pend.map (·.1)) → ∃ k, With (fun k => listed.getD k false = true ∨ k ∈ pend.map (·.1)) i k ∧ WaitsOn md ops k j) ∧
            PlanOK md ops q (With (fun k => listed.getD k false = true ∨ k ∈ pend.map (·.1)) i)) ∧
          (match ops[i]? with
           | none => False
           | some o =>
             if Region.wanted o (yielded ops ag.tmps) then o.wp P ag w (fun a' w' => ∃ S' : World → Prop, (∀ u, S' u → S u) ∧ ((snk = true ∧ q = .done) ∨ S' w') ∧ wpPlan P ops Q q S' a' w') (fun _ _ _ => False)
             else wpPlan P ops Q q S (ag.put o.dst undef) w)) →
        wpOp P ops Q i (wpAny P md ops Q fuel (listed.setIfInBounds i true)) a w := by
      intro pend rem ag I hSw him ⟨snk, q, ⟨_, hsink, hq⟩, hwp⟩
      simp only [ho] at hwp
      have hpre : ∀ j ∈ pend.map (·.1), listed.getD j false = false := fun j hj => (I.apart j hj).2
      have hap := apartPre' hp ho hd hpre him (I.ord.noWait' _ (by simp [hun]) him)
      obtain ⟨e1, e2, e3⟩ := St.PendRun.push hs (hs i o ho) I.run hap
      have hnil : snk = true → pend = [] := fun hsa => by
        rcases List.eq_nil_or_concat pend with h | ⟨pre, ⟨j, u⟩, h⟩
        · exact h
        · exfalso
          rw [List.concat_eq_append] at h
          subst h
          have hjm : j ∈ (pre ++ [(j, u)]).map (·.1) := by simp
          have hju := hpre j hjm
          obtain ⟨k, hk, hwt⟩ := hsink hsa j (.inr hjm)
          have hord := I.ord
          have hnd := I.nodup
          simp only [List.map_append, List.map_cons, List.map_nil] at hord hnd
          have hjn : j ∉ pre.map (·.1) := fun hh => (List.nodup_append.1 hnd).2.2 j hh j List.mem_cons_self rfl
          have hself : ¬ WaitsOn md ops j j := by
            intro hh
            obtain ⟨o', ho', e, he, hb, heq⟩ := hh
            have h0 := (OrdOK.at (pre.map (·.1)) hord).1 o' ho' e he hb
            rw [heq] at h0
            rcases h0 with h0 | h0
            · rw [hju] at h0; cases h0
            · exact hjn h0
          obtain ⟨o', ho', e, he, hb, heq⟩ := hwt
          rcases hk with (hk | hk) | hk
          · have := I.closed k hk o' ho' e he hb
            rw [heq, hju] at this; cases this
          · simp only [List.map_append, List.map_cons, List.map_nil, List.mem_append, List.mem_singleton] at hk
            rcases hk with hk | hk
            · exact hord.noWait _ (by simp [hju]) hjn k hk ⟨o', ho', e, he, hb, heq⟩
            · subst hk; exact hself ⟨o', ho', e, he, hb, heq⟩
          · subst hk
            have := hd o' ho' e he hb
            rw [heq, hju] at this; cases this
      have hstep : ∀ (S' : World → Prop) w', (∀ u, S' u → S u) → ((snk = true ∧ q = .done) ∨ S' w') → ∀ a' ag', wpPlan P ops Q q S' ag' w' → St.PendRun P ops S a' pend ag' → wpAny P md ops Q fuel (listed.setIfInBounds i true) a' w' := by
        intro S' w' hsub hsa a' ag' hw' hrun'
        have hrun2 : St.PendRun P ops S' a' pend ag' := hrun'.mono hsub
        have hSt : (pend = [] ∧ q = .done) ∨ S' w' := hsa.imp (fun h => ⟨hnil h.1, h.2⟩) id
        refine ih S' _ pend q a' ag' w' hcnt ?_
        have hne : ∀ j ∈ pend.map (·.1), j ≠ i := fun j hj e => him (e ▸ hj)
        refine ⟨by simpa using I.size, closed_set I.size hlt I.closed hd, ?_, I.nodup, I.fl, ?_, ?_, hrun2, hSt, hw'⟩
        · intro j hj
          refine ⟨(I.apart j hj).1, ?_⟩
          rw [getD_set_ne false (Ne.symm (hne j hj))]
          exact (I.apart j hj).2
        · have hup : ∀ (l : List Nat) {G G' : Nat → Prop}, (∀ j, G j → G' j) → (∀ j ∈ l, FloatsAt ops j) → OrdOK md ops (fun _ => false) G l → OrdOK md ops (fun _ => false) G' l := by
            intro l
            induction l with
            | nil => intro G G' _ _ _; trivial
            | cons j l ihl =>
              intro G G' hG hf h
              exact ⟨h.1.mono hG, .inl (hf j List.mem_cons_self), ihl (fun k hk => hk.imp (hG k) id) (fun k hk => hf k (List.mem_cons_of_mem _ hk)) h.2.2⟩
          exact hup _ (fun j hj => (getD_setIf hil).2 (.inl hj)) I.fl I.ord
        · refine PlanOK.congr (fun j => ?_) hq
          rw [getD_setIf hil]
          simp only [With]
          constructor
          · rintro ((h | h) | h)
            · exact .inl (.inl h)
            · exact .inr h
            · exact .inl (.inr h)
          · rintro ((h | h) | h)
            · exact .inl (.inl h)
            · exact .inr h
            · exact .inl (.inr h)
      unfold Go.wpOp
      simp only [ho]
      by_cases hw : Region.wanted o (yielded ops ag.tmps) = true
      · rw [if_pos hw] at hwp
        rw [← e2, if_pos hw]
        left
        unfold Oper.wp at hwp ⊢
        rw [e1] at hwp
        refine upon_carry (fun v w' hk => ?_) (fun d w' hk => ?_) hwp
        · obtain ⟨S', h1, h2, h3⟩ := hk; exact hstep S' w' h1 h2 _ _ h3 (e3 v)
        · obtain ⟨S', h1, h2, h3⟩ := hk; exact hstep S' w' h1 h2 _ _ h3 ((St.PendRun.push hs (hs i o ho) (I.run.defers d) hap).2.2 undef)
      · rw [if_neg hw] at hwp
        rw [← e2, if_neg hw]
        exact hstep S w (fun _ h => h) (.inr hSw) _ _ hwp (e3 undef)
    have hgo : ∀ (rem : Plan) (pend : List (Nat × Value)) (ag : Act), PlanInv P md ops S Q listed pend rem a ag w →
        wpOp P ops Q i (wpAny P md ops Q fuel (listed.setIfInBounds i true)) a w := by
      intro rem
      induction rem with
      | done =>
        intro pend ag I
        rcases I.plan i hlt with h | h
        · rw [hun] at h; cases h
        · exact hpull pend .done ag I h
      | nofork => intro pend ag I; exact I.plan.elim
      | take c p ihp =>
        intro pend ag I
        obtain ⟨⟨hc1, hc2, hc3, hc4⟩, hpl⟩ := I.plan
        obtain ⟨oc, hoc⟩ : ∃ oc, ops[c]? = some oc := ⟨_, Array.getElem?_eq_getElem hc1⟩
        have hwp := I.wp
        simp only [wpPlan, hoc] at hwp
        have hnext : ∃ v, St.RunsNow P ops S oc ag v ∧ wpPlan P ops Q p S (ag.put oc.dst v) w := by
          by_cases hw : Region.wanted oc (yielded ops ag.tmps) = true
          · rw [if_pos hw] at hwp
            obtain ⟨v, h1, h2⟩ := hwp
            exact ⟨v, .inl ⟨hw, h1⟩, h2⟩
          · rw [if_neg hw] at hwp
            exact ⟨undef, .inr ⟨by simpa using hw, rfl⟩, hwp⟩
        obtain ⟨v, hrn, hwp'⟩ := hnext
        have e : (pend ++ [(c, v)]).map (·.1) = pend.map (·.1) ++ [c] := by simp
        refine ihp (pend ++ [(c, v)]) (ag.put oc.dst v) ⟨I.size, I.closed, ?_, ?_, ?_, ?_, ?_, I.run.snoc hoc hrn, .inr (I.st.resolve_left (by rintro ⟨_, h⟩; cases h)), hwp'⟩
        · rw [e]; intro j hj
          rcases List.mem_append.1 hj with h | h
          · exact I.apart j h
          · simp at h; subst h; exact ⟨hc1, by simpa using fun h => hc2 (.inl h)⟩
        · rw [e]
          refine List.nodup_append.2 ⟨I.nodup, by simp, fun x hx y hy => ?_⟩
          simp at hy; subst hy
          intro e; subst e; exact hc2 (.inr hx)
        · rw [e]; intro j hj
          rcases List.mem_append.1 hj with h | h
          · exact I.fl j h
          · simp at h; subst h; exact hc4
        · rw [e]; exact I.ord.snoc _ hc3 hc4
        · refine PlanOK.congr (fun j => ?_) hpl
          rw [e]
          simp only [With, List.mem_append, List.mem_singleton, or_assoc]
      | fork c snk p rest _ _ =>
        intro pend ag I
        by_cases him : i ∈ pend.map (·.1)
        · exact hpull pend _ ag I him
        · refine hact pend _ ag I (I.st.resolve_left (by rintro ⟨_, h⟩; cases h)) him ?_
          obtain ⟨hall, hone, hrest⟩ := I.plan
          have hmem := hall i hlt (by simp only [not_or]; exact ⟨by simp [hun], him⟩) (hd.mono fun j hj => .inl hj)
          have hchain : ChainOK md ops (.fork c snk p rest) (fun k => listed.getD k false = true ∨ k ∈ pend.map (·.1)) := ⟨hone, hrest⟩
          exact chain_get hchain hmem I.wp
    exact hgo rem pend ag I

theorem wp_plan {id : Nat} {a : Act} {w : World} {l : List Oper} (p : Plan) (hm : P.follows .mixedOrders = true) (hB : planOKB .any l.toArray p = true) (hS : S w.drew)
    (h : wpPlan P l.toArray Q p S a w.drew) : (Code.region id l.toArray true).wp P Q a w := by
  simp only [planOKB, Bool.and_eq_true] at hB
  obtain ⟨⟨hsel, hpair⟩, hplan⟩ := hB
  refine wp_region_any hm ?_
  have hrep : ∀ j, (Array.replicate l.toArray.size false).getD j false = false := by
    intro j
    rw [Array.getD_eq_getD_getElem?, Array.getElem?_replicate]
    split <;> rfl
  refine wpAny_of_plan (fun j oj hj cs b => Region.noSelect_spec hsel j oj cs b hj) (pairsB_spec hpair) _ S _ [] p a a _ ?_ ⟨by simp, ?_, by simp, by simp, by simp, trivial, ?_, .nil _, .inr hS, h⟩
  · unfold unl
    rw [Array.toList_replicate, List.count_replicate]
    simp
  · intro j hj
    rw [hrep] at hj; cases hj
  · exact PlanOK.congr (fun j => by simp) ((planB_spec p).1 _ (by simp) hplan)

/-- What acts first. -/
def wpFork (P : Program) (ops : Array Oper) (Q : Exit → Act → World → Prop) (i : Nat) (sink : Bool) (p : Plan) (S : World → Prop) (a : Act) (w : World) : Prop :=
  match ops[i]? with
     | none => False
     | some o =>
       if Region.wanted o (yielded ops a.tmps) then o.wp P a w (fun a' w' => ∃ S' : World → Prop, (∀ u, S' u → S u) ∧ ((sink = true ∧ p = .done) ∨ S' w') ∧ wpPlan P ops Q p S' a' w') (fun _ _ _ => False)
       else wpPlan P ops Q p S (a.put o.dst undef) w
section
variable {a : Act} {w : World} {i : Nat} {p rest : Plan} {o : Oper} {snk : Bool}
theorem wpPlan_fork (h : wpFork P ops Q i snk p S a w) (hr : wpPlan P ops Q rest S a w) : wpPlan P ops Q (.fork i snk p rest) S a w := ⟨h, hr⟩
theorem wpPlan_take {v : Value} (ho : ops[i]? = some o) (hw : Region.wanted o (yielded ops a.tmps) = true) (hr : ∀ w', S w' → (execOp a.eval o).run P w' = .ok (.value v) w') (h : wpPlan P ops Q p S (a.put o.dst v) w) : wpPlan P ops Q (.take i p) S a w := by
  simp only [wpPlan, ho, if_pos hw]
  exact ⟨v, hr, h⟩
theorem wpPlan_skip (ho : ops[i]? = some o) (hw : Region.wanted o (yielded ops a.tmps) = false) (h : wpPlan P ops Q p S (a.put o.dst undef) w) : wpPlan P ops Q (.take i p) S a w := by
  simp only [wpPlan, ho, hw]
  exact h
theorem wpFork_act (ho : ops[i]? = some o) (hw : Region.wanted o (yielded ops a.tmps) = true) (h : o.wp P a w (fun a' w' => ∃ S' : World → Prop, (∀ u, S' u → S u) ∧ S' w' ∧ wpPlan P ops Q p S' a' w') (fun _ _ _ => False)) : wpFork P ops Q i snk p S a w := by
  simp only [wpFork, ho, if_pos hw]
  exact Oper.wp_mono (fun _ _ h => by obtain ⟨S', h1, h2, h3⟩ := h; exact ⟨S', h1, .inr h2, h3⟩) h
theorem wpFork_last (ho : ops[i]? = some o) (hw : Region.wanted o (yielded ops a.tmps) = true) (h : o.wp P a w (wpPlan P ops Q .done S) (fun _ _ _ => False)) : wpFork P ops Q i true .done S a w := by
  simp only [wpFork, ho, if_pos hw]
  exact Oper.wp_mono (fun _ _ h => ⟨S, fun _ h => h, .inl (by simp), h⟩) h
theorem wpFork_pass (ho : ops[i]? = some o) (hw : Region.wanted o (yielded ops a.tmps) = false) (h : wpPlan P ops Q p S (a.put o.dst undef) w) : wpFork P ops Q i snk p S a w := by
  simp only [wpFork, ho, hw]
  exact h
end
end
end Go.Proofs.YtdplcfineaikjaaDoor.Sg
/- The engine: a region that draws its order, by a plan, where more may be read behind each act. For whatever program. No condition. -/
namespace Go.Proofs.YtdplcfineaikjaaDoor
set_option linter.unusedVariables false
set_option linter.unusedSimpArgs false
open Go Go.RowKit
section
variable {P : Program} {n : Nat} {l : List (Nat × Value)} {E : World} {L Lst : List Heaplet} {Q : Exit → Act → World → Prop} {ops : Array Oper} {o : Oper} {i : Nat}
theorem At.planG {id : Nat} {ops : List Oper} (Lst : List Heaplet) (p : Plan) (hm : P.follows .mixedOrders = true) (hB : planOKB .any ops.toArray p = true) (hs : Lst.Sublist L)
    (h : At n l E L (Sg.wpPlan P ops.toArray Q p (Hp E Lst))) : At n l E L ((Code.region id ops.toArray true).wp P Q) := fun a w hf hw => Sg.wp_plan p hm hB (hw.drew.drop hs) (h a w.drew hf hw.drew)
theorem At.gDone {S : World → Prop} (h : At n l E L (Q .normal)) : At n l E L (Sg.wpPlan P ops Q .done S) := h
theorem At.gNo {S : World → Prop} : At n l E L (Sg.wpPlan P ops Q .nofork S) := fun _ _ _ _ => trivial
theorem At.forkG {S : World → Prop} {i : Nat} {snk : Bool} {p rest : Plan} (h : At n l E L (Sg.wpFork P ops Q i snk p S)) (hr : At n l E L (Sg.wpPlan P ops Q rest S)) : At n l E L (Sg.wpPlan P ops Q (.fork i snk p rest) S) := fun a w hf hw => Sg.wpPlan_fork (h a w hf hw) (hr a w hf hw)
variable {pl : Plan} {snk : Bool}
theorem nxqf (ho : ops[i]? = some o) (hg : o.guard = none) : NxF P n l E L Lst o (Sg.wpPlan P ops Q (.take i pl) (Hp E Lst)) (Sg.wpPlan P ops Q pl (Hp E Lst)) := fun a w v hfr hw hr hy =>
  Sg.wpPlan_take ho (by simp [Region.wanted, hg]) hr hy
theorem nxqgf {j : Nat} {b : Bool} {oj : Oper} {d : Nat} (ho : ops[i]? = some o) (hg : o.guard = some (j, b)) (hj : ops[j]? = some oj) (hd : oj.dst = some d) (hv : lk l d = some (.bool b)) : NxF P n l E L Lst o (Sg.wpPlan P ops Q (.take i pl) (Hp E Lst)) (Sg.wpPlan P ops Q pl (Hp E Lst)) := fun a w v hfr hw hr hy =>
  Sg.wpPlan_take ho (by rw [wanted_of hfr hg hj hd hv]; simp) hr hy
theorem nxqa (ho : ops[i]? = some o) (hg : o.guard = none) : Nx P n l E L o (Sg.wpFork P ops Q i snk pl (Hp E Lst)) (fun a w => ∃ S' : World → Prop, (∀ u, S' u → Hp E Lst u) ∧ S' w ∧ Sg.wpPlan P ops Q pl S' a w) := fun a w hfr hw hx =>
  Sg.wpFork_act ho (by simp [Region.wanted, hg]) hx
theorem nxqga {j : Nat} {b : Bool} {oj : Oper} {d : Nat} (ho : ops[i]? = some o) (hg : o.guard = some (j, b)) (hj : ops[j]? = some oj) (hd : oj.dst = some d) (hv : lk l d = some (.bool b)) : Nx P n l E L o (Sg.wpFork P ops Q i snk pl (Hp E Lst)) (fun a w => ∃ S' : World → Prop, (∀ u, S' u → Hp E Lst u) ∧ S' w ∧ Sg.wpPlan P ops Q pl S' a w) := fun a w hfr hw hx =>
  Sg.wpFork_act ho (by rw [wanted_of hfr hg hj hd hv]; simp) hx
theorem nxql (ho : ops[i]? = some o) (hg : o.guard = none) : Nx P n l E L o (Sg.wpFork P ops Q i true .done (Hp E Lst)) (Sg.wpPlan P ops Q .done (Hp E Lst)) := fun a w hfr hw hx =>
  Sg.wpFork_last ho (by simp [Region.wanted, hg]) hx
theorem At.moreG {Lst Lst' : List Heaplet} (h1 : Lst.Sublist Lst') (hs : Lst'.Sublist L) (h : At n l E L (Sg.wpPlan P ops Q pl (Hp E Lst'))) : At n l E L (fun a w => ∃ S' : World → Prop, (∀ u, S' u → Hp E Lst u) ∧ S' w ∧ Sg.wpPlan P ops Q pl S' a w) := fun a w hf hw => ⟨Hp E Lst', fun _ hu => hu.drop h1, hw.drop hs, h a w hf hw⟩
theorem op_qskip {S : World → Prop} {j : Nat} {b c : Bool} {oj : Oper} {d e : Nat} (ho : ops[i]? = some o) (hg : o.guard = some (j, b)) (hj : ops[j]? = some oj) (hd : oj.dst = some d) (hv : lk l d = some (.bool c)) (hc : (c == b) = false) (he : o.dst = some e) (hn : Nat.ble (e + 1) n = true)
    (h : At n ((e, undef) :: l) E L (Sg.wpPlan P ops Q pl S)) : At n l E L (Sg.wpPlan P ops Q (.take i pl) S) := fun a w hf hw =>
  Sg.wpPlan_skip ho (by rw [wanted_of hf hg hj hd hv, hc]) (by rw [he]; exact h _ _ (hf.put (Nat.le_of_ble_eq_true hn)) hw)
theorem op_qpass {S : World → Prop} {j : Nat} {b c : Bool} {oj : Oper} {d e : Nat} (ho : ops[i]? = some o) (hg : o.guard = some (j, b)) (hj : ops[j]? = some oj) (hd : oj.dst = some d) (hv : lk l d = some (.bool c)) (hc : (c == b) = false) (he : o.dst = some e) (hn : Nat.ble (e + 1) n = true)
    (h : At n ((e, undef) :: l) E L (Sg.wpPlan P ops Q pl S)) : At n l E L (Sg.wpFork P ops Q i snk pl S) := fun a w hf hw =>
  Sg.wpFork_pass ho (by rw [wanted_of hf hg hj hd hv, hc]) (by rw [he]; exact h _ _ (hf.put (Nat.le_of_ble_eq_true hn)) hw)
theorem op_qskipU {S : World → Prop} {j : Nat} {b : Bool} {oj : Oper} {d e : Nat} (ho : ops[i]? = some o) (hg : o.guard = some (j, b)) (hj : ops[j]? = some oj) (hd : oj.dst = some d) (hv : lk l d = some undef) (he : o.dst = some e) (hn : Nat.ble (e + 1) n = true)
    (h : At n ((e, undef) :: l) E L (Sg.wpPlan P ops Q pl S)) : At n l E L (Sg.wpPlan P ops Q (.take i pl) S) := fun a w hf hw =>
  Sg.wpPlan_skip ho (unwanted_of hf hg hj hd hv) (by rw [he]; exact h _ _ (hf.put (Nat.le_of_ble_eq_true hn)) hw)
theorem op_qpassU {S : World → Prop} {j : Nat} {b : Bool} {oj : Oper} {d e : Nat} (ho : ops[i]? = some o) (hg : o.guard = some (j, b)) (hj : ops[j]? = some oj) (hd : oj.dst = some d) (hv : lk l d = some undef) (he : o.dst = some e) (hn : Nat.ble (e + 1) n = true)
    (h : At n ((e, undef) :: l) E L (Sg.wpPlan P ops Q pl S)) : At n l E L (Sg.wpFork P ops Q i snk pl S) := fun a w hf hw =>
  Sg.wpFork_pass ho (unwanted_of hf hg hj hd hv) (by rw [he]; exact h _ _ (hf.put (Nat.le_of_ble_eq_true hn)) hw)
end
end Go.Proofs.YtdplcfineaikjaaDoor
