/- Several texts in one: see the remarks ahead of each part. No condition but those told there. -/
import Derived.Test.YtlkjfbfenpkmhaaDoorU3
import Derived.Laws.OwnMore
import Derived.Test.YtlkjfbfenpkmhaaDoorProg
import Derived.WalkKit
import Derived.Test.YtlkjfbfenpkmhaaDoorU2
/- The engine, part 7: what the walker's text leans on. For whatever program. No condition. -/
namespace Go.Proofs.YtlkjfbfenpkmhaaDoor
set_option linter.unusedVariables false
set_option linter.unusedSimpArgs false
open Go Go.RowKit
theorem mem0 {A : Heaplet} {L : List Heaplet} : A ∈ A :: L := List.Mem.head _
theorem mem1 {A B : Heaplet} {L : List Heaplet} : A ∈ B :: A :: L := List.Mem.tail _ mem0
theorem mem2 {A B C : Heaplet} {L : List Heaplet} : A ∈ B :: C :: A :: L := List.Mem.tail _ mem1
theorem mem3 {A B C D : Heaplet} {L : List Heaplet} : A ∈ B :: C :: D :: A :: L := List.Mem.tail _ mem2
theorem mem4 {A B C D F : Heaplet} {L : List Heaplet} : A ∈ B :: C :: D :: F :: A :: L := List.Mem.tail _ mem3
theorem mem5 {A B C D F G : Heaplet} {L : List Heaplet} : A ∈ B :: C :: D :: F :: G :: A :: L := List.Mem.tail _ mem4
theorem mem6 {A B C D F G H : Heaplet} {L : List Heaplet} : A ∈ B :: C :: D :: F :: G :: H :: A :: L := List.Mem.tail _ mem5
theorem mem7 {A B C D F G H I : Heaplet} {L : List Heaplet} : A ∈ B :: C :: D :: F :: G :: H :: I :: A :: L := List.Mem.tail _ mem6
theorem mem8 {A B C D F G H I J : Heaplet} {L : List Heaplet} : A ∈ B :: C :: D :: F :: G :: H :: I :: J :: A :: L := List.Mem.tail _ mem7
theorem sel5 {A B C D F G : Heaplet} {L : List Heaplet} : (B :: C :: D :: F :: G :: A :: L).Perm (A :: B :: C :: D :: F :: G :: L) := (List.Perm.cons _ sel4).trans (.swap _ _ _)
theorem sel6 {A B C D F G H : Heaplet} {L : List Heaplet} : (B :: C :: D :: F :: G :: H :: A :: L).Perm (A :: B :: C :: D :: F :: G :: H :: L) := (List.Perm.cons _ sel5).trans (.swap _ _ _)
theorem sel7 {A B C D F G H I : Heaplet} {L : List Heaplet} : (B :: C :: D :: F :: G :: H :: I :: A :: L).Perm (A :: B :: C :: D :: F :: G :: H :: I :: L) := (List.Perm.cons _ sel6).trans (.swap _ _ _)
theorem sel8 {A B C D F G H I J : Heaplet} {L : List Heaplet} : (B :: C :: D :: F :: G :: H :: I :: J :: A :: L).Perm (A :: B :: C :: D :: F :: G :: H :: I :: J :: L) := (List.Perm.cons _ sel7).trans (.swap _ _ _)
theorem sel9 {A B C D F G H I J K : Heaplet} {L : List Heaplet} : (B :: C :: D :: F :: G :: H :: I :: J :: K :: A :: L).Perm (A :: B :: C :: D :: F :: G :: H :: I :: J :: K :: L) := (List.Perm.cons _ sel8).trans (.swap _ _ _)
theorem sel10 {A B C D F G H I J K M : Heaplet} {L : List Heaplet} : (B :: C :: D :: F :: G :: H :: I :: J :: K :: M :: A :: L).Perm (A :: B :: C :: D :: F :: G :: H :: I :: J :: K :: M :: L) := (List.Perm.cons _ sel9).trans (.swap _ _ _)
theorem sel11 {A B C D F G H I J K M O : Heaplet} {L : List Heaplet} : (B :: C :: D :: F :: G :: H :: I :: J :: K :: M :: O :: A :: L).Perm (A :: B :: C :: D :: F :: G :: H :: I :: J :: K :: M :: O :: L) := (List.Perm.cons _ sel10).trans (.swap _ _ _)
theorem sel12 {A B C D F G H I J K M O P : Heaplet} {L : List Heaplet} : (B :: C :: D :: F :: G :: H :: I :: J :: K :: M :: O :: P :: A :: L).Perm (A :: B :: C :: D :: F :: G :: H :: I :: J :: K :: M :: O :: P :: L) := (List.Perm.cons _ sel11).trans (.swap _ _ _)
theorem mem9 {A B C D F G H I J K : Heaplet} {L : List Heaplet} : A ∈ B :: C :: D :: F :: G :: H :: I :: J :: K :: A :: L := List.Mem.tail _ mem8
theorem mem10 {A B C D F G H I J K M : Heaplet} {L : List Heaplet} : A ∈ B :: C :: D :: F :: G :: H :: I :: J :: K :: M :: A :: L := List.Mem.tail _ mem9
theorem mem11 {A B C D F G H I J K M O : Heaplet} {L : List Heaplet} : A ∈ B :: C :: D :: F :: G :: H :: I :: J :: K :: M :: O :: A :: L := List.Mem.tail _ mem10
theorem mem12 {A B C D F G H I J K M O P : Heaplet} {L : List Heaplet} : A ∈ B :: C :: D :: F :: G :: H :: I :: J :: K :: M :: O :: P :: A :: L := List.Mem.tail _ mem11
theorem mem13 {A B C D F G H I J K M O P Q : Heaplet} {L : List Heaplet} : A ∈ B :: C :: D :: F :: G :: H :: I :: J :: K :: M :: O :: P :: Q :: A :: L := List.Mem.tail _ mem12
theorem lkI {l : List (Nat × Value)} {i : Nat} {k : IntKind} {p q : Int} (h : lk l i = some (.int k p)) (e : p = q) : lk l i = some (.int k q) := by rw [h, e]
theorem lkB {l : List (Nat × Value)} {i : Nat} {p q : Bool} (h : lk l i = some (.bool p)) (e : p = q) : lk l i = some (.bool q) := by rw [h, e]
theorem lkV {l : List (Nat × Value)} {i : Nat} {p q : Value} (h : lk l i = some p) (e : p = q) : lk l i = some q := by rw [h, e]
theorem und_some {P : Program} {t : TypeId} {d : TypeDesc} (h : P.underlying t = some d) : (P.underlying t).isSome = true := by rw [h]; rfl
theorem getD_some {α : Type} {l : List α} {j : Nat} {z : α} (h : j < l.length) : l[j]? = some (l.getD j z) := by
  rw [List.getD_eq_getElem?_getD, List.getElem?_eq_getElem h]; rfl
theorem get8 {bs : List UInt8} {j : Nat} (h : j < bs.length) : (u8s bs)[j]? = some (.int .u8 ((bs.getD j 0).toNat : Int)) := by
  rw [u8s, List.getElem?_map, getD_some (z := 0) h]; rfl
theorem get64 {bs : List UInt64} {j : Nat} (h : j < bs.length) : (u64s bs)[j]? = some (.int .u64 ((bs.getD j 0).toNat : Int)) := by
  rw [u64s, List.getElem?_map, getD_some (z := 0) h]; rfl
theorem get32 {bs : List UInt32} {j : Nat} (h : j < bs.length) : (u32s bs)[j]? = some (.int .u32 ((bs.getD j 0).toNat : Int)) := by
  rw [u32s, List.getElem?_map, getD_some (z := 0) h]; rfl
section
variable {P : Program} {n : Nat} {l l' : List (Nat × Value)} {E : World} {L L1 Ls : List Heaplet} {o : Oper} {X Y K : Act → World → Prop} {N : Heaplet} {Q : Exit → Act → World → Prop}
variable {d : Nat} {ty t t' e : TypeId} {pos : String} {aft : Array Edge} {g : Option (Nat × Bool)} {v : Value} {x y z : Operand} {k : IntKind} {p q : Int} {size len cap : Nat} {ao : Option Addr} {xs : List Value} {b off j : Nat}
theorem At.cut {c : Code} (hk : Keeps l l') (hc : At n ((d, v) :: l') E L K) (hb : ∀ K', (∀ l'', Keeps l'' l' → lk l'' d = some v → At n l'' E L K') → At n l E L (c.wp P (Exit.then K' Q))) : At n l E L (c.wp P (Exit.then K Q)) :=
  hb K fun l'' h1 h2 => At.keep (.cons h2 h1) hc
theorem op_idx1 (s : NxF P n l E L Ls ⟨some d, .indexAddr t x y, ty, pos, aft, g⟩ X Y) (ht : selt P t = some (e, 1)) (hx : ev l x = some (.slice ao len cap)) (hy : ev l y = some (.int k p)) (hs : RSl N 1 ao len cap xs) (hj : p = (j : Int)) (hlt : j < len) (hn : Nat.ble (d + 1) n = true) (h : At n ((d, eptr ao j) :: l) E L Y) : At n l E L X :=
  op_idxE s ht hx hy hs hj hlt hn (by rw [Nat.mul_one]; exact h)
theorem At.ret1E {Post : Value → List Heaplet → Prop} {R : Heaplet} {L2 : List Heaplet} {fn : Func} {r : ResultVar} {v : Value} (hr : fn.results = #[r]) (hv : Res P l L [r] [v]) (hs : L2.Sublist L) (hL : L2.Perm (L1 ++ [R])) (hP : Post v L1) :
    At n l E L (bodyPost P fn (Done E R Post) .normal) := At.ret1 hr hv hs hL hP
theorem At.retNE {Post : Value → List Heaplet → Prop} {R : Heaplet} {L2 : List Heaplet} {fn : Func} {rs : List ResultVar} {vs : List Value} (hr : fn.results = rs.toArray)
    (hv : Res P l L rs vs) (hn : (vs.length == 1) = false) (hs : L2.Sublist L) (hL : L2.Perm (L1 ++ [R])) (hP : Post (.tuple vs.toArray) L1) :
    At n l E L (bodyPost P fn (Done E R Post) .normal) := At.retN hr hv hn hs hL hP
theorem res_agg {cs ds : List Value} {kk : Nat} (ht : aggOf P t = some kk) (hb : Blk N b e cs) (hd : (cs.drop off).take kk = ds) (hk : ds.length = kk) (hN : N ∈ L) : ∀ E w, Hp E L w → (loadVar t ⟨b, off, none⟩).run P w = .ok (.agg ds.toArray) w := fun E w hw =>
  run_load_agg ht hk fun i hi => hw.cell hN (by
    have h2 : ((cs.drop off).take kk)[i]? = some ds[i] := by rw [hd]; exact List.getElem?_eq_getElem hi
    rw [List.getElem?_take, if_pos (by omega), List.getElem?_drop] at h2
    obtain ⟨hl, he⟩ := List.getElem?_eq_some_iff.1 h2
    have := hb.rng (off + i) hl
    rw [Nat.zero_add] at this
    rw [this, he])
theorem res_scal {cs : List Value} (ht : scal P t = true) (hb : Blk N b e cs) (hd : cs[off]? = some v) (hN : N ∈ L) : ∀ E w, Hp E L w → (loadVar t ⟨b, off, none⟩).run P w = .ok v w := fun E w hw =>
  run_load_scal ht (hw.cell hN (by
    obtain ⟨hl, he⟩ := List.getElem?_eq_some_iff.1 hd
    have := hb.rng off hl
    rw [Nat.zero_add] at this
    rw [this, he]))
/-! aggregates -/
inductive Pts (l : List (Nat × Value)) : List (Nat × Operand) → List (Nat × Value) → Prop
  | nil : Pts l [] []
  | cons {i : Nat} {x : Operand} {v : Value} {xs : List (Nat × Operand)} {vs : List (Nat × Value)} (h : ev l x = some v) (k : Pts l xs vs) : Pts l ((i, x) :: xs) ((i, v) :: vs)
theorem Pts.map {xs : List (Nat × Operand)} {vs : List (Nat × Value)} (h : Pts l xs vs) {a : Act} (hf : Fr n l a) : (xs.map fun p => (p.1, a.eval p.2)) = vs := by
  induction h with
  | nil => rfl
  | cons h _ ih => rw [List.map_cons, ih]; simp [hf.eval h]
/-- The parts of a struct put in place. -/
def fillL (ps : List (Nat × Nat)) (cells : List Value) : List (Nat × Value) → Option (List Value)
  | [] => some cells
  | (i, v) :: rest => match ps[i]? with
    | none => none
    | some (off, size) => if v.cells.toList.length = size ∧ off + v.cells.toList.length ≤ cells.length then fillL ps (setL cells off v.cells.toList) rest else none
theorem foldl_setL (vs : List Value) : ∀ (cs : List Value) (off i : Nat), ((vs.zipIdx i).foldl (fun (cs : Array Value) (c, j) => cs.setIfInBounds (off + j) c) cs.toArray) = (setL cs (off + i) vs).toArray := by
  induction vs with
  | nil => intro cs off i; rfl
  | cons v t ih =>
    intro cs off i
    rw [List.zipIdx_cons, List.foldl_cons, setL]
    have : cs.toArray.setIfInBounds (off + i) v = (cs.set (off + i) v).toArray := by simp
    show List.foldl _ (cs.toArray.setIfInBounds (off + i) v) _ = _
    rw [this, ih]; rfl
theorem fill_fillL {ps : List (Nat × Nat)} {place : Nat → Option (Nat × Nat)} (hp : ∀ i o, ps[i]? = some o → place i = some o) : ∀ (parts : List (Nat × Value)) (cells out : List Value), fillL ps cells parts = some out → Instr.fill place cells.toArray parts = some out.toArray := by
  intro parts
  induction parts with
  | nil => intro cells out h; cases h; rfl
  | cons pv rest ih =>
    intro cells out h
    obtain ⟨i, v⟩ := pv
    simp only [fillL] at h
    split at h
    · cases h
    · rename_i o s hs
      split at h
      · rename_i hc
        simp only [Instr.fill, hp _ _ hs]
        rw [Array.length_toList] at hc
        rw [if_neg (by simp; omega)]
        have e := foldl_setL v.cells.toList cells o 0
        rw [Nat.add_zero] at e
        have e2 : (Array.foldl (fun cs x => cs.setIfInBounds (o + x.2) x.1) cells.toArray v.cells.zipIdx) = (setL cells o v.cells.toList).toArray := by
          rw [← e, ← Array.foldl_toList, Array.toList_zipIdx]
        rw [e2]
        exact ih _ _ h
      · cases h
theorem places_spec {P : Program} {t : TypeId} {ps : List (Nat × Nat)} (h : places P t = some ps) (w : World) : ∃ fs, P.underlying t = some (.struct fs) ∧ (fs.mapM (m := Sem) fun f => do pure (f.offset, ← sizeOf f.type)).run P w = .ok ps.toArray w := by
  unfold places at h
  split at h
  · rename_i fs hu
    refine ⟨fs, hu, ?_⟩
    have key : ∀ (l : List Field) (ps : List (Nat × Nat)), (l.mapM fun f => (siz P f.type).map fun s => (f.offset, s)) = some ps → (l.mapM (m := Sem) fun f => do pure (f.offset, ← sizeOf f.type)).run P w = .ok ps w := by
      intro l
      induction l with
      | nil => intro ps h; cases h; rfl
      | cons f t ih =>
        intro ps h
        simp only [List.mapM_cons, Option.bind_eq_bind, Option.bind_eq_some_iff, Option.map_eq_some_iff] at h
        obtain ⟨a, ⟨s, hs, rfl⟩, qs, hq, h⟩ := h
        cases h
        obtain ⟨i, hi, rfl⟩ := Option.map_eq_some_iff.1 hs
        rw [List.mapM_cons, Sem.run_bind, Sem.run_bind, run_sizeOf hi]
        simp only [Result.andThen_ok, Sem.run_pure]
        rw [Sem.run_bind, ih qs hq]
        rfl
    have := key fs.toList ps h
    rw [Array.mapM_eq_mapM_toList, Sem.run_map, this]
    rfl
  · cases h
theorem op_build {parts : List (Nat × Operand)} {vs : List (Nat × Value)} {zs out : List Value} {ps : List (Nat × Nat)} (s : NxF P n l E L Ls ⟨some d, .build t parts.toArray, ty, pos, aft, g⟩ X Y) (hz : zer P t = some (.agg zs.toArray)) (hp : places P t = some ps) (hv : Pts l parts vs) (ho : fillL ps zs vs = some out) (hn : Nat.ble (d + 1) n = true) (h : At n ((d, .agg out.toArray) :: l) E L Y) : At n l E L X :=
  op_val s (fun a w hf hw => by
    obtain ⟨i, hi, hiz⟩ := Option.bind_eq_some_iff.1 hz
    obtain ⟨fs, hu, hm⟩ := places_spec hp w
    have hzr : (zeroValue t).run P w = .ok (.agg zs.toArray) w := by simp [zeroValue, typeInfo, hi, hiz]
    have hfill := fill_fillL (place := (ps.toArray[·]?)) (fun i o h => by simpa using h) vs zs out ho
    have hpv : (parts.toArray.map fun (x : Nat × Operand) => (x.1, a.eval x.2)) = vs.toArray := by rw [List.map_toArray, hv.map hf]
    have hb : (Instr.build t vs.toArray).run P w = .ok (.agg out.toArray) w := by
      unfold Instr.build
      rw [Sem.run_bind, hzr]
      simp only [Result.andThen_ok]
      rw [Sem.run_bind, run_underlying hu]
      simp only [Result.andThen_ok]
      rw [Sem.run_bind, hm]
      simp only [Result.andThen_ok, Value.cells, hfill, Sem.run_pure]
    show ((do pure (.value (← Instr.build t (parts.toArray.map fun (x : Nat × Operand) => (x.1, a.eval x.2)))) : Sem Next)).run P w = _
    rw [hpv, Sem.run_bind, hb]
    rfl) rfl hn h
/-- A slice literal. -/
theorem op_buildSlice {parts : List (Nat × Operand)} {vs : List (Nat × Value)} {zv : Value} {out : List Value} {m : Nat} (s : NxA P n l E L ⟨some d, .buildSlice t m parts.toArray, ty, pos, aft, g⟩ X Y) (ht : P.underlying t = some (.slice e)) (hz : zer P e = some zv) (hsz : siz P e = some size) (hv : Pts l parts vs)
    (ho : fillL ((List.range m).map fun i => (i * size, size)) (madeCells zv.cells (m * size)).toList vs = some out) (hlen : out.length = m * size) (hm : Nat.ble (m * size) 16777216 = true) (hm2 : Nat.ble m 16777216 = true) (hn : Nat.ble (d + 1) n = true)
    (h : ∀ N ao, Row N e size ao m m out → At n ((d, .slice ao m m) :: l) E (N :: L) Y) : At n l E L X := by
  have hm' := Nat.le_of_ble_eq_true hm
  refine op_new s (fun v L' => ∃ N ao, v = .slice ao m m ∧ L' = N :: L ∧ Row N e size ao m m out) (fun a w hf hw => ?_) rfl hn (fun v L' ⟨N, ao, hv, hL, hB⟩ => by subst hv; subst hL; exact h N ao hB)
  obtain ⟨i, hi, hiz⟩ := Option.bind_eq_some_iff.1 hz
  obtain ⟨i', hi', hs'⟩ := Option.map_eq_some_iff.1 hsz
  rw [hi] at hi'; cases hi'
  have hzr : (zeroValue e).run P w = .ok zv w := by simp [zeroValue, typeInfo, hi, hiz]
  have hpv : (parts.toArray.map fun (x : Nat × Operand) => (x.1, a.eval x.2)) = vs.toArray := by rw [List.map_toArray, hv.map hf]
  have hfill := fill_fillL (place := fun i => some (i * size, size)) (fun i o h => by
    rw [List.getElem?_map, Option.map_eq_some_iff] at h
    obtain ⟨i', hi', rfl⟩ := h
    have := List.getElem?_eq_some_iff.1 hi'
    obtain ⟨h1, h2⟩ := this
    simp at h2; subst h2; rfl) vs _ out ho
  refine ⟨_, _, _, ?_, Agree.alloc w (.cells out.toArray e), hw.alloc _, single w.heap.size (.cells out.toArray e), some ⟨w.heap.size, 0, none⟩, rfl, rfl, ⟨hlen, Nat.le_refl _, ?_, .inr ⟨w.heap.size, _, rfl, single_self _ _, by simpa using hlen, by simp [← hlen]⟩⟩⟩
  · show ((do pure (.value (← Instr.buildSlice t m (parts.toArray.map fun (x : Nat × Operand) => (x.1, a.eval x.2)))) : Sem Next)).run P w = _
    rw [hpv, Sem.run_bind]
    have hb : (Instr.buildSlice t m vs.toArray).run P w = .ok (.slice (some ⟨w.heap.size, 0, none⟩) m m) (w.alloc (.cells out.toArray e)) := by
      have hbig : ¬ m * size > 2 ^ 24 := by omega
      unfold Instr.buildSlice
      simp only [Sem.run_bind, run_underlying ht, Result.andThen_ok, run_sizeOf hi, hs', if_neg hbig, Sem.run_pure]
      by_cases h0 : m * size = 0
      · have e1 : (madeCells zv.cells (m * size)) = #[] := by rw [h0]; simp [madeCells]
        rw [e1] at hfill
        have hfill' : Instr.fill (fun i => some (i * size, size)) #[] vs = some out.toArray := hfill
        have e0 : ∀ a : Array Value, ((Array.range 0).map fun x => a[x % a.size]!) = #[] := fun a => by simp
        simp only [h0, if_true, Sem.run_pure, Result.andThen_ok, e0, hfill', Sem.run_bind, newRow]
        rfl
      · simp only [if_neg h0, Sem.run_bind, hzr, Result.andThen_ok, Sem.run_pure]
        have e1 : ((Array.range (m * size)).map fun x => zv.cells[x % zv.cells.size]!) = madeCells zv.cells (m * size) := rfl
        rw [e1]
        have hfill' : Instr.fill (fun i => some (i * size, size)) (madeCells zv.cells (m * size)) vs = some out.toArray := by simpa using hfill
        simp only [hfill', Sem.run_bind, newRow, Sem.run_pure]
        rfl
    rw [hb]
    rfl
  · have := Nat.le_of_ble_eq_true hm2
    unfold maxLen; omega
end
end Go.Proofs.YtlkjfbfenpkmhaaDoor
/- The engine, part 8: parts of slices. For whatever program. No condition. -/
namespace Go.Proofs.YtlkjfbfenpkmhaaDoor
set_option linter.unusedVariables false
set_option linter.unusedSimpArgs false
open Go Go.RowKit
theorem sadr_zero (ao : Option Addr) (m s : Nat) : sadr ao 0 m s = ao := by
  unfold sadr
  split
  · rfl
  · cases ao with
    | none => rfl
    | some a => simp [Addr.add]
section
variable {P : Program} {n : Nat} {l l' : List (Nat × Value)} {E : World} {L L1 Ls : List Heaplet} {o : Oper} {X Y K : Act → World → Prop} {N : Heaplet} {Q : Exit → Act → World → Prop}
variable {d : Nat} {ty t t' e : TypeId} {pos : String} {aft : Array Edge} {g : Option (Nat × Bool)} {v : Value} {x y z : Operand} {k : IntKind} {p q : Int} {size len cap : Nat} {ao : Option Addr} {xs : List Value} {b off j : Nat}
theorem op_slice0 {hi mx : Option Operand} {y' z' : Nat} (s : NxF P n l E L Ls ⟨some d, .slice t x none hi mx, ty, pos, aft, g⟩ X Y) (ht : selt P t = some (e, size)) (hx : ev l x = some (.slice ao len cap)) (hhi : Bd l hi len y') (hmx : Bd l mx cap z') (h2 : y' ≤ z') (h3 : z' ≤ cap)
    (hm : mx.isSome = true → hi.isSome = true) (hn : Nat.ble (d + 1) n = true) (h : At n ((d, .slice ao y' z') :: l) E L Y) : At n l E L X :=
  op_slice s ht hx .none hhi hmx (Nat.zero_le _) h2 h3 hm hn (by rw [sadr_zero]; exact h)
theorem RSl.isSome {N : Heaplet} {size : Nat} {ao : Option Addr} {n cap : Nat} {xs : List Value} (h : RSl N size ao n cap xs) (h0 : 0 < n) : ao.isSome = true := by
  obtain ⟨b, off, rfl, _⟩ := h.2.2.2 h0; rfl
theorem RSl.take {N : Heaplet} {size : Nat} {ao : Option Addr} {n cap : Nat} {xs : List Value} (h : RSl N size ao n cap xs) {hi m : Nat} (h2 : hi ≤ m) (h3 : m ≤ cap) (h4 : hi ≤ n) : RSl N size ao hi m (xs.take (hi * size)) := by
  have := h.part (Nat.zero_le hi) h2 h3 h4
  simpa [sadr_zero] using this
theorem RSl.drop {N : Heaplet} {size : Nat} {ao : Option Addr} {n cap : Nat} {xs : List Value} (h : RSl N size ao n cap xs) {lo : Nat} (h4 : lo ≤ n) : RSl N size (sadr ao lo cap size) (n - lo) (cap - lo) (xs.drop (lo * size)) := by
  have := h.part h4 h.2.1 (Nat.le_refl _) (Nat.le_refl _)
  rwa [List.take_of_length_le (by rw [List.length_drop, h.1, Nat.sub_mul]; exact Nat.le_refl _)] at this
theorem u8s_take (l : List UInt8) (k : Nat) : (u8s l).take k = u8s (l.take k) := by simp [u8s]
theorem u8s_drop (l : List UInt8) (k : Nat) : (u8s l).drop k = u8s (l.drop k) := by simp [u8s]
theorem u64s_takeR (l : List UInt64) (k : Nat) : (u64s l).take k = u64s (l.take k) := by simp [u64s]
theorem u64s_drop (l : List UInt64) (k : Nat) : (u64s l).drop k = u64s (l.drop k) := by simp [u64s]
theorem u32s_take (l : List UInt32) (k : Nat) : (u32s l).take k = u32s (l.take k) := by simp [u32s]
theorem u32s_drop (l : List UInt32) (k : Nat) : (u32s l).drop k = u32s (l.drop k) := by simp [u32s]
theorem RSl.take8 {N : Heaplet} {ao : Option Addr} {n cap : Nat} {bs : List UInt8} (h : RSl N 1 ao n cap (u8s bs)) {hi m : Nat} (h2 : hi ≤ m) (h3 : m ≤ cap) (h4 : hi ≤ n) : RSl N 1 ao hi m (u8s (bs.take hi)) := by
  have := h.take h2 h3 h4; rwa [Nat.mul_one, u8s_take] at this
theorem RSl.drop8 {N : Heaplet} {ao : Option Addr} {n cap : Nat} {bs : List UInt8} (h : RSl N 1 ao n cap (u8s bs)) {lo : Nat} (h4 : lo ≤ n) : RSl N 1 (sadr ao lo cap 1) (n - lo) (cap - lo) (u8s (bs.drop lo)) := by
  have := h.drop h4; rwa [Nat.mul_one, u8s_drop] at this
theorem RSl.part8 {N : Heaplet} {ao : Option Addr} {n cap : Nat} {bs : List UInt8} (h : RSl N 1 ao n cap (u8s bs)) {lo hi m : Nat} (h1 : lo ≤ hi) (h2 : hi ≤ m) (h3 : m ≤ cap) (h4 : hi ≤ n) : RSl N 1 (sadr ao lo m 1) (hi - lo) (m - lo) (u8s ((bs.drop lo).take (hi - lo))) := by
  have := h.part h1 h2 h3 h4; rwa [Nat.mul_one, Nat.mul_one, u8s_drop, u8s_take] at this
theorem RSl.len8 {N : Heaplet} {ao : Option Addr} {n cap : Nat} {bs : List UInt8} (h : RSl N 1 ao n cap (u8s bs)) : bs.length = n := by simpa using h.len
theorem RSl.len64 {N : Heaplet} {ao : Option Addr} {n cap : Nat} {bs : List UInt64} (h : RSl N 1 ao n cap (u64s bs)) : bs.length = n := by simpa using h.len
theorem RSl.len32 {N : Heaplet} {ao : Option Addr} {n cap : Nat} {bs : List UInt32} (h : RSl N 1 ao n cap (u32s bs)) : bs.length = n := by simpa using h.len
theorem RSl.cap63 {N : Heaplet} {size : Nat} {ao : Option Addr} {n cap : Nat} {xs : List Value} (h : RSl N size ao n cap xs) : n ≤ cap ∧ cap ≤ 9223372036854775807 := ⟨h.2.1, h.2.2.1⟩
end
/-! What was proved of a call in the elder words. -/
theorem Fn.of_ret {P : Program} {f : FuncId} {args : Array Value} {Lr : List Heaplet} {R : Value → World → Prop} {Post : Value → List Heaplet → Prop}
    (h : ∀ w, (∀ N ∈ Lr, N.le (whole w)) → Calls P f args w (Ret w R))
    (hp : ∀ w v w', R v w' → Below w.heap.size w w' → ∃ L1, Post v L1 ∧ (∀ N ∈ L1, N.le (whole w') ∧ ∀ k o, N k = some o → w.heap.size ≤ k) ∧ L1.Pairwise Apart) : Fn P f args [] Lr Post := by
  intro E w R hw hr
  refine (h w fun N hN => Heaplet.le_trans (hr N hN) (hw.sub R (by simp))).mono ?_
  rintro e w' ⟨v, rfl, hR, hb⟩
  obtain ⟨L1, h1, h2, h3⟩ := hp w v w' hR hb
  refine ⟨v, L1, rfl, h1, hb.os.trans hw.os, hb.tape.trans hw.tape, hb.output.trans hw.output, fun N hN => ?_, ?_⟩
  · rcases List.mem_append.1 hN with hN | hN
    · exact (h2 N hN).1
    · simp at hN; subst hN
      intro k o hk
      have hlt := hw.lt (List.mem_append_right _ (List.mem_singleton.2 rfl)) hk
      exact (hb.block k hlt).trans (hw.sub _ (by simp) k o hk)
  · rw [List.pairwise_append]
    refine ⟨h3, by simp, fun A hA B hB k => ?_⟩
    simp at hB; subst hB
    cases hk : A k with
    | none => exact .inl rfl
    | some o =>
      right
      cases hm : B k with
      | none => rfl
      | some o' =>
        have := hw.lt (List.mem_append_right _ (List.mem_singleton.2 rfl)) hm
        have := (h2 A hA).2 k o hk
        omega
/-- It gives bytes (or limbs) in a slice that owns its block. -/
theorem Fn.of_ownb {P : Program} {f : FuncId} {args : Array Value} {Lr : List Heaplet} {e : TypeId} {xs : List Value} (h : ∀ w, (∀ N ∈ Lr, N.le (whole w)) → Calls P f args w (Ret w (OwnB w.heap.size e xs))) :
    Fn P f args [] Lr (fun v L => ∃ N ao cap, v = .slice ao xs.length cap ∧ L = [N] ∧ Row N e 1 ao xs.length cap xs) := by
  intro E w R hw hr
  refine (h w fun N hN => Heaplet.le_trans (hr N hN) (hw.sub R (by simp))).mono ?_
  rintro e w' ⟨v, rfl, ⟨ao, cap, rfl, ho⟩, hb⟩
  have ho0 := owns_mono ho (Nat.zero_le _)
  have hbase : ∀ b, ao = some b → w.heap.size ≤ b.block := fun b hb' => by
    obtain ⟨_, ⟨hv, _⟩ | ⟨g, cap', cur, hv, hg, _⟩⟩ := ho
    · subst hb'; cases hv
    · subst hb'
      simp only [Value.slice.injEq, Option.some.injEq] at hv
      obtain ⟨rfl, _⟩ := hv
      exact hg
  have hR : Hp E [R] w' := by
    refine ⟨hb.os.trans hw.os, hb.tape.trans hw.tape, hb.output.trans hw.output, fun N hN k o hk => ?_, by simp⟩
    simp at hN; subst hN
    have hlt := hw.lt (List.mem_append_right _ (List.mem_singleton.2 rfl)) hk
    exact (hb.block k hlt).trans (hw.sub _ (by simp) k o hk)
  rcases owns_row ho0 with ⟨rfl, hrow⟩ | ⟨b, cur, rfl, hheap, hrow⟩
  · refine ⟨_, [fun _ => none], rfl, ⟨_, _, _, rfl, rfl, hrow _⟩, ⟨hR.os, hR.tape, hR.output, fun N hN => ?_, ?_⟩⟩
    · rcases List.mem_cons.1 hN with rfl | hN
      · intro k o hk; cases hk
      · exact hR.sub N hN
    · simp [Apart]
  · refine ⟨_, [single b (.cells cur e (0, 0))], rfl, ⟨_, _, _, rfl, rfl, hrow _ (single_self _ _)⟩, ⟨hR.os, hR.tape, hR.output, fun N hN => ?_, ?_⟩⟩
    · rcases List.mem_cons.1 hN with rfl | hN
      · intro k o hk
        unfold single at hk
        split at hk
        · rename_i e; subst e; cases hk; exact hheap
        · cases hk
      · exact hR.sub N hN
    · simp only [List.cons_append, List.nil_append, List.pairwise_cons, List.mem_singleton, List.not_mem_nil, false_imp_iff, implies_true, and_true, List.Pairwise.nil, forall_eq]
      intro k
      unfold single
      split
      · rename_i e
        right
        cases hm : R k with
        | none => rfl
        | some o' =>
          have h1 := hw.lt (List.mem_append_right _ (List.mem_singleton.2 rfl)) hm
          have h2 := hbase _ rfl
          simp at h2
          omega
      · exact .inl rfl
end Go.Proofs.YtlkjfbfenpkmhaaDoor
/- The engine, part 9: interfaces, byte strings out of literals, pointers. For whatever program. No condition. -/
namespace Go.Proofs.YtlkjfbfenpkmhaaDoor
set_option linter.unusedVariables false
set_option linter.unusedSimpArgs false
open Go Go.RowKit
def isIfc (P : Program) (t : TypeId) : Bool := match P.underlying t with
  | some (.interface _) => true
  | _ => false
def notIfc (P : Program) (t : TypeId) : Bool := match P.underlying t with
  | some (.interface _) => false
  | none => false
  | _ => true
section
variable {P : Program} {n : Nat} {l l' : List (Nat × Value)} {E : World} {L L1 Ls : List Heaplet} {o : Oper} {X Y K : Act → World → Prop} {N : Heaplet} {Q : Exit → Act → World → Prop}
variable {d : Nat} {ty t t' e : TypeId} {pos : String} {aft : Array Edge} {g : Option (Nat × Bool)} {v : Value} {x y z : Operand} {k : IntKind} {p q : Int} {size len cap : Nat} {ao : Option Addr} {xs : List Value} {b off j : Nat}
theorem op_mkI (s : NxF P n l E L Ls ⟨some d, .makeInterface t x, ty, pos, aft, g⟩ X Y) (ht : notIfc P t = true) (hx : ev l x = some v) (hn : Nat.ble (d + 1) n = true) (h : At n ((d, .iface t v) :: l) E L Y) : At n l E L X :=
  op_val s (fun a w hf _ => by
    unfold notIfc at ht
    cases hu : P.underlying t with
    | none => rw [hu] at ht; cases ht
    | some u =>
      rw [hu] at ht
      simp only [execOp, hf.eval hx, Instr.makeInterface, Sem.run_bind, run_underlying hu, Result.andThen_ok]
      cases u <;> first | rfl | cases ht) rfl hn h
theorem run_assert {asserted : TypeId} (ht : notIfc P asserted = true) (w : World) (ok : Bool) : (Instr.typeAssert (.iface t v) ty asserted ok).run P w = if t = asserted then .ok (if ok then .tuple #[v, .bool true] else v) w else (Instr.typeAssert (.iface t v) ty asserted ok).run P w := by
  split
  · rename_i e
    subst e
    unfold notIfc at ht
    cases hu : P.underlying t with
    | none => rw [hu] at ht; cases ht
    | some u =>
      rw [hu] at ht
      simp only [Instr.typeAssert, Sem.run_bind, run_underlying hu, Result.andThen_ok]
      cases u <;> first | (cases ht; done) | (simp; rfl) | simp
  · rfl
theorem op_assertY {tx : TypeId} (s : NxF P n l E L Ls ⟨some d, .typeAssert x tx t true, ty, pos, aft, g⟩ X Y) (ht : notIfc P t = true) (hx : ev l x = some (.iface t v)) (hn : Nat.ble (d + 1) n = true) (h : At n ((d, .tuple #[v, .bool true]) :: l) E L Y) : At n l E L X :=
  op_val s (fun a w hf _ => by simp only [execOp, hf.eval hx, Sem.run_bind]; rw [run_assert ht]; simp) rfl hn h
theorem op_assert1 {tx : TypeId} (s : NxF P n l E L Ls ⟨some d, .typeAssert x tx t false, ty, pos, aft, g⟩ X Y) (ht : notIfc P t = true) (hx : ev l x = some (.iface t v)) (hn : Nat.ble (d + 1) n = true) (h : At n ((d, v) :: l) E L Y) : At n l E L X :=
  op_val s (fun a w hf _ => by simp only [execOp, hf.eval hx, Sem.run_bind]; rw [run_assert ht]; simp) rfl hn h
theorem op_assertN {tx : TypeId} {zv : Value} (s : NxF P n l E L Ls ⟨some d, .typeAssert x tx t true, ty, pos, aft, g⟩ X Y) (ht : notIfc P t = true) (hz : zer P t = some zv) (hx : ev l x = some (.iface t' v)) (hne : (t' == t) = false) (hn : Nat.ble (d + 1) n = true) (h : At n ((d, .tuple #[zv, .bool false]) :: l) E L Y) : At n l E L X :=
  op_val s (fun a w hf _ => by
    obtain ⟨i, hi, hiz⟩ := Option.bind_eq_some_iff.1 hz
    have hzr : (zeroValue t).run P w = .ok zv w := by simp [zeroValue, typeInfo, hi, hiz]
    have hne' : ¬ t' = t := by simpa using hne
    unfold notIfc at ht
    cases hu : P.underlying t with
    | none => rw [hu] at ht; cases ht
    | some u =>
      rw [hu] at ht
      simp only [execOp, hf.eval hx, Instr.typeAssert, Sem.run_bind, run_underlying hu, Result.andThen_ok]
      cases u <;> first | (cases ht; done) | (simp [hne', hzr])) rfl hn h
theorem run_equal_iface_nil (ht : isIfc P t = true) (w : World) : (Op.equal t (.iface t' v) .nilIface).run P w = .ok false w := by
  unfold isIfc at ht
  cases hu : P.underlying t with
  | none => rw [hu] at ht; cases ht
  | some u =>
    rw [hu] at ht
    unfold Op.equal
    show (Op.equalIn (9999 + 1) t _ _).run P w = _
    unfold Op.equalIn
    rw [Sem.run_bind, run_underlying hu]
    cases u <;> first | (cases ht; done) | rfl
theorem run_equal_nil_nil (ht : isIfc P t = true) (w : World) : (Op.equal t .nilIface .nilIface).run P w = .ok true w := by
  unfold isIfc at ht
  cases hu : P.underlying t with
  | none => rw [hu] at ht; cases ht
  | some u =>
    rw [hu] at ht
    unfold Op.equal
    show (Op.equalIn (9999 + 1) t _ _).run P w = _
    unfold Op.equalIn
    rw [Sem.run_bind, run_underlying hu]
    cases u <;> first | (cases ht; done) | rfl
/-- x == nil, x an interface that holds something, or nil. -/
theorem op_eqNilF (s : NxF P n l E L Ls ⟨some d, .binOp .eql t x (.const .nilIface) t', ty, pos, aft, g⟩ X Y) (ht : isIfc P t = true) (hx : ev l x = some (.iface e v)) (hn : Nat.ble (d + 1) n = true) (h : At n ((d, .bool false) :: l) E L Y) : At n l E L X :=
  op_bin s hx rfl (fun w => by simp [eqGuard]) (fun w => by simp [binOp, run_equal_iface_nil ht]) hn h
theorem op_eqNilT (s : NxF P n l E L Ls ⟨some d, .binOp .eql t x (.const .nilIface) t', ty, pos, aft, g⟩ X Y) (ht : isIfc P t = true) (hx : ev l x = some .nilIface) (hn : Nat.ble (d + 1) n = true) (h : At n ((d, .bool true) :: l) E L Y) : At n l E L X :=
  op_bin s hx rfl (fun w => by simp [eqGuard]) (fun w => by simp [binOp, run_equal_nil_nil ht]) hn h
theorem op_nilChk {ad : Addr} (s : NxF P n l E L Ls ⟨some d, .nilCheck x, ty, pos, aft, g⟩ X Y) (hx : ev l x = some (.pointer (some ad))) (hn : Nat.ble (d + 1) n = true) (h : At n ((d, .pointer (some ad)) :: l) E L Y) : At n l E L X :=
  op_val s (fun a w hf _ => by simp [execOp, hf.eval hx]) rfl hn h
/-- []byte of a literal: the block is marked, the bytes stand. -/
theorem op_convB (s : Nx P n l E L ⟨some d, .convert t t x, ty, pos, aft, g⟩ X Y) (ht : P.underlying t = some (.slice e)) (he : P.underlying e = some (.int .u8)) (hx : ev l x = some (.slice ao len cap)) (hr : Row N t' 1 ao len cap xs) (h0 : 0 < len) (sel : L.Perm (N :: L1)) (hn : Nat.ble (d + 1) n = true)
    (h : ∀ N, RSl N 1 ao len cap xs → At n ((d, .slice ao len cap) :: l) E (N :: L1) Y) : At n l E L X := by
  refine op_upd s (fun v L' => ∃ N, v = .slice ao len cap ∧ L' = N :: L1 ∧ RSl N 1 ao len cap xs) (fun a w hf hw => ?_) rfl hn (fun v L' ⟨N, hv, hL, hB⟩ => by subst hv; subst hL; exact h N hB)
  have hw2 := hw.perm sel
  have hr' := hr
  obtain ⟨h1, h2, h3, ⟨rfl, hz, _⟩ | ⟨b, cur, rfl, hN, hcs, htk⟩⟩ := hr
  · omega
  have hheap : w.heap[b]? = some (.cells cur t' (0, 0)) := hw2.sub N (List.mem_cons_self ..) _ _ hN
  let w' := w.freeze ⟨b, cur.size, none⟩ 1
  have hnew : w'.heap[b]? = some (.cells cur t' (cur.size, cur.size + 1)) := by
    simp only [w', World.freeze]
    simp [Array.getElem?_modify, hheap]
  have hold : ∀ k, k ≠ b → k < w.heap.size → w'.heap[k]? = w.heap[k]? := fun k hk _ => by
    simp only [w', World.freeze]
    simp [Array.getElem?_modify, Ne.symm hk]
  refine ⟨_, w', _, ?_, hw2.put (o' := .cells cur t' (cur.size, cur.size + 1)) hN (by simp [w', World.freeze]) (by simp [w', World.freeze]) (by simp [w', World.freeze]) hnew hold, _, rfl, rfl, ?_⟩
  · simp only [execOp, hf.eval hx, convert, Sem.run_bind, run_underlying ht, Result.andThen_ok, run_underlying he]
    have hm : (markStringish ⟨b, 0, none⟩).run P w = .ok () w' := by
      have hsh : w.shape? b = some (t', cur.size) := by simp [World.shape?, hheap]
      simp [markStringish, shape, freeze, Sem.run, hsh, w']
    simp [hm]
  · have hs := hr'.rsl
    obtain ⟨a1, a2, a3, a4⟩ := hs
    refine ⟨a1, a2, a3, fun hp => ?_⟩
    obtain ⟨b', off', e', hrg⟩ := a4 hp
    refine ⟨b', off', e', fun i hi => ?_⟩
    have := hrg i hi
    simp only [Option.some.injEq, Addr.mk.injEq] at e'
    obtain ⟨rfl, rfl, _⟩ := e'
    unfold cellOf at this ⊢
    rw [hN] at this
    rw [upd_self]
    exact this
end
end Go.Proofs.YtlkjfbfenpkmhaaDoor
/- The engine, part 10: slice literals. For whatever program. No condition. -/
namespace Go.Proofs.YtlkjfbfenpkmhaaDoor
set_option linter.unusedVariables false
set_option linter.unusedSimpArgs false
open Go Go.RowKit
/-- The heaplet that holds nothing. -/
def nilH : Heaplet := fun _ => none
theorem At.empty {n : Nat} {l : List (Nat × Value)} {E : World} {L : List Heaplet} {K : Act → World → Prop} (h : At n l E (nilH :: L) K) : At n l E L K := fun a w hf hw => h a w hf
  ⟨hw.os, hw.tape, hw.output, fun N hN => by
    rcases List.mem_cons.1 hN with rfl | hN
    · intro k o hk; cases hk
    · exact hw.sub N hN, by rw [List.pairwise_cons]; exact ⟨fun _ _ _ => .inl rfl, hw.sep⟩⟩
theorem At.mergeN {n : Nat} {l : List (Nat × Value)} {E : World} {L : List Heaplet} {K : Act → World → Prop} {A B : Heaplet} (h : ∀ J : Heaplet, A.le J → B.le J → At n l E (J :: L) K) : At n l E (A :: B :: L) K :=
  At.merge fun hap => h _ join2_left (join2_right hap)
theorem setL_append (vs : List Value) : ∀ (a b c : List Value), b.length = vs.length → setL (a ++ b ++ c) a.length vs = a ++ vs ++ c := by
  induction vs with
  | nil => intro a b c h; simp at h; subst h; simp [setL]
  | cons v t ih =>
    intro a b c h
    cases b with
    | nil => simp at h
    | cons x b =>
      rw [setL]
      have e : (a ++ x :: b ++ c).set a.length v = (a ++ [v]) ++ b ++ c := by simp
      rw [e]
      have := ih (a ++ [v]) b c (by simpa using h)
      rw [List.length_append, List.length_singleton] at this
      rw [this]; simp
def flatV (vs : List (Nat × Value)) : List Value := vs.flatMap fun p => p.2.cells.toList
theorem fillL_all (size m : Nat) : ∀ (vs : List (Nat × Value)) (k : Nat) (a zs : List Value), vs.map (·.1) = List.range' k vs.length → k + vs.length ≤ m → (∀ p ∈ vs, p.2.cells.toList.length = size) → a.length = k * size → zs.length = vs.length * size →
    fillL ((List.range m).map fun i => (i * size, size)) (a ++ zs) vs = some (a ++ flatV vs) := by
  intro vs
  induction vs with
  | nil => intro k a zs _ _ _ _ h; simp at h; subst h; simp [fillL, flatV]
  | cons p t ih =>
    intro k a zs hi hm hs ha hz
    obtain ⟨i, v⟩ := p
    simp only [List.map_cons, List.length_cons, List.range'_succ, List.cons.injEq] at hi
    obtain ⟨rfl, hi⟩ := hi
    simp only [List.length_cons] at hm hz
    have hv := hs _ (List.mem_cons_self ..)
    simp only at hv
    have hget : ((List.range m).map fun i => (i * size, size))[i]? = some (i * size, size) := by
      rw [List.getElem?_map, List.getElem?_range (by omega)]; rfl
    have hz' : size ≤ zs.length := by rw [hz, Nat.add_mul]; omega
    have hcond : v.cells.toList.length = size ∧ i * size + v.cells.toList.length ≤ (a ++ zs).length := by
      rw [List.length_append]; omega
    have hset : setL (a ++ zs) (i * size) v.cells.toList = (a ++ v.cells.toList) ++ zs.drop size := by
      have := setL_append v.cells.toList a (zs.take size) (zs.drop size) (by rw [List.length_take]; omega)
      rw [List.append_assoc, List.take_append_drop, ha] at this
      exact this
    have hrec := ih (i + 1) (a ++ v.cells.toList) (zs.drop size) hi (by omega) (fun q hq => hs q (List.mem_cons_of_mem _ hq)) (by rw [List.length_append, ha, hv, Nat.add_mul, Nat.one_mul]) (by rw [List.length_drop, hz, Nat.add_mul]; omega)
    simp only [fillL, hget, if_pos hcond, hset, hrec]
    simp [flatV]
section
variable {P : Program} {n : Nat} {l l' : List (Nat × Value)} {E : World} {L L1 : List Heaplet} {X Y : Act → World → Prop} {d : Nat} {ty t e : TypeId} {pos : String} {aft : Array Edge} {g : Option (Nat × Bool)} {size : Nat}
theorem length_flatV {vs : List (Nat × Value)} (h : ∀ p ∈ vs, p.2.cells.toList.length = size) : (flatV vs).length = vs.length * size := by
  induction vs with
  | nil => simp [flatV]
  | cons p t ih =>
    have h1 := h p (List.mem_cons_self ..)
    have h2 := ih fun q hq => h q (List.mem_cons_of_mem _ hq)
    simp only [flatV, List.flatMap_cons, List.length_append, List.length_cons] at h2 ⊢
    rw [h1, h2, Nat.add_mul, Nat.one_mul, Nat.add_comm]
/-- A slice literal, all of whose places are written out. -/
theorem op_lit {parts : List (Nat × Operand)} {vs : List (Nat × Value)} {zv : Value} {m : Nat} (s : NxA P n l E L ⟨some d, .buildSlice t m parts.toArray, ty, pos, aft, g⟩ X Y) (ht : P.underlying t = some (.slice e)) (hz : zer P e = some zv) (hsz : siz P e = some size) (hv : Pts l parts vs)
    (hi : vs.map (·.1) = List.range' 0 vs.length) (hm0 : vs.length = m) (hs : ∀ p ∈ vs, p.2.cells.toList.length = size) (hm : Nat.ble (m * size) 16777216 = true) (hm2 : Nat.ble m 16777216 = true) (hn : Nat.ble (d + 1) n = true)
    (h : ∀ N ao, Row N e size ao m m (flatV vs) → At n ((d, .slice ao m m) :: l) E (N :: L) Y) : At n l E L X := by
  refine op_buildSlice s ht hz hsz hv (out := flatV vs) ?_ (by rw [length_flatV hs, hm0]) hm hm2 hn h
  have := fillL_all size m vs 0 [] (madeCells zv.cells (m * size)).toList hi (by omega) hs (by simp) (by rw [Array.length_toList, size_madeCells, hm0])
  simpa using this
end
end Go.Proofs.YtlkjfbfenpkmhaaDoor
/- The engine: many rows in one part of the memory, told apart by their blocks; stores and appends that leave the others as they are. For whatever program. No condition. -/
namespace Go.Proofs.YtlkjfbfenpkmhaaDoor
set_option linter.unusedVariables false
set_option linter.unusedSimpArgs false
open Go Go.RowKit
/-- N' is N but for this block. -/
def Off (ao : Option Addr) (N N' : Heaplet) : Prop := ∃ b, ao = some ⟨b, 0, none⟩ ∧ ∀ k, k ≠ b → N' k = N k
/-- What an append leaves of the memory: in its own block, or in a new one. -/
def App (N N' : Heaplet) (ao : Option Addr) (cap : Nat) (ao2 : Option Addr) (cap2 need : Nat) : Prop :=
  (ao2 = ao ∧ cap2 = cap ∧ need ≤ cap ∧ Off ao N N') ∨ (N.le N' ∧ ∃ b, ao2 = some ⟨b, 0, none⟩ ∧ N b = none)
theorem Row.le {N M : Heaplet} (hl : N.le M) {e : TypeId} {size : Nat} {ao : Option Addr} {n cap : Nat} {xs : List Value} (h : Row N e size ao n cap xs) : Row M e size ao n cap xs := by
  obtain ⟨h1, h2, h3, h4⟩ := h
  refine ⟨h1, h2, h3, ?_⟩
  rcases h4 with h4 | ⟨b, cur, ha, hN, hs, ht⟩
  · exact .inl h4
  · exact .inr ⟨b, cur, ha, hl _ _ hN, hs, ht⟩
/-- The block of a row. -/
theorem Row.block {N : Heaplet} {e : TypeId} {size : Nat} {ao : Option Addr} {n cap : Nat} {xs : List Value} (h : Row N e size ao n cap xs) : (ao = none ∧ n = 0 ∧ cap = 0) ∨ ∃ b o, ao = some ⟨b, 0, none⟩ ∧ N b = some o := by
  obtain ⟨_, _, _, h4⟩ := h
  rcases h4 with h4 | ⟨b, cur, ha, hN, _⟩
  · exact .inl h4
  · exact .inr ⟨b, _, ha, hN⟩
/-- A row is read off its block alone. -/
theorem Row.off {N N' : Heaplet} {e : TypeId} {size : Nat} {ao p : Option Addr} {n cap : Nat} {xs : List Value} (h : Row N e size ao n cap xs) (ho : Off p N N') (hne : ao = none ∨ ao ≠ p) : Row N' e size ao n cap xs := by
  obtain ⟨b, rfl, hk⟩ := ho
  obtain ⟨h1, h2, h3, h4⟩ := h
  refine ⟨h1, h2, h3, ?_⟩
  rcases h4 with h4 | ⟨b', cur, ha, hN, hs, ht⟩
  · exact .inl h4
  · refine .inr ⟨b', cur, ha, ?_, hs, ht⟩
    rw [hk b' fun e => ?_]
    · exact hN
    · subst e
      rcases hne with h | h
      · rw [h] at ha; cases ha
      · exact h ha
/-- The first part of a row. -/
theorem Row.first {N : Heaplet} {e : TypeId} {size : Nat} {ao : Option Addr} {n m cap : Nat} {xs ys : List Value} (h : Row N e size ao n cap xs) (hm : m ≤ n) (hy : xs.take (m * size) = ys) (ha : ao ≠ none) : Row N e size ao m cap ys := by
  obtain ⟨h1, h2, h3, h4⟩ := h
  rcases h4 with ⟨h4, _⟩ | ⟨b', cur, hb, hN, hs, ht⟩
  · exact absurd h4 ha
  · have hle : m * size ≤ n * size := Nat.mul_le_mul_right _ hm
    refine ⟨by rw [← hy, List.length_take, h1]; exact Nat.min_eq_left hle, Nat.le_trans hm h2, h3, .inr ⟨b', cur, hb, hN, hs, ?_⟩⟩
    rw [← hy, ← ht, List.take_take, Nat.min_eq_left hle]
section
variable {P : Program} {n : Nat} {l : List (Nat × Value)} {E : World} {L L1 Ls : List Heaplet} {X Y : Act → World → Prop} {d : Nat} {t t' ty e : TypeId} {x y : Operand}
theorem op_storeU {vs : List Value} {kk : Nat} {N : Heaplet} {v : Value} {ao : Option Addr} {j size len cap : Nat} {xs : List Value} {pos : _} {aft : _} {g : _} (s : Nx P n l E L ⟨none, .store t x y, ty, pos, aft, g⟩ X Y) (ht0 : siz P t = some kk) (hx : ev l x = some (eptr ao j)) (hy : ev l y = some v) (hv : v.cells = vs.toArray) (hk : vs.length = kk) (h1 : vs.all (·.oneCell') = true) (hb : Row N e size ao len cap xs) (hlen : j + vs.length ≤ xs.length) (h0 : 0 < vs.length) (hs : L.Perm (N :: L1))
    (h : ∀ N', Row N' e size ao len cap (setL xs j vs) → Off ao N N' → At n l E (N' :: L1) Y) : At n l E L X := fun a w hf hw => by
  have ht : siz P t = some vs.length := by rw [ht0, hk]
  have hw2 := hw.perm hs
  obtain ⟨a1, a2, a3, a4⟩ := hb
  have hn0 : 0 < len := by
    rcases Nat.eq_zero_or_pos len with h | h
    · rw [h, Nat.zero_mul] at a1; omega
    · exact h
  rcases a4 with ⟨_, hz, _⟩ | ⟨b, cur, rfl, hN, hcs, ht'⟩
  · omega
  have hN' : N b = some (.cells cur.toList.toArray e (0, 0)) := by simpa using hN
  have hheap := hw2.sub N (List.mem_cons_self ..) _ _ hN'
  have hxl : xs.length ≤ cur.toList.length := by rw [a1, Array.length_toList, hcs]; exact Nat.mul_le_mul_right _ a2
  obtain ⟨w', hr, e1, e2, e3, e4, e5⟩ := run_storeCells (P := P) vs w b j 0 cur.toList e hheap (fun u hu => List.all_eq_true.1 h1 u hu) (by omega)
  obtain ⟨i, hi, hsz⟩ := Option.map_eq_some_iff.1 ht
  refine s a w hf hw ?_
  unfold Oper.wp
  have hrun : (execOp a.eval ⟨none, .store t x y, ty, pos, aft, g⟩).run P w = .ok .skip w' := by
    simp only [execOp, hf.eval hx, hf.eval hy, eptr, Option.map_some, Nat.zero_add, Instr.storeAt, Instr.sureAddr, Sem.run_bind, Sem.run_pure, Result.andThen_ok, storeVar, run_sizeOf hi, hsz, hv]
    simp only [List.size_toArray, ne_eq, not_true, if_false]
    rw [hr]
    rfl
  rw [hrun]
  refine h (upd N b (.cells (setL cur.toList j vs).toArray e (0, 0))) ⟨by rw [length_setL, a1], a2, a3, .inr ⟨b, _, rfl, upd_self _ _ _, by simp [length_setL, hcs], ?_⟩⟩ ⟨b, rfl, fun k hk => by simp [upd, hk]⟩ a w' hf (hw2.put hN' e1 e2 e3 (by simpa using e4) fun k hk _ => e5 k hk)
  rw [List.toList_toArray, setL_take _ _ _ _ (by omega), ht']
theorem op_appendU {zv : Value} {bytes m cap' size len cap : Nat} {ao ao' : Option Addr} {xs ys : List Value} {N M : Heaplet} {t2 e2 : TypeId} {pos : _} {aft : _} {g : _} (s : Nx P n l E L ⟨some d, .call ⟨.builtin .append, #[x, y], #[t, t2]⟩, ty, pos, aft, g⟩ X Y) (ht : P.underlying t = some (.slice e)) (ht2 : P.underlying t2 = some (.slice e2)) (hE : ElemInfo P e zv size bytes)
    (hx : ev l x = some (.slice ao len cap)) (hy : ev l y = some (.slice ao' m cap')) (hr : Row N e size ao len cap xs) (hs : RSl M size ao' m cap' ys) (hM : M ∈ L) (hm : 0 < m) (h1 : ∀ u ∈ ys, u.oneCell' = true) (hb : (len + m) * bytes ≤ 140737488355328) (hl : len + m ≤ 9223372036854775807) (sel : L.Perm (N :: L1)) (hn : Nat.ble (d + 1) n = true)
    (h : ∀ N' ao2 cap2, Row N' e size ao2 (len + m) cap2 (xs ++ ys) → App N N' ao cap ao2 cap2 (len + m) → At n ((d, .slice ao2 (len + m) cap2) :: l) E (N' :: L1) Y) : At n l E L X := by
  refine op_upd s (fun v L' => ∃ N' ao2 cap2, v = .slice ao2 (len + m) cap2 ∧ L' = N' :: L1 ∧ Row N' e size ao2 (len + m) cap2 (xs ++ ys) ∧ App N N' ao cap ao2 cap2 (len + m)) (fun a w hf hw => ?_) rfl hn (fun v L' ⟨N', ao2, cap2, hv, hL, hB, hA⟩ => by subst hv; subst hL; exact h N' ao2 cap2 hB hA)
  have hw2 := hw.perm sel
  have hrest : Hp E L1 w := hw2.drop (List.sublist_cons_self ..)
  obtain ⟨i, hi, hz, hsz, hby, hzs, hpos⟩ := hE
  obtain ⟨y1, y2, y3, y4⟩ := hs.sl (hw.sub M hM)
  obtain ⟨bs, os, rfl, cs⟩ := y4 hm
  have hnews : ∀ j u, ys[j]? = some u → w.cell? ((⟨bs, os, none⟩ : Addr).add j) = some u := fun j u hu => by
    obtain ⟨hj, rfl⟩ := List.getElem?_eq_some_iff.1 hu
    rw [addr_add]; exact cs j hj
  have fin : ∀ v w', (Builtin.append_ #[t, t] ty #[.slice ao len cap, .slice (some ⟨bs, os, none⟩) m cap']).run P w = .ok v w' → (execOp a.eval ⟨some d, .call ⟨.builtin .append, #[x, y], #[t, t2]⟩, ty, pos, aft, g⟩).run P w = .ok (.value v) w' := fun v w' h4 => by
    simp only [execOp, resolve, invoke, builtin, Sem.run_bind, Sem.run_pure, Result.andThen_ok, List.map_toArray, List.map_cons, List.map_nil, hf.eval hx, hf.eval hy, run_append_src ht ht2, h4]
  have hmax : len + m ≤ maxLen := by unfold maxLen; exact hl
  rcases Nat.lt_or_ge cap (len + m) with hg | hg
  · -- a new row
    have new : ∃ cap2 w', (Builtin.append_ #[t, t] ty #[.slice ao len cap, .slice (some ⟨bs, os, none⟩) m cap']).run P w = .ok (.slice (some ⟨w.heap.size, 0, none⟩) (len + m) cap2) w' ∧
        w'.ownsRow 0 e size (.slice (some ⟨w.heap.size, 0, none⟩) (len + m) cap2) (len + m) (xs ++ ys) ∧ w.grownBy w' none := by
      rcases hr.block with ⟨rfl, rfl, rfl⟩ | ⟨b, o, rfl, _⟩
      · have hx0 : xs = [] := List.eq_nil_of_length_eq_zero (by simpa using hr.1)
        obtain ⟨ao2, cap2, w', h4, h5, h6, h7⟩ := run_append_row (P := P) (ty := ty) ht ⟨i, hi, hz, hsz, hby, hzs, hpos⟩ (hw2.sub N (List.mem_cons_self ..)) hr (hs.sl (hw.sub M hM)) h1 hb hmax
        subst hx0
        rcases h7 with h7 | h7
        · rcases owns_row h5 with ⟨rfl, hrow⟩ | ⟨b, cur, rfl, hheap, hrow⟩
          · have := (hrow nilH).block
            rcases this with ⟨_, h0, _⟩ | ⟨b, o, hb0, _⟩
            · omega
            · cases hb0
          · cases h7
        · rcases owns_row h5 with ⟨rfl, hrow⟩ | ⟨b, cur, rfl, hheap, hrow⟩
          · cases h7
          · have : b = w.heap.size := by simpa [Value.ownBlock] using h7
            subst this
            exact ⟨cap2, w', h4, h5, h6⟩
      · obtain ⟨cap2, w', h4, h5, h6⟩ := run_append_G (P := P) (ty := ty) (cap' := cap') ht ⟨i, hi, hz, hsz, hby, hzs, hpos⟩ hr.1 (b := ⟨b, 0, none⟩) (a := ⟨bs, os, none⟩) (fun j u hu => by
          obtain ⟨hj, rfl⟩ := List.getElem?_eq_some_iff.1 hu
          obtain ⟨_, _, _, r4⟩ := hr.rsl.sl (hw2.sub N (List.mem_cons_self ..))
          have h0 : 0 < len := by
            rcases Nat.eq_zero_or_pos len with h | h
            · have := hr.1; rw [h, Nat.zero_mul] at this; omega
            · exact h
          obtain ⟨b1, o1, e1, c1⟩ := r4 h0
          cases e1
          rw [addr_add]; exact c1 j hj) y1 hnews hg hmax hb
        exact ⟨cap2, w', h4, h5, h6⟩
    obtain ⟨cap2, w', h4, h5, h6⟩ := new
    obtain ⟨N', h8, h9⟩ := hp_append (L1 := N :: L1) (N := nilH) (e := e) (size := size) ⟨hw2.os, hw2.tape, hw2.output, fun K hK => by
      rcases List.mem_cons.1 hK with rfl | hK
      · intro k o hk; cases hk
      · exact hw2.sub K hK, by rw [List.pairwise_cons]; exact ⟨fun _ _ _ => .inl rfl, hw2.sep⟩⟩ (Row.nil nilH e size) h5 h6 (.inr rfl)
    have hap := (List.pairwise_cons.1 h9.sep).1 N (by simp)
    refine ⟨_, w', _, fin _ _ h4, h9.merge, join2 N' N, _, cap2, rfl, rfl, h8.le join2_left, .inr ⟨join2_right hap, w.heap.size, rfl, ?_⟩⟩
    cases hk : N w.heap.size with
    | none => rfl
    | some o => exact absurd (hw2.lt (List.mem_cons_self ..) hk) (Nat.lt_irrefl _)
  · -- in its own block
    rcases hr.block with ⟨rfl, rfl, rfl⟩ | ⟨b, o, rfl, hN⟩
    · omega
    · obtain ⟨w', h4, h5, h6⟩ := run_append_fits (P := P) w 0 t ty e i size ht hi hsz b len cap xs (hr.owns (hw2.sub N (List.mem_cons_self ..))) ⟨bs, os, none⟩ m cap' ys y1 hnews h1 hg
      rcases owns_row h5 with ⟨hno, _⟩ | ⟨b2, cur, hb2, hheap, hrow⟩
      · cases hno
      · cases hb2
        have henv := grown_env h6
        refine ⟨_, w', _, fin _ _ h4, hw2.put (o' := .cells cur e (0, 0)) hN henv.1 henv.2.1 henv.2.2 hheap (fun k hk hlt => grown_block h6 hlt (by
          intro h; exact hk (Option.some.inj h).symm)), upd N b (.cells cur e (0, 0)), _, cap, rfl, rfl, hrow _ (upd_self _ _ _), .inl ⟨rfl, rfl, hg, b, rfl, fun k hk => by simp [upd, hk]⟩⟩
end
end Go.Proofs.YtlkjfbfenpkmhaaDoor
/- Many slices of bytes in one part of the memory, each with a block of its own. For whatever program. No condition. -/
namespace Go.Proofs.YtlkjfbfenpkmhaaDoor
set_option linter.unusedVariables false
set_option linter.unusedSimpArgs false
open Go Go.RowKit
/-- Slices of bytes, each with a block of its own. -/
structure Bag (e : TypeId) (N : Heaplet) (vs : List Value) (xs : List (List UInt8)) : Prop where
  len : vs.length = xs.length
  row : ∀ (i : Nat) (x : List UInt8), xs[i]? = some x → ∃ p c, vs[i]? = some (Value.slice p x.length c) ∧ Row N e 1 p x.length c (u8s x)
  apart : ∀ (i j : Nat) (p q : Option Addr) (n m c d : Nat), i ≠ j → vs[i]? = some (Value.slice p n c) → vs[j]? = some (Value.slice q m d) → p = none ∨ p ≠ q
/-- Slices of bytes that can be read. -/
structure Bags (N : Heaplet) (vs : List Value) (xs : List (List UInt8)) : Prop where
  len : vs.length = xs.length
  rsl : ∀ (i : Nat) (x : List UInt8), xs[i]? = some x → ∃ p c, vs[i]? = some (Value.slice p x.length c) ∧ RSl N 1 p x.length c (u8s x)
theorem Bag.nil (e : TypeId) (N : Heaplet) : Bag e N [] [] := ⟨rfl, fun i x h => by simp at h, fun i j p q n m c d _ h => by simp at h⟩
theorem Bags.nil (N : Heaplet) : Bags N [] [] := ⟨rfl, fun i x h => by simp at h⟩
theorem Bag.bags {e : TypeId} {N : Heaplet} {vs : List Value} {xs : List (List UInt8)} (h : Bag e N vs xs) : Bags N vs xs := ⟨h.len, fun i x hx => let ⟨p, c, h1, h2⟩ := h.row i x hx; ⟨p, c, h1, h2.rsl⟩⟩
theorem Bags.le {N M : Heaplet} {vs : List Value} {xs : List (List UInt8)} (h : Bags N vs xs) (hl : N.le M) : Bags M vs xs := ⟨h.len, fun i x hx => let ⟨p, c, h1, h2⟩ := h.rsl i x hx; ⟨p, c, h1, h2.le hl⟩⟩
theorem Bag.le {e : TypeId} {N M : Heaplet} {vs : List Value} {xs : List (List UInt8)} (h : Bag e N vs xs) (hl : N.le M) : Bag e M vs xs := ⟨h.len, fun i x hx => let ⟨p, c, h1, h2⟩ := h.row i x hx; ⟨p, c, h1, h2.le hl⟩, h.apart⟩
theorem snoc_get {α : Type} {xs : List α} {y z : α} {i : Nat} (h : (xs ++ [y])[i]? = some z) : (i < xs.length ∧ xs[i]? = some z) ∨ (i = xs.length ∧ z = y) := by
  rcases Nat.lt_or_ge i xs.length with hi | hi
  · rw [List.getElem?_append_left hi] at h; exact .inl ⟨hi, h⟩
  · rw [List.getElem?_append_right hi] at h
    rcases Nat.eq_zero_or_pos (i - xs.length) with h0 | h0
    · rw [h0] at h; simp at h; exact .inr ⟨by omega, h.symm⟩
    · rw [List.getElem?_eq_none (by simp; omega)] at h; cases h
theorem get_snoc_l {α : Type} {xs : List α} {y z : α} {i : Nat} (h : xs[i]? = some z) : (xs ++ [y])[i]? = some z := by
  rw [List.getElem?_append_left (List.getElem?_eq_some_iff.1 h).1]; exact h
theorem get_snoc_r {α : Type} {xs : List α} {y : α} {i : Nat} (h : i = xs.length) : (xs ++ [y])[i]? = some y := by subst h; simp
theorem Bags.snoc {N M : Heaplet} {vs : List Value} {xs : List (List UInt8)} {x : List UInt8} {p : Option Addr} {c : Nat} (h : Bags N vs xs) (hr : RSl M 1 p x.length c (u8s x)) (ha : Apart M N) : Bags (join2 M N) (vs ++ [Value.slice p x.length c]) (xs ++ [x]) := by
  refine ⟨by simp [h.len], fun i y hy => ?_⟩
  rcases snoc_get hy with ⟨hi, hy⟩ | ⟨hi, rfl⟩
  · obtain ⟨q, d, h1, h2⟩ := h.rsl i y hy
    exact ⟨q, d, get_snoc_l h1, h2.le (join2_right ha)⟩
  · exact ⟨p, c, get_snoc_r (by rw [hi, h.len]), hr.le join2_left⟩
theorem Bag.snoc {e : TypeId} {N M : Heaplet} {vs : List Value} {xs : List (List UInt8)} {x : List UInt8} {p : Option Addr} {c : Nat} (h : Bag e N vs xs) (hr : Row M e 1 p x.length c (u8s x)) (ha : Apart M N) : Bag e (join2 M N) (vs ++ [Value.slice p x.length c]) (xs ++ [x]) := by
  have old : ∀ i q m d, i < vs.length → vs[i]? = some (Value.slice q m d) → p = none ∨ q = none ∨ p ≠ q := fun i q m d hi hv => by
    obtain ⟨y, hy⟩ : ∃ y, xs[i]? = some y := ⟨_, List.getElem?_eq_getElem (by rw [← h.len]; exact hi)⟩
    obtain ⟨q', d', h1, h2⟩ := h.row i y hy
    rw [hv] at h1
    simp only [Option.some.injEq, Value.slice.injEq] at h1
    obtain ⟨rfl, rfl, rfl⟩ := h1
    rcases hr.block with ⟨hp, _⟩ | ⟨b, o, hp, hb⟩
    · exact .inl hp
    · rcases h2.block with ⟨hq, _⟩ | ⟨b', o', hq, hb'⟩
      · exact .inr (.inl hq)
      · refine .inr (.inr fun e => ?_)
        rw [hp, hq] at e
        cases e
        rcases ha b with h | h
        · rw [hb] at h; cases h
        · rw [hb'] at h; cases h
  refine ⟨by simp [h.len], fun i y hy => ?_, fun i j q r n m c' d hij hi hj => ?_⟩
  · rcases snoc_get hy with ⟨hi, hy⟩ | ⟨hi, rfl⟩
    · obtain ⟨q, d, h1, h2⟩ := h.row i y hy
      exact ⟨q, d, get_snoc_l h1, h2.le (join2_right ha)⟩
    · exact ⟨p, c, get_snoc_r (by rw [hi, h.len]), hr.le join2_left⟩
  · rcases snoc_get hi with ⟨li, hi'⟩ | ⟨li, hi'⟩ <;> rcases snoc_get hj with ⟨lj, hj'⟩ | ⟨lj, hj'⟩
    · exact h.apart i j q r n m c' d hij hi' hj'
    · simp only [Value.slice.injEq] at hj'
      obtain ⟨rfl, _⟩ := hj'
      rcases old i q n c' li hi' with h | h | h
      · by_cases hq : q = none
        · exact .inl hq
        · exact .inr fun e => hq (e.trans h)
      · exact .inl h
      · exact .inr fun e => h e.symm
    · simp only [Value.slice.injEq] at hi'
      obtain ⟨rfl, _⟩ := hi'
      rcases old j r m d lj hj' with h | h | h
      · exact .inl h
      · by_cases hq : q = none
        · exact .inl hq
        · exact .inr fun e => hq (e.trans h)
      · exact .inr h
    · omega
/-- One of them is written. -/
theorem Bag.set {e : TypeId} {N N' : Heaplet} {vs : List Value} {xs : List (List UInt8)} {i n c : Nat} {x : List UInt8} {p : Option Addr} (h : Bag e N vs xs) (hv : vs[i]? = some (Value.slice p n c)) (hr : Row N' e 1 p n c (u8s x)) (ho : Off p N N') : Bag e N' vs (xs.set i x) := by
  refine ⟨by simp [h.len], fun j y hy => ?_, h.apart⟩
  by_cases hij : i = j
  · subst hij
    have hlt : i < xs.length := by
      have := (List.getElem?_eq_some_iff.1 hy).1
      simpa using this
    rw [List.getElem?_set_self hlt] at hy
    cases hy
    have hlen : x.length = n := by have := hr.1; simpa using this
    subst hlen
    exact ⟨p, c, hv, hr⟩
  · rw [List.getElem?_set_ne hij] at hy
    obtain ⟨q, d, h1, h2⟩ := h.row j y hy
    exact ⟨q, d, h1, h2.off ho (h.apart j i q p _ _ _ _ (fun e => hij e.symm) h1 hv)⟩
/-! Parts of the memory put together. -/
def joinL : List Heaplet → Heaplet
  | [] => nilH
  | N :: t => join2 N (joinL t)
theorem apart_joinL {A : Heaplet} : ∀ {Ns : List Heaplet}, (∀ N ∈ Ns, Apart A N) → Apart A (joinL Ns) := by
  intro Ns
  induction Ns with
  | nil => intro _ k; exact .inr rfl
  | cons N t ih =>
    intro h k
    rcases h N (by simp) k with h1 | h1
    · exact .inl h1
    · rcases ih (fun M hM => h M (by simp [hM])) k with h2 | h2
      · exact .inl h2
      · exact .inr (by simp [joinL, join2, h1, h2])
theorem Hp.packL {E : World} {w : World} : ∀ {Ns L : List Heaplet}, Hp E (Ns ++ L) w → Hp E (joinL Ns :: L) w := by
  intro Ns
  induction Ns with
  | nil =>
    intro L h
    exact ⟨h.os, h.tape, h.output, fun N hN => by
      rcases List.mem_cons.1 hN with rfl | hN
      · intro k o hk; cases hk
      · exact h.sub N hN, by rw [List.pairwise_cons]; exact ⟨fun _ _ _ => .inl rfl, h.sep⟩⟩
  | cons N t ih =>
    intro L h
    have h1 : Hp E (t ++ (N :: L)) w := h.perm (List.perm_middle.symm)
    exact ((ih h1).perm (.swap ..)).merge
theorem le_joinL {Ns : List Heaplet} (hs : Ns.Pairwise Apart) {N : Heaplet} (hN : N ∈ Ns) : N.le (joinL Ns) := by
  induction Ns with
  | nil => cases hN
  | cons A t ih =>
    have hp := List.pairwise_cons.1 hs
    rcases List.mem_cons.1 hN with rfl | hN
    · exact join2_left
    · exact Heaplet.le_trans (ih hp.2 hN) (join2_right (apart_joinL hp.1))
theorem Hp.unpackL {E : World} {L : List Heaplet} {w : World} {Ns : List Heaplet} (hs : Ns.Pairwise Apart) (h : Hp E (joinL Ns :: L) w) : Hp E (Ns ++ L) w := by
  have hp := List.pairwise_cons.1 h.sep
  refine ⟨h.os, h.tape, h.output, fun N hN => ?_, ?_⟩
  · rcases List.mem_append.1 hN with hN | hN
    · exact Heaplet.le_trans (le_joinL hs hN) (h.sub _ (by simp))
    · exact h.sub N (by simp [hN])
  · rw [List.pairwise_append]
    exact ⟨hs, hp.2, fun a ha b hb => (hp.1 b hb).le (le_joinL hs ha) (Heaplet.le_refl _)⟩
/-- A function's own parts of the memory, handed over as one. -/
theorem Fn.pack {P : Program} {f : FuncId} {args : Array Value} {L0 Lr : List Heaplet} {Post Post' : Value → List Heaplet → Prop} {As : List Heaplet} (hA : As.Pairwise Apart) (h : Fn P f args (As ++ L0) Lr Post)
    (hp : ∀ v L, Post v L → ∃ Bs L1, L = Bs ++ L1 ∧ (Bs.Pairwise Apart → Post' v (joinL Bs :: L1))) : Fn P f args (joinL As :: L0) Lr Post' := by
  intro E w R hw hr
  have hw2 : Hp E (As ++ L0 ++ [R]) w := by
    rw [List.append_assoc]
    exact hw.unpackL hA
  refine (h E w R hw2 hr).mono ?_
  rintro e w' ⟨v, L, rfl, hP, hh⟩
  obtain ⟨Bs, L1, rfl, hq⟩ := hp v L hP
  rw [List.append_assoc] at hh
  have hs := (List.pairwise_append.1 hh.sep).1
  exact ⟨v, _, rfl, hq hs, hh.packL⟩
end Go.Proofs.YtlkjfbfenpkmhaaDoor
/- Facts on the types of the program, by number. No condition. -/
namespace Go.Proofs.YtlkjfbfenpkmhaaDoor
set_option linter.unusedVariables false
set_option linter.unusedSimpArgs false
open Go Go.RowKit
theorem sc2 : scal Tryd.prog 2 = true := by kernel_rfl
theorem sz2 : siz Tryd.prog 2 = some 1 := by kernel_rfl
theorem ze2 : zer Tryd.prog 2 = some (.int .i64 0) := by kernel_rfl
theorem sc3 : scal Tryd.prog 3 = true := by kernel_rfl
theorem sz3 : siz Tryd.prog 3 = some 1 := by kernel_rfl
theorem ze3 : zer Tryd.prog 3 = some (.int .i64 0) := by kernel_rfl
theorem sc4 : scal Tryd.prog 4 = true := by kernel_rfl
theorem sz4 : siz Tryd.prog 4 = some 1 := by kernel_rfl
theorem ze4 : zer Tryd.prog 4 = some (.bool false) := by kernel_rfl
theorem sc5 : scal Tryd.prog 5 = true := by kernel_rfl
theorem sz5 : siz Tryd.prog 5 = some 1 := by kernel_rfl
theorem ze5 : zer Tryd.prog 5 = some (.int .u8 0) := by kernel_rfl
theorem sc6 : scal Tryd.prog 6 = true := by kernel_rfl
theorem sz6 : siz Tryd.prog 6 = some 1 := by kernel_rfl
theorem ze6 : zer Tryd.prog 6 = some (.int .u8 0) := by kernel_rfl
theorem ag7 : aggOf Tryd.prog 7 = some 4 := by kernel_rfl
theorem sz7 : siz Tryd.prog 7 = some 4 := by kernel_rfl
theorem ze7 : zer Tryd.prog 7 = some (.agg #[.int .i64 0, .int .i64 0, .bool false, .int .u8 0]) := by kernel_rfl
theorem fl7_0 : fld Tryd.prog 7 0 = some 0 := by kernel_rfl
theorem fl7_1 : fld Tryd.prog 7 1 = some 1 := by kernel_rfl
theorem fl7_2 : fld Tryd.prog 7 2 = some 2 := by kernel_rfl
theorem fl7_3 : fld Tryd.prog 7 3 = some 3 := by kernel_rfl
theorem pl7 : places Tryd.prog 7 = some [(0, 1), (1, 1), (2, 1), (3, 1)] := by kernel_rfl
theorem ag8 : aggOf Tryd.prog 8 = some 4 := by kernel_rfl
theorem sz8 : siz Tryd.prog 8 = some 4 := by kernel_rfl
theorem ze8 : zer Tryd.prog 8 = some (.agg #[.int .i64 0, .int .i64 0, .bool false, .int .u8 0]) := by kernel_rfl
theorem fl8_0 : fld Tryd.prog 8 0 = some 0 := by kernel_rfl
theorem fl8_1 : fld Tryd.prog 8 1 = some 1 := by kernel_rfl
theorem fl8_2 : fld Tryd.prog 8 2 = some 2 := by kernel_rfl
theorem fl8_3 : fld Tryd.prog 8 3 = some 3 := by kernel_rfl
theorem pl8 : places Tryd.prog 8 = some [(0, 1), (1, 1), (2, 1), (3, 1)] := by kernel_rfl
theorem sc9 : scal Tryd.prog 9 = true := by kernel_rfl
theorem sz9 : siz Tryd.prog 9 = some 1 := by kernel_rfl
theorem ze9 : zer Tryd.prog 9 = some (str []) := by kernel_rfl
theorem sc10 : scal Tryd.prog 10 = true := by kernel_rfl
theorem sz10 : siz Tryd.prog 10 = some 1 := by kernel_rfl
theorem ze10 : zer Tryd.prog 10 = some (str []) := by kernel_rfl
theorem sc11 : scal Tryd.prog 11 = true := by kernel_rfl
theorem sz11 : siz Tryd.prog 11 = some 1 := by kernel_rfl
theorem ze11 : zer Tryd.prog 11 = some (str []) := by kernel_rfl
theorem sc12 : scal Tryd.prog 12 = true := by kernel_rfl
theorem sz12 : siz Tryd.prog 12 = some 1 := by kernel_rfl
theorem ze12 : zer Tryd.prog 12 = some (.int .u64 0) := by kernel_rfl
theorem ag13 : aggOf Tryd.prog 13 = some 2 := by kernel_rfl
theorem sz13 : siz Tryd.prog 13 = some 2 := by kernel_rfl
theorem ze13 : zer Tryd.prog 13 = some (.agg #[str [], .int .u64 0]) := by kernel_rfl
theorem fl13_0 : fld Tryd.prog 13 0 = some 0 := by kernel_rfl
theorem fl13_1 : fld Tryd.prog 13 1 = some 1 := by kernel_rfl
theorem pl13 : places Tryd.prog 13 = some [(0, 1), (1, 1)] := by kernel_rfl
theorem ag14 : aggOf Tryd.prog 14 = some 2 := by kernel_rfl
theorem sz14 : siz Tryd.prog 14 = some 2 := by kernel_rfl
theorem ze14 : zer Tryd.prog 14 = some (.agg #[str [], .int .u64 0]) := by kernel_rfl
theorem fl14_0 : fld Tryd.prog 14 0 = some 0 := by kernel_rfl
theorem fl14_1 : fld Tryd.prog 14 1 = some 1 := by kernel_rfl
theorem pl14 : places Tryd.prog 14 = some [(0, 1), (1, 1)] := by kernel_rfl
theorem sc15 : scal Tryd.prog 15 = true := by kernel_rfl
theorem sz15 : siz Tryd.prog 15 = some 1 := by kernel_rfl
theorem ze15 : zer Tryd.prog 15 = some (.pointer none) := by kernel_rfl
theorem sc16 : scal Tryd.prog 16 = true := by kernel_rfl
theorem sz16 : siz Tryd.prog 16 = some 1 := by kernel_rfl
theorem ze16 : zer Tryd.prog 16 = some (.pointer none) := by kernel_rfl
theorem sc17 : scal Tryd.prog 17 = true := by kernel_rfl
theorem sz17 : siz Tryd.prog 17 = some 1 := by kernel_rfl
theorem ze17 : zer Tryd.prog 17 = some (.pointer none) := by kernel_rfl
theorem ag18 : aggOf Tryd.prog 18 = some 1 := by kernel_rfl
theorem sz18 : siz Tryd.prog 18 = some 1 := by kernel_rfl
theorem ze18 : zer Tryd.prog 18 = some (.agg #[.pointer none]) := by kernel_rfl
theorem fl18_0 : fld Tryd.prog 18 0 = some 0 := by kernel_rfl
theorem pl18 : places Tryd.prog 18 = some [(0, 1)] := by kernel_rfl
theorem ag19 : aggOf Tryd.prog 19 = some 1 := by kernel_rfl
theorem sz19 : siz Tryd.prog 19 = some 1 := by kernel_rfl
theorem ze19 : zer Tryd.prog 19 = some (.agg #[.pointer none]) := by kernel_rfl
theorem fl19_0 : fld Tryd.prog 19 0 = some 0 := by kernel_rfl
theorem pl19 : places Tryd.prog 19 = some [(0, 1)] := by kernel_rfl
theorem sc20 : scal Tryd.prog 20 = true := by kernel_rfl
theorem sz20 : siz Tryd.prog 20 = some 1 := by kernel_rfl
theorem ze20 : zer Tryd.prog 20 = some (.nilIface) := by kernel_rfl
theorem sc21 : scal Tryd.prog 21 = true := by kernel_rfl
theorem sz21 : siz Tryd.prog 21 = some 1 := by kernel_rfl
theorem ze21 : zer Tryd.prog 21 = some (.int .i32 0) := by kernel_rfl
theorem sc22 : scal Tryd.prog 22 = true := by kernel_rfl
theorem sz22 : siz Tryd.prog 22 = some 1 := by kernel_rfl
theorem ze22 : zer Tryd.prog 22 = some (.slice none 0 0) := by kernel_rfl
theorem se22 : selt Tryd.prog 22 = some (5, 1) := by kernel_rfl
theorem ag23 : aggOf Tryd.prog 23 = some 4 := by kernel_rfl
theorem sz23 : siz Tryd.prog 23 = some 4 := by kernel_rfl
theorem ze23 : zer Tryd.prog 23 = some (.agg #[.slice none 0 0, .bool false, .int .i32 0, str []]) := by kernel_rfl
theorem fl23_0 : fld Tryd.prog 23 0 = some 0 := by kernel_rfl
theorem fl23_1 : fld Tryd.prog 23 1 = some 1 := by kernel_rfl
theorem fl23_2 : fld Tryd.prog 23 2 = some 2 := by kernel_rfl
theorem fl23_3 : fld Tryd.prog 23 3 = some 3 := by kernel_rfl
theorem pl23 : places Tryd.prog 23 = some [(0, 1), (1, 1), (2, 1), (3, 1)] := by kernel_rfl
theorem ag24 : aggOf Tryd.prog 24 = some 4 := by kernel_rfl
theorem sz24 : siz Tryd.prog 24 = some 4 := by kernel_rfl
theorem ze24 : zer Tryd.prog 24 = some (.agg #[.slice none 0 0, .bool false, .int .i32 0, str []]) := by kernel_rfl
theorem fl24_0 : fld Tryd.prog 24 0 = some 0 := by kernel_rfl
theorem fl24_1 : fld Tryd.prog 24 1 = some 1 := by kernel_rfl
theorem fl24_2 : fld Tryd.prog 24 2 = some 2 := by kernel_rfl
theorem fl24_3 : fld Tryd.prog 24 3 = some 3 := by kernel_rfl
theorem pl24 : places Tryd.prog 24 = some [(0, 1), (1, 1), (2, 1), (3, 1)] := by kernel_rfl
theorem sc28 : scal Tryd.prog 28 = true := by kernel_rfl
theorem sz28 : siz Tryd.prog 28 = some 1 := by kernel_rfl
theorem ze28 : zer Tryd.prog 28 = some (.int .i64 0) := by kernel_rfl
theorem ag29 : aggOf Tryd.prog 29 = some 2 := by kernel_rfl
theorem sz29 : siz Tryd.prog 29 = some 2 := by kernel_rfl
theorem ze29 : zer Tryd.prog 29 = some (.agg #[.int .i64 0, .int .i64 0]) := by kernel_rfl
theorem fl29_0 : fld Tryd.prog 29 0 = some 0 := by kernel_rfl
theorem fl29_1 : fld Tryd.prog 29 1 = some 1 := by kernel_rfl
theorem pl29 : places Tryd.prog 29 = some [(0, 1), (1, 1)] := by kernel_rfl
theorem ag30 : aggOf Tryd.prog 30 = some 2 := by kernel_rfl
theorem sz30 : siz Tryd.prog 30 = some 2 := by kernel_rfl
theorem ze30 : zer Tryd.prog 30 = some (.agg #[.int .i64 0, .int .i64 0]) := by kernel_rfl
theorem fl30_0 : fld Tryd.prog 30 0 = some 0 := by kernel_rfl
theorem fl30_1 : fld Tryd.prog 30 1 = some 1 := by kernel_rfl
theorem pl30 : places Tryd.prog 30 = some [(0, 1), (1, 1)] := by kernel_rfl
theorem sc34 : scal Tryd.prog 34 = true := by kernel_rfl
theorem sz34 : siz Tryd.prog 34 = some 1 := by kernel_rfl
theorem ze34 : zer Tryd.prog 34 = some (.pointer none) := by kernel_rfl
theorem sc35 : scal Tryd.prog 35 = true := by kernel_rfl
theorem sz35 : siz Tryd.prog 35 = some 1 := by kernel_rfl
theorem ze35 : zer Tryd.prog 35 = some (.slice none 0 0) := by kernel_rfl
theorem se35 : selt Tryd.prog 35 = some (22, 1) := by kernel_rfl
theorem ag36 : aggOf Tryd.prog 36 = some 2 := by kernel_rfl
theorem sz36 : siz Tryd.prog 36 = some 2 := by kernel_rfl
theorem ze36 : zer Tryd.prog 36 = some (.agg #[.slice none 0 0, .slice none 0 0]) := by kernel_rfl
theorem fl36_0 : fld Tryd.prog 36 0 = some 0 := by kernel_rfl
theorem fl36_1 : fld Tryd.prog 36 1 = some 1 := by kernel_rfl
theorem pl36 : places Tryd.prog 36 = some [(0, 1), (1, 1)] := by kernel_rfl
theorem ag37 : aggOf Tryd.prog 37 = some 2 := by kernel_rfl
theorem sz37 : siz Tryd.prog 37 = some 2 := by kernel_rfl
theorem ze37 : zer Tryd.prog 37 = some (.agg #[.slice none 0 0, .slice none 0 0]) := by kernel_rfl
theorem fl37_0 : fld Tryd.prog 37 0 = some 0 := by kernel_rfl
theorem fl37_1 : fld Tryd.prog 37 1 = some 1 := by kernel_rfl
theorem pl37 : places Tryd.prog 37 = some [(0, 1), (1, 1)] := by kernel_rfl
theorem sc38 : scal Tryd.prog 38 = true := by kernel_rfl
theorem sz38 : siz Tryd.prog 38 = some 1 := by kernel_rfl
theorem ze38 : zer Tryd.prog 38 = some (.pointer none) := by kernel_rfl
theorem ag39 : aggOf Tryd.prog 39 = some 5 := by kernel_rfl
theorem sz39 : siz Tryd.prog 39 = some 5 := by kernel_rfl
theorem ze39 : zer Tryd.prog 39 = some (.agg #[.slice none 0 0, .slice none 0 0, .slice none 0 0, .slice none 0 0, .int .i64 0]) := by kernel_rfl
theorem fl39_0 : fld Tryd.prog 39 0 = some 0 := by kernel_rfl
theorem fl39_1 : fld Tryd.prog 39 1 = some 1 := by kernel_rfl
theorem fl39_2 : fld Tryd.prog 39 2 = some 2 := by kernel_rfl
theorem fl39_3 : fld Tryd.prog 39 3 = some 3 := by kernel_rfl
theorem fl39_4 : fld Tryd.prog 39 4 = some 4 := by kernel_rfl
theorem pl39 : places Tryd.prog 39 = some [(0, 1), (1, 1), (2, 1), (3, 1), (4, 1)] := by kernel_rfl
theorem ag40 : aggOf Tryd.prog 40 = some 5 := by kernel_rfl
theorem sz40 : siz Tryd.prog 40 = some 5 := by kernel_rfl
theorem ze40 : zer Tryd.prog 40 = some (.agg #[.slice none 0 0, .slice none 0 0, .slice none 0 0, .slice none 0 0, .int .i64 0]) := by kernel_rfl
theorem fl40_0 : fld Tryd.prog 40 0 = some 0 := by kernel_rfl
theorem fl40_1 : fld Tryd.prog 40 1 = some 1 := by kernel_rfl
theorem fl40_2 : fld Tryd.prog 40 2 = some 2 := by kernel_rfl
theorem fl40_3 : fld Tryd.prog 40 3 = some 3 := by kernel_rfl
theorem fl40_4 : fld Tryd.prog 40 4 = some 4 := by kernel_rfl
theorem pl40 : places Tryd.prog 40 = some [(0, 1), (1, 1), (2, 1), (3, 1), (4, 1)] := by kernel_rfl
theorem sc44 : scal Tryd.prog 44 = true := by kernel_rfl
theorem sz44 : siz Tryd.prog 44 = some 1 := by kernel_rfl
theorem ze44 : zer Tryd.prog 44 = some (.int .u64 0) := by kernel_rfl
theorem ag45 : aggOf Tryd.prog 45 = some 4 := by kernel_rfl
theorem sz45 : siz Tryd.prog 45 = some 4 := by kernel_rfl
theorem ze45 : zer Tryd.prog 45 = some (.agg #[.int .u64 0, .int .u64 0, .int .u64 0, .int .u64 0]) := by kernel_rfl
theorem ae45 : aelt Tryd.prog 45 = some (4, 44, 1) := by kernel_rfl
theorem ag46 : aggOf Tryd.prog 46 = some 4 := by kernel_rfl
theorem sz46 : siz Tryd.prog 46 = some 4 := by kernel_rfl
theorem ze46 : zer Tryd.prog 46 = some (.agg #[.int .u64 0, .int .u64 0, .int .u64 0, .int .u64 0]) := by kernel_rfl
theorem ae46 : aelt Tryd.prog 46 = some (4, 44, 1) := by kernel_rfl
theorem ag49 : aggOf Tryd.prog 49 = some 20 := by kernel_rfl
theorem sz49 : siz Tryd.prog 49 = some 20 := by kernel_rfl
theorem ze49 : zer Tryd.prog 49 = some (.agg #[.int .u8 0, .int .u8 0, .int .u8 0, .int .u8 0, .int .u8 0, .int .u8 0, .int .u8 0, .int .u8 0, .int .u8 0, .int .u8 0, .int .u8 0, .int .u8 0, .int .u8 0, .int .u8 0, .int .u8 0, .int .u8 0, .int .u8 0, .int .u8 0, .int .u8 0, .int .u8 0]) := by kernel_rfl
theorem ae49 : aelt Tryd.prog 49 = some (20, 5, 1) := by kernel_rfl
theorem ag50 : aggOf Tryd.prog 50 = some 20 := by kernel_rfl
theorem sz50 : siz Tryd.prog 50 = some 20 := by kernel_rfl
theorem ze50 : zer Tryd.prog 50 = some (.agg #[.int .u8 0, .int .u8 0, .int .u8 0, .int .u8 0, .int .u8 0, .int .u8 0, .int .u8 0, .int .u8 0, .int .u8 0, .int .u8 0, .int .u8 0, .int .u8 0, .int .u8 0, .int .u8 0, .int .u8 0, .int .u8 0, .int .u8 0, .int .u8 0, .int .u8 0, .int .u8 0]) := by kernel_rfl
theorem ae50 : aelt Tryd.prog 50 = some (20, 5, 1) := by kernel_rfl
theorem ag53 : aggOf Tryd.prog 53 = some 32 := by kernel_rfl
theorem sz53 : siz Tryd.prog 53 = some 32 := by kernel_rfl
theorem ze53 : zer Tryd.prog 53 = some (.agg #[.int .u8 0, .int .u8 0, .int .u8 0, .int .u8 0, .int .u8 0, .int .u8 0, .int .u8 0, .int .u8 0, .int .u8 0, .int .u8 0, .int .u8 0, .int .u8 0, .int .u8 0, .int .u8 0, .int .u8 0, .int .u8 0, .int .u8 0, .int .u8 0, .int .u8 0, .int .u8 0, .int .u8 0, .int .u8 0, .int .u8 0, .int .u8 0, .int .u8 0, .int .u8 0, .int .u8 0, .int .u8 0, .int .u8 0, .int .u8 0, .int .u8 0, .int .u8 0]) := by kernel_rfl
theorem ae53 : aelt Tryd.prog 53 = some (32, 5, 1) := by kernel_rfl
theorem ag54 : aggOf Tryd.prog 54 = some 32 := by kernel_rfl
theorem sz54 : siz Tryd.prog 54 = some 32 := by kernel_rfl
theorem ze54 : zer Tryd.prog 54 = some (.agg #[.int .u8 0, .int .u8 0, .int .u8 0, .int .u8 0, .int .u8 0, .int .u8 0, .int .u8 0, .int .u8 0, .int .u8 0, .int .u8 0, .int .u8 0, .int .u8 0, .int .u8 0, .int .u8 0, .int .u8 0, .int .u8 0, .int .u8 0, .int .u8 0, .int .u8 0, .int .u8 0, .int .u8 0, .int .u8 0, .int .u8 0, .int .u8 0, .int .u8 0, .int .u8 0, .int .u8 0, .int .u8 0, .int .u8 0, .int .u8 0, .int .u8 0, .int .u8 0]) := by kernel_rfl
theorem ae54 : aelt Tryd.prog 54 = some (32, 5, 1) := by kernel_rfl
theorem sc58 : scal Tryd.prog 58 = true := by kernel_rfl
theorem sz58 : siz Tryd.prog 58 = some 1 := by kernel_rfl
theorem ze58 : zer Tryd.prog 58 = some (.slice none 0 0) := by kernel_rfl
theorem se58 : selt Tryd.prog 58 = some (9, 1) := by kernel_rfl
theorem sc64 : scal Tryd.prog 64 = true := by kernel_rfl
theorem sz64 : siz Tryd.prog 64 = some 1 := by kernel_rfl
theorem ze64 : zer Tryd.prog 64 = some (.pointer none) := by kernel_rfl
theorem ag65 : aggOf Tryd.prog 65 = some 2 := by kernel_rfl
theorem sz65 : siz Tryd.prog 65 = some 2 := by kernel_rfl
theorem ze65 : zer Tryd.prog 65 = some (.agg #[.pointer none, .slice none 0 0]) := by kernel_rfl
theorem fl65_0 : fld Tryd.prog 65 0 = some 0 := by kernel_rfl
theorem fl65_1 : fld Tryd.prog 65 1 = some 1 := by kernel_rfl
theorem pl65 : places Tryd.prog 65 = some [(0, 1), (1, 1)] := by kernel_rfl
theorem ag66 : aggOf Tryd.prog 66 = some 2 := by kernel_rfl
theorem sz66 : siz Tryd.prog 66 = some 2 := by kernel_rfl
theorem ze66 : zer Tryd.prog 66 = some (.agg #[.pointer none, .slice none 0 0]) := by kernel_rfl
theorem fl66_0 : fld Tryd.prog 66 0 = some 0 := by kernel_rfl
theorem fl66_1 : fld Tryd.prog 66 1 = some 1 := by kernel_rfl
theorem pl66 : places Tryd.prog 66 = some [(0, 1), (1, 1)] := by kernel_rfl
theorem sc67 : scal Tryd.prog 67 = true := by kernel_rfl
theorem sz67 : siz Tryd.prog 67 = some 1 := by kernel_rfl
theorem ze67 : zer Tryd.prog 67 = some (.nilIface) := by kernel_rfl
theorem sc68 : scal Tryd.prog 68 = true := by kernel_rfl
theorem sz68 : siz Tryd.prog 68 = some 1 := by kernel_rfl
theorem ze68 : zer Tryd.prog 68 = some (.nilIface) := by kernel_rfl
theorem sc72 : scal Tryd.prog 72 = true := by kernel_rfl
theorem sz72 : siz Tryd.prog 72 = some 1 := by kernel_rfl
theorem ze72 : zer Tryd.prog 72 = some (.int .u64 0) := by kernel_rfl
theorem sc78 : scal Tryd.prog 78 = true := by kernel_rfl
theorem sz78 : siz Tryd.prog 78 = some 1 := by kernel_rfl
theorem ze78 : zer Tryd.prog 78 = some (.slice none 0 0) := by kernel_rfl
theorem se78 : selt Tryd.prog 78 = some (3, 1) := by kernel_rfl
theorem sc84 : scal Tryd.prog 84 = true := by kernel_rfl
theorem sz84 : siz Tryd.prog 84 = some 1 := by kernel_rfl
theorem ze84 : zer Tryd.prog 84 = some (.slice none 0 0) := by kernel_rfl
theorem se84 : selt Tryd.prog 84 = some (107, 1) := by kernel_rfl
theorem sc85 : scal Tryd.prog 85 = true := by kernel_rfl
theorem sz85 : siz Tryd.prog 85 = some 1 := by kernel_rfl
theorem ze85 : zer Tryd.prog 85 = some (.slice none 0 0) := by kernel_rfl
theorem se85 : selt Tryd.prog 85 = some (107, 1) := by kernel_rfl
theorem sc96 : scal Tryd.prog 96 = true := by kernel_rfl
theorem sz96 : siz Tryd.prog 96 = some 1 := by kernel_rfl
theorem ze96 : zer Tryd.prog 96 = some (.slice none 0 0) := by kernel_rfl
theorem se96 : selt Tryd.prog 96 = some (21, 1) := by kernel_rfl
theorem sc100 : scal Tryd.prog 100 = true := by kernel_rfl
theorem sz100 : siz Tryd.prog 100 = some 1 := by kernel_rfl
theorem ze100 : zer Tryd.prog 100 = some (.pointer none) := by kernel_rfl
theorem sc107 : scal Tryd.prog 107 = true := by kernel_rfl
theorem sz107 : siz Tryd.prog 107 = some 1 := by kernel_rfl
theorem ze107 : zer Tryd.prog 107 = some (.int .u32 0) := by kernel_rfl
theorem sc109 : scal Tryd.prog 109 = true := by kernel_rfl
theorem sz109 : siz Tryd.prog 109 = some 1 := by kernel_rfl
theorem ze109 : zer Tryd.prog 109 = some (.slice none 0 0) := by kernel_rfl
theorem se109 : selt Tryd.prog 109 = some (111, 2) := by kernel_rfl
theorem ag110 : aggOf Tryd.prog 110 = some 2 := by kernel_rfl
theorem sz110 : siz Tryd.prog 110 = some 2 := by kernel_rfl
theorem ze110 : zer Tryd.prog 110 = some (.agg #[.int .i64 0, .int .i64 0]) := by kernel_rfl
theorem fl110_0 : fld Tryd.prog 110 0 = some 0 := by kernel_rfl
theorem fl110_1 : fld Tryd.prog 110 1 = some 1 := by kernel_rfl
theorem pl110 : places Tryd.prog 110 = some [(0, 1), (1, 1)] := by kernel_rfl
theorem ag111 : aggOf Tryd.prog 111 = some 2 := by kernel_rfl
theorem sz111 : siz Tryd.prog 111 = some 2 := by kernel_rfl
theorem ze111 : zer Tryd.prog 111 = some (.agg #[.int .i64 0, .int .i64 0]) := by kernel_rfl
theorem fl111_0 : fld Tryd.prog 111 0 = some 0 := by kernel_rfl
theorem fl111_1 : fld Tryd.prog 111 1 = some 1 := by kernel_rfl
theorem pl111 : places Tryd.prog 111 = some [(0, 1), (1, 1)] := by kernel_rfl
theorem ag113 : aggOf Tryd.prog 113 = some 256 := by kernel_rfl
theorem sz113 : siz Tryd.prog 113 = some 256 := by kernel_rfl
theorem ae113 : aelt Tryd.prog 113 = some (256, 4, 1) := by kernel_rfl
theorem ag114 : aggOf Tryd.prog 114 = some 256 := by kernel_rfl
theorem sz114 : siz Tryd.prog 114 = some 256 := by kernel_rfl
theorem ae114 : aelt Tryd.prog 114 = some (256, 4, 1) := by kernel_rfl
theorem sc118 : scal Tryd.prog 118 = true := by kernel_rfl
theorem sz118 : siz Tryd.prog 118 = some 1 := by kernel_rfl
theorem ze118 : zer Tryd.prog 118 = some (.pointer none) := by kernel_rfl
theorem sc120 : scal Tryd.prog 120 = true := by kernel_rfl
theorem sz120 : siz Tryd.prog 120 = some 1 := by kernel_rfl
theorem ze120 : zer Tryd.prog 120 = some (.pointer none) := by kernel_rfl
theorem ag122 : aggOf Tryd.prog 122 = some 25 := by kernel_rfl
theorem sz122 : siz Tryd.prog 122 = some 25 := by kernel_rfl
theorem ze122 : zer Tryd.prog 122 = some (.agg #[.int .u64 0, .int .u64 0, .int .u64 0, .int .u64 0, .int .u64 0, .int .u64 0, .int .u64 0, .int .u64 0, .int .u64 0, .int .u64 0, .int .u64 0, .int .u64 0, .int .u64 0, .int .u64 0, .int .u64 0, .int .u64 0, .int .u64 0, .int .u64 0, .int .u64 0, .int .u64 0, .int .u64 0, .int .u64 0, .int .u64 0, .int .u64 0, .int .u64 0]) := by kernel_rfl
theorem ae122 : aelt Tryd.prog 122 = some (25, 44, 1) := by kernel_rfl
theorem ag123 : aggOf Tryd.prog 123 = some 25 := by kernel_rfl
theorem sz123 : siz Tryd.prog 123 = some 25 := by kernel_rfl
theorem ze123 : zer Tryd.prog 123 = some (.agg #[.int .u64 0, .int .u64 0, .int .u64 0, .int .u64 0, .int .u64 0, .int .u64 0, .int .u64 0, .int .u64 0, .int .u64 0, .int .u64 0, .int .u64 0, .int .u64 0, .int .u64 0, .int .u64 0, .int .u64 0, .int .u64 0, .int .u64 0, .int .u64 0, .int .u64 0, .int .u64 0, .int .u64 0, .int .u64 0, .int .u64 0, .int .u64 0, .int .u64 0]) := by kernel_rfl
theorem ae123 : aelt Tryd.prog 123 = some (25, 44, 1) := by kernel_rfl
theorem ag124 : aggOf Tryd.prog 124 = some 26 := by kernel_rfl
theorem sz124 : siz Tryd.prog 124 = some 26 := by kernel_rfl
theorem ze124 : zer Tryd.prog 124 = some (.agg #[.int .u64 0, .int .u64 0, .int .u64 0, .int .u64 0, .int .u64 0, .int .u64 0, .int .u64 0, .int .u64 0, .int .u64 0, .int .u64 0, .int .u64 0, .int .u64 0, .int .u64 0, .int .u64 0, .int .u64 0, .int .u64 0, .int .u64 0, .int .u64 0, .int .u64 0, .int .u64 0, .int .u64 0, .int .u64 0, .int .u64 0, .int .u64 0, .int .u64 0, .slice none 0 0]) := by kernel_rfl
theorem fl124_0 : fld Tryd.prog 124 0 = some 0 := by kernel_rfl
theorem fl124_1 : fld Tryd.prog 124 1 = some 25 := by kernel_rfl
theorem pl124 : places Tryd.prog 124 = some [(0, 25), (25, 1)] := by kernel_rfl
theorem ag125 : aggOf Tryd.prog 125 = some 26 := by kernel_rfl
theorem sz125 : siz Tryd.prog 125 = some 26 := by kernel_rfl
theorem ze125 : zer Tryd.prog 125 = some (.agg #[.int .u64 0, .int .u64 0, .int .u64 0, .int .u64 0, .int .u64 0, .int .u64 0, .int .u64 0, .int .u64 0, .int .u64 0, .int .u64 0, .int .u64 0, .int .u64 0, .int .u64 0, .int .u64 0, .int .u64 0, .int .u64 0, .int .u64 0, .int .u64 0, .int .u64 0, .int .u64 0, .int .u64 0, .int .u64 0, .int .u64 0, .int .u64 0, .int .u64 0, .slice none 0 0]) := by kernel_rfl
theorem fl125_0 : fld Tryd.prog 125 0 = some 0 := by kernel_rfl
theorem fl125_1 : fld Tryd.prog 125 1 = some 25 := by kernel_rfl
theorem pl125 : places Tryd.prog 125 = some [(0, 25), (25, 1)] := by kernel_rfl
theorem sc130 : scal Tryd.prog 130 = true := by kernel_rfl
theorem sz130 : siz Tryd.prog 130 = some 1 := by kernel_rfl
theorem sc139 : scal Tryd.prog 139 = true := by kernel_rfl
theorem sz139 : siz Tryd.prog 139 = some 1 := by kernel_rfl
theorem ze139 : zer Tryd.prog 139 = some (.pointer none) := by kernel_rfl
theorem ag140 : aggOf Tryd.prog 140 = some 136 := by kernel_rfl
theorem sz140 : siz Tryd.prog 140 = some 136 := by kernel_rfl
theorem ae140 : aelt Tryd.prog 140 = some (136, 5, 1) := by kernel_rfl
theorem sc143 : scal Tryd.prog 143 = true := by kernel_rfl
theorem sz143 : siz Tryd.prog 143 = some 1 := by kernel_rfl
theorem ze143 : zer Tryd.prog 143 = some (.slice none 0 0) := by kernel_rfl
theorem se143 : selt Tryd.prog 143 = some (165, 5) := by kernel_rfl
theorem sc145 : scal Tryd.prog 145 = true := by kernel_rfl
theorem sz145 : siz Tryd.prog 145 = some 1 := by kernel_rfl
theorem ze145 : zer Tryd.prog 145 = some (.slice none 0 0) := by kernel_rfl
theorem se145 : selt Tryd.prog 145 = some (44, 1) := by kernel_rfl
theorem ag149 : aggOf Tryd.prog 149 = some 24 := by kernel_rfl
theorem sz149 : siz Tryd.prog 149 = some 24 := by kernel_rfl
theorem ze149 : zer Tryd.prog 149 = some (.agg #[.int .u64 0, .int .u64 0, .int .u64 0, .int .u64 0, .int .u64 0, .int .u64 0, .int .u64 0, .int .u64 0, .int .u64 0, .int .u64 0, .int .u64 0, .int .u64 0, .int .u64 0, .int .u64 0, .int .u64 0, .int .u64 0, .int .u64 0, .int .u64 0, .int .u64 0, .int .u64 0, .int .u64 0, .int .u64 0, .int .u64 0, .int .u64 0]) := by kernel_rfl
theorem ae149 : aelt Tryd.prog 149 = some (24, 44, 1) := by kernel_rfl
theorem sc151 : scal Tryd.prog 151 = true := by kernel_rfl
theorem sz151 : siz Tryd.prog 151 = some 1 := by kernel_rfl
theorem ze151 : zer Tryd.prog 151 = some (.pointer none) := by kernel_rfl
theorem ag156 : aggOf Tryd.prog 156 = some 256 := by kernel_rfl
theorem sz156 : siz Tryd.prog 156 = some 256 := by kernel_rfl
theorem ae156 : aelt Tryd.prog 156 = some (256, 5, 1) := by kernel_rfl
theorem ag157 : aggOf Tryd.prog 157 = some 2 := by kernel_rfl
theorem sz157 : siz Tryd.prog 157 = some 2 := by kernel_rfl
theorem ze157 : zer Tryd.prog 157 = some (.agg #[.int .u8 0, .int .u8 0]) := by kernel_rfl
theorem fl157_0 : fld Tryd.prog 157 0 = some 0 := by kernel_rfl
theorem fl157_1 : fld Tryd.prog 157 1 = some 1 := by kernel_rfl
theorem pl157 : places Tryd.prog 157 = some [(0, 1), (1, 1)] := by kernel_rfl
theorem ag158 : aggOf Tryd.prog 158 = some 2 := by kernel_rfl
theorem sz158 : siz Tryd.prog 158 = some 2 := by kernel_rfl
theorem ze158 : zer Tryd.prog 158 = some (.agg #[.int .u8 0, .int .u8 0]) := by kernel_rfl
theorem fl158_0 : fld Tryd.prog 158 0 = some 0 := by kernel_rfl
theorem fl158_1 : fld Tryd.prog 158 1 = some 1 := by kernel_rfl
theorem pl158 : places Tryd.prog 158 = some [(0, 1), (1, 1)] := by kernel_rfl
theorem ag159 : aggOf Tryd.prog 159 = some 32 := by kernel_rfl
theorem sz159 : siz Tryd.prog 159 = some 32 := by kernel_rfl
theorem ze159 : zer Tryd.prog 159 = some (.agg #[.int .u8 0, .int .u8 0, .int .u8 0, .int .u8 0, .int .u8 0, .int .u8 0, .int .u8 0, .int .u8 0, .int .u8 0, .int .u8 0, .int .u8 0, .int .u8 0, .int .u8 0, .int .u8 0, .int .u8 0, .int .u8 0, .int .u8 0, .int .u8 0, .int .u8 0, .int .u8 0, .int .u8 0, .int .u8 0, .int .u8 0, .int .u8 0, .int .u8 0, .int .u8 0, .int .u8 0, .int .u8 0, .int .u8 0, .int .u8 0, .int .u8 0, .int .u8 0]) := by kernel_rfl
theorem ae159 : aelt Tryd.prog 159 = some (16, 158, 2) := by kernel_rfl
theorem ag160 : aggOf Tryd.prog 160 = some 5 := by kernel_rfl
theorem sz160 : siz Tryd.prog 160 = some 5 := by kernel_rfl
theorem ze160 : zer Tryd.prog 160 = some (.agg #[.int .u64 0, .int .u64 0, .int .u64 0, .int .u64 0, .int .u64 0]) := by kernel_rfl
theorem ae160 : aelt Tryd.prog 160 = some (5, 44, 1) := by kernel_rfl
theorem ag162 : aggOf Tryd.prog 162 = some 3 := by kernel_rfl
theorem sz162 : siz Tryd.prog 162 = some 3 := by kernel_rfl
theorem ze162 : zer Tryd.prog 162 = some (.agg #[.int .i32 0, .int .i32 0, .int .i32 0]) := by kernel_rfl
theorem ae162 : aelt Tryd.prog 162 = some (3, 21, 1) := by kernel_rfl
theorem ag163 : aggOf Tryd.prog 163 = some 3 := by kernel_rfl
theorem sz163 : siz Tryd.prog 163 = some 3 := by kernel_rfl
theorem ze163 : zer Tryd.prog 163 = some (.agg #[.int .i32 0, .int .i32 0, .int .i32 0]) := by kernel_rfl
theorem ae163 : aelt Tryd.prog 163 = some (3, 21, 1) := by kernel_rfl
theorem ag164 : aggOf Tryd.prog 164 = some 5 := by kernel_rfl
theorem sz164 : siz Tryd.prog 164 = some 5 := by kernel_rfl
theorem ze164 : zer Tryd.prog 164 = some (.agg #[.int .u32 0, .int .u32 0, .int .i32 0, .int .i32 0, .int .i32 0]) := by kernel_rfl
theorem fl164_0 : fld Tryd.prog 164 0 = some 0 := by kernel_rfl
theorem fl164_1 : fld Tryd.prog 164 1 = some 1 := by kernel_rfl
theorem fl164_2 : fld Tryd.prog 164 2 = some 2 := by kernel_rfl
theorem pl164 : places Tryd.prog 164 = some [(0, 1), (1, 1), (2, 3)] := by kernel_rfl
theorem ag165 : aggOf Tryd.prog 165 = some 5 := by kernel_rfl
theorem sz165 : siz Tryd.prog 165 = some 5 := by kernel_rfl
theorem ze165 : zer Tryd.prog 165 = some (.agg #[.int .u32 0, .int .u32 0, .int .i32 0, .int .i32 0, .int .i32 0]) := by kernel_rfl
theorem fl165_0 : fld Tryd.prog 165 0 = some 0 := by kernel_rfl
theorem fl165_1 : fld Tryd.prog 165 1 = some 1 := by kernel_rfl
theorem fl165_2 : fld Tryd.prog 165 2 = some 2 := by kernel_rfl
theorem pl165 : places Tryd.prog 165 = some [(0, 1), (1, 1), (2, 3)] := by kernel_rfl
theorem sc172 : scal Tryd.prog 172 = true := by kernel_rfl
theorem sz172 : siz Tryd.prog 172 = some 1 := by kernel_rfl
theorem ze172 : zer Tryd.prog 172 = some (.pointer none) := by kernel_rfl
theorem ag173 : aggOf Tryd.prog 173 = some 4 := by kernel_rfl
theorem sz173 : siz Tryd.prog 173 = some 4 := by kernel_rfl
theorem ze173 : zer Tryd.prog 173 = some (.agg #[.pointer none, .pointer none, .pointer none, str []]) := by kernel_rfl
theorem fl173_0 : fld Tryd.prog 173 0 = some 0 := by kernel_rfl
theorem fl173_1 : fld Tryd.prog 173 1 = some 1 := by kernel_rfl
theorem fl173_2 : fld Tryd.prog 173 2 = some 2 := by kernel_rfl
theorem fl173_3 : fld Tryd.prog 173 3 = some 3 := by kernel_rfl
theorem pl173 : places Tryd.prog 173 = some [(0, 1), (1, 1), (2, 1), (3, 1)] := by kernel_rfl
theorem ag174 : aggOf Tryd.prog 174 = some 4 := by kernel_rfl
theorem sz174 : siz Tryd.prog 174 = some 4 := by kernel_rfl
theorem ze174 : zer Tryd.prog 174 = some (.agg #[.pointer none, .pointer none, .pointer none, str []]) := by kernel_rfl
theorem fl174_0 : fld Tryd.prog 174 0 = some 0 := by kernel_rfl
theorem fl174_1 : fld Tryd.prog 174 1 = some 1 := by kernel_rfl
theorem fl174_2 : fld Tryd.prog 174 2 = some 2 := by kernel_rfl
theorem fl174_3 : fld Tryd.prog 174 3 = some 3 := by kernel_rfl
theorem pl174 : places Tryd.prog 174 = some [(0, 1), (1, 1), (2, 1), (3, 1)] := by kernel_rfl
theorem ag175 : aggOf Tryd.prog 175 = some 0 := by kernel_rfl
theorem sz175 : siz Tryd.prog 175 = some 0 := by kernel_rfl
theorem ze175 : zer Tryd.prog 175 = some (.agg #[]) := by kernel_rfl
theorem ae175 : aelt Tryd.prog 175 = some (0, 16, 1) := by kernel_rfl
theorem ag176 : aggOf Tryd.prog 176 = some 0 := by kernel_rfl
theorem sz176 : siz Tryd.prog 176 = some 0 := by kernel_rfl
theorem ze176 : zer Tryd.prog 176 = some (.agg #[]) := by kernel_rfl
theorem pl176 : places Tryd.prog 176 = some [(0, 0)] := by kernel_rfl
theorem ag177 : aggOf Tryd.prog 177 = some 0 := by kernel_rfl
theorem sz177 : siz Tryd.prog 177 = some 0 := by kernel_rfl
theorem ze177 : zer Tryd.prog 177 = some (.agg #[]) := by kernel_rfl
theorem pl177 : places Tryd.prog 177 = some [(0, 0)] := by kernel_rfl
theorem sc179 : scal Tryd.prog 179 = true := by kernel_rfl
theorem sz179 : siz Tryd.prog 179 = some 1 := by kernel_rfl
theorem ze179 : zer Tryd.prog 179 = some (.int .u8 0) := by kernel_rfl
theorem sc180 : scal Tryd.prog 180 = true := by kernel_rfl
theorem sz180 : siz Tryd.prog 180 = some 1 := by kernel_rfl
theorem ze180 : zer Tryd.prog 180 = some (.int .u8 0) := by kernel_rfl
theorem sc182 : scal Tryd.prog 182 = true := by kernel_rfl
theorem sz182 : siz Tryd.prog 182 = some 1 := by kernel_rfl
theorem ze182 : zer Tryd.prog 182 = some (.int .i32 0) := by kernel_rfl
theorem sc183 : scal Tryd.prog 183 = true := by kernel_rfl
theorem sz183 : siz Tryd.prog 183 = some 1 := by kernel_rfl
theorem ze183 : zer Tryd.prog 183 = some (.int .i32 0) := by kernel_rfl
theorem ag184 : aggOf Tryd.prog 184 = some 11 := by kernel_rfl
theorem sz184 : siz Tryd.prog 184 = some 11 := by kernel_rfl
theorem ze184 : zer Tryd.prog 184 = some (.agg #[.int .u64 0, .int .u64 0, .int .u32 0, .int .u8 0, .int .u8 0, .int .u8 0, .int .u8 0, .nilFunc, .pointer none, .int .i32 0, .int .i32 0]) := by kernel_rfl
theorem fl184_0 : fld Tryd.prog 184 0 = some 0 := by kernel_rfl
theorem fl184_1 : fld Tryd.prog 184 1 = some 1 := by kernel_rfl
theorem fl184_2 : fld Tryd.prog 184 2 = some 2 := by kernel_rfl
theorem fl184_3 : fld Tryd.prog 184 3 = some 3 := by kernel_rfl
theorem fl184_4 : fld Tryd.prog 184 4 = some 4 := by kernel_rfl
theorem fl184_5 : fld Tryd.prog 184 5 = some 5 := by kernel_rfl
theorem fl184_6 : fld Tryd.prog 184 6 = some 6 := by kernel_rfl
theorem fl184_7 : fld Tryd.prog 184 7 = some 7 := by kernel_rfl
theorem fl184_8 : fld Tryd.prog 184 8 = some 8 := by kernel_rfl
theorem fl184_9 : fld Tryd.prog 184 9 = some 9 := by kernel_rfl
theorem fl184_10 : fld Tryd.prog 184 10 = some 10 := by kernel_rfl
theorem pl184 : places Tryd.prog 184 = some [(0, 1), (1, 1), (2, 1), (3, 1), (4, 1), (5, 1), (6, 1), (7, 1), (8, 1), (9, 1), (10, 1)] := by kernel_rfl
theorem ag185 : aggOf Tryd.prog 185 = some 11 := by kernel_rfl
theorem sz185 : siz Tryd.prog 185 = some 11 := by kernel_rfl
theorem ze185 : zer Tryd.prog 185 = some (.agg #[.int .u64 0, .int .u64 0, .int .u32 0, .int .u8 0, .int .u8 0, .int .u8 0, .int .u8 0, .nilFunc, .pointer none, .int .i32 0, .int .i32 0]) := by kernel_rfl
theorem fl185_0 : fld Tryd.prog 185 0 = some 0 := by kernel_rfl
theorem fl185_1 : fld Tryd.prog 185 1 = some 1 := by kernel_rfl
theorem fl185_2 : fld Tryd.prog 185 2 = some 2 := by kernel_rfl
theorem fl185_3 : fld Tryd.prog 185 3 = some 3 := by kernel_rfl
theorem fl185_4 : fld Tryd.prog 185 4 = some 4 := by kernel_rfl
theorem fl185_5 : fld Tryd.prog 185 5 = some 5 := by kernel_rfl
theorem fl185_6 : fld Tryd.prog 185 6 = some 6 := by kernel_rfl
theorem fl185_7 : fld Tryd.prog 185 7 = some 7 := by kernel_rfl
theorem fl185_8 : fld Tryd.prog 185 8 = some 8 := by kernel_rfl
theorem fl185_9 : fld Tryd.prog 185 9 = some 9 := by kernel_rfl
theorem fl185_10 : fld Tryd.prog 185 10 = some 10 := by kernel_rfl
theorem pl185 : places Tryd.prog 185 = some [(0, 1), (1, 1), (2, 1), (3, 1), (4, 1), (5, 1), (6, 1), (7, 1), (8, 1), (9, 1), (10, 1)] := by kernel_rfl
theorem ag186 : aggOf Tryd.prog 186 = some 1 := by kernel_rfl
theorem sz186 : siz Tryd.prog 186 = some 1 := by kernel_rfl
theorem ze186 : zer Tryd.prog 186 = some (.agg #[str []]) := by kernel_rfl
theorem fl186_0 : fld Tryd.prog 186 0 = some 0 := by kernel_rfl
theorem pl186 : places Tryd.prog 186 = some [(0, 1)] := by kernel_rfl
theorem ag187 : aggOf Tryd.prog 187 = some 1 := by kernel_rfl
theorem sz187 : siz Tryd.prog 187 = some 1 := by kernel_rfl
theorem ze187 : zer Tryd.prog 187 = some (.agg #[str []]) := by kernel_rfl
theorem fl187_0 : fld Tryd.prog 187 0 = some 0 := by kernel_rfl
theorem pl187 : places Tryd.prog 187 = some [(0, 1)] := by kernel_rfl
theorem te3 : ElemInfo Tryd.prog 3 (.int .i64 0) 1 8 := elem_of (by kernel_rfl) rfl (by decide)
theorem te5 : ElemInfo Tryd.prog 5 (.int .u8 0) 1 1 := elem_of (by kernel_rfl) rfl (by decide)
theorem te9 : ElemInfo Tryd.prog 9 (str []) 1 16 := elem_of (by kernel_rfl) rfl (by decide)
theorem te21 : ElemInfo Tryd.prog 21 (.int .i32 0) 1 4 := elem_of (by kernel_rfl) rfl (by decide)
theorem te22 : ElemInfo Tryd.prog 22 (.slice none 0 0) 1 24 := elem_of (by kernel_rfl) rfl (by decide)
theorem te44 : ElemInfo Tryd.prog 44 (.int .u64 0) 1 8 := elem_of (by kernel_rfl) rfl (by decide)
theorem te107 : ElemInfo Tryd.prog 107 (.int .u32 0) 1 4 := elem_of (by kernel_rfl) rfl (by decide)
theorem te111 : ElemInfo Tryd.prog 111 (.agg #[.int .i64 0, .int .i64 0]) 2 16 := elem_of (by kernel_rfl) rfl (by decide)
theorem te165 : ElemInfo Tryd.prog 165 (.agg #[.int .u32 0, .int .u32 0, .int .i32 0, .int .i32 0, .int .i32 0]) 5 20 := elem_of (by kernel_rfl) rfl (by decide)
end Go.Proofs.YtlkjfbfenpkmhaaDoor
/- The engine, part 11: what is guarded by what was left out is left out. For whatever program. No condition. -/
namespace Go.Proofs.YtlkjfbfenpkmhaaDoor
set_option linter.unusedVariables false
set_option linter.unusedSimpArgs false
open Go Go.RowKit
section
variable {P : Program} {n : Nat} {l : List (Nat × Value)} {E : World} {L : List Heaplet} {Q : Exit → Act → World → Prop} {ops : Array Oper} {rest : List Oper} {o : Oper}
theorem unwanted_of {j : Nat} {b : Bool} {oj : Oper} {d : Nat} {a : Act} (hf : Fr n l a) (hg : o.guard = some (j, b)) (hj : ops[j]? = some oj) (hd : oj.dst = some d) (hv : lk l d = some undef) : Region.wanted o (yielded ops a.tmps) = false := by
  have := hf.get d _ hv
  simp [Region.wanted, hg, yielded, hj, hd, this, undef]
theorem op_skipU {j : Nat} {b : Bool} {oj : Oper} {d e : Nat} (hg : o.guard = some (j, b)) (hj : ops[j]? = some oj) (hd : oj.dst = some d) (hv : lk l d = some undef) (he : o.dst = some e) (hn : Nat.ble (e + 1) n = true)
    (h : At n ((e, undef) :: l) E L (wpList P ops Q rest)) : At n l E L (wpList P ops Q (o :: rest)) := fun a w hf hw =>
  wpList_step fun K hK => by
    rw [unwanted_of hf hg hj hd hv]
    simp only [Bool.false_eq_true, if_false]
    rw [he]
    exact hK _ _ (h _ _ (hf.put (Nat.le_of_ble_eq_true hn)) hw)
theorem op_oskipU {i : Nat} {is : List Nat} {sink : Nat → Bool} {j : Nat} {b : Bool} {oj : Oper} {d e : Nat} (ho : ops[i]? = some o) (hg : o.guard = some (j, b)) (hj : ops[j]? = some oj) (hd : oj.dst = some d) (hv : lk l d = some undef) (he : o.dst = some e) (hn : Nat.ble (e + 1) n = true)
    (h : At n ((e, undef) :: l) E L (wpOne P ops sink Q is)) : At n l E L (wpOne P ops sink Q (i :: is)) := fun a w hf hw =>
  wpOne_skip ho (unwanted_of hf hg hj hd hv) (by rw [he]; exact h _ _ (hf.put (Nat.le_of_ble_eq_true hn)) hw)
theorem op_sskipU {i : Nat} {is : List Nat} {sink : Nat → Bool} {S : World → Prop} {j : Nat} {b : Bool} {oj : Oper} {d e : Nat} (ho : ops[i]? = some o) (hg : o.guard = some (j, b)) (hj : ops[j]? = some oj) (hd : oj.dst = some d) (hv : lk l d = some undef) (he : o.dst = some e) (hn : Nat.ble (e + 1) n = true)
    (h : At n ((e, undef) :: l) E L (St.wpOne P ops S sink Q is)) : At n l E L (St.wpOne P ops S sink Q (i :: is)) := fun a w hf hw =>
  St.wpOne_skip ho (unwanted_of hf hg hj hd hv) (by rw [he]; exact h _ _ (hf.put (Nat.le_of_ble_eq_true hn)) hw)
end
end Go.Proofs.YtlkjfbfenpkmhaaDoor
/- Cells of numbers: what is set and what is zero. No condition. -/
namespace Go.Proofs.YtlkjfbfenpkmhaaDoor
set_option linter.unusedVariables false
set_option linter.unusedSimpArgs false
open Go Go.RowKit
theorem set_u64s (l : List UInt64) (i : Nat) (x : UInt64) : (u64s l).set i (.int .u64 (x.toNat : Int)) = u64s (l.set i x) := by simp [u64s, List.map_set, vl]
theorem set_u8s (l : List UInt8) (i : Nat) (x : UInt8) : (u8s l).set i (.int .u8 (x.toNat : Int)) = u8s (l.set i x) := by simp [u8s, List.map_set, vb]
theorem set_u32s (l : List UInt32) (i : Nat) (x : UInt32) : (u32s l).set i (.int .u32 (x.toNat : Int)) = u32s (l.set i x) := by simp [u32s, List.map_set, vd]
theorem zero_u64s (m : Nat) : List.replicate m (Value.int .u64 0) = u64s (List.replicate m 0) := by simp [u64s, vl]
theorem zero_u8s (m : Nat) : List.replicate m (Value.int .u8 0) = u8s (List.replicate m 0) := by simp [u8s, vb]
theorem zero_u32s (m : Nat) : List.replicate m (Value.int .u32 0) = u32s (List.replicate m 0) := by simp [u32s, vd]
theorem ofNat_shl (x : UInt8) (m : Nat) : shl64 (UInt64.ofNat x.toNat) m = UInt64.ofNat (x.toNat * 2 ^ m) := by
  unfold shl64
  rw [UInt64.toNat_ofNat', Nat.mod_eq_of_lt (by have := x.toNat_lt; omega)]
end Go.Proofs.YtlkjfbfenpkmhaaDoor
/- The engine, arrays of words: what is read and written at a place. For whatever program. No condition. -/
namespace Go.Proofs.YtlkjfbfenpkmhaaDoor
set_option linter.unusedVariables false
set_option linter.unusedSimpArgs false
open Go Go.RowKit
theorem get64A {bs : List UInt64} {j : Nat} (h : j < bs.length) : (u64s bs)[0 + j * 1]? = some (.int .u64 ((bs.getD j 0).toNat : Int)) := by rw [Nat.zero_add, Nat.mul_one]; exact get64 h
theorem get32A {bs : List UInt32} {j : Nat} (h : j < bs.length) : (u32s bs)[0 + j * 1]? = some (.int .u32 ((bs.getD j 0).toNat : Int)) := by rw [Nat.zero_add, Nat.mul_one]; exact get32 h
theorem get8A {bs : List UInt8} {j : Nat} (h : j < bs.length) : (u8s bs)[0 + j * 1]? = some (.int .u8 ((bs.getD j 0).toNat : Int)) := by rw [Nat.zero_add, Nat.mul_one]; exact get8 h
theorem set64A (l : List UInt64) (j : Nat) (x : UInt64) : setL (u64s l) (0 + j * 1) [.int .u64 (x.toNat : Int)] = u64s (l.set j x) := by rw [Nat.zero_add, Nat.mul_one, setL, setL, set_u64s]
theorem set32A (l : List UInt32) (j : Nat) (x : UInt32) : setL (u32s l) (0 + j * 1) [.int .u32 (x.toNat : Int)] = u32s (l.set j x) := by rw [Nat.zero_add, Nat.mul_one, setL, setL, set_u32s]
theorem set8A (l : List UInt8) (j : Nat) (x : UInt8) : setL (u8s l) (0 + j * 1) [.int .u8 (x.toNat : Int)] = u8s (l.set j x) := by rw [Nat.zero_add, Nat.mul_one, setL, setL, set_u8s]
theorem four {α : Type} {l : List α} (h : l.length = 4) : ∃ a b c d, l = [a, b, c, d] := by
  match l, h with
  | [a, b, c, d], _ => exact ⟨a, b, c, d, rfl⟩
/-- A word of four limbs as a value. -/
def wv (l : List UInt64) : Value := .agg (u64s l).toArray
theorem eq_words4 {l m : List UInt64} (hl : l.length = 4) (hm : m.length = 4) (h : v64 l = v64 m) : l = m := v64_inj (by omega) h
section
variable {P : Program} {n : Nat} {l : List (Nat × Value)} {E : World} {L Ls : List Heaplet} {X Y : Act → World → Prop} {d : Nat} {t ty e : TypeId} {x y : Operand}
theorem op_buildA {alen size : Nat} {parts : List (Nat × Operand)} {vs : List (Nat × Value)} {zs out : List Value} {pos : _} {aft : _} {g : _} (s : NxF P n l E L Ls ⟨some d, .build t parts.toArray, ty, pos, aft, g⟩ X Y) (hz : zer P t = some (.agg zs.toArray)) (hp : aelt P t = some (alen, e, size)) (hv : Pts l parts vs) (ho : fillL ((List.range alen).map fun i => (i * size, size)) zs vs = some out) (hn : Nat.ble (d + 1) n = true) (h : At n ((d, .agg out.toArray) :: l) E L Y) : At n l E L X :=
  op_val s (fun a w hf hw => by
    obtain ⟨i, hi, hiz⟩ := Option.bind_eq_some_iff.1 hz
    obtain ⟨hu, j, hj, hjs⟩ := aelt_spec hp
    have hzr : (zeroValue t).run P w = .ok (.agg zs.toArray) w := by simp [zeroValue, typeInfo, hi, hiz]
    have hfill := fill_fillL (place := fun i => some (i * size, size)) (fun i o h => by
      rw [List.getElem?_map] at h
      obtain ⟨k, hk, rfl⟩ := Option.map_eq_some_iff.1 h
      obtain ⟨_, rfl⟩ := List.getElem?_eq_some_iff.1 hk
      simp) vs zs out ho
    have hpv : (parts.toArray.map fun (x : Nat × Operand) => (x.1, a.eval x.2)) = vs.toArray := by rw [List.map_toArray, hv.map hf]
    have hb : (Instr.build t vs.toArray).run P w = .ok (.agg out.toArray) w := by
      unfold Instr.build
      rw [Sem.run_bind, hzr]
      simp only [Result.andThen_ok]
      rw [Sem.run_bind, run_underlying hu]
      simp only [Result.andThen_ok]
      rw [Sem.run_bind, run_sizeOf hj, hjs]
      simp only [Result.andThen_ok, Value.cells, hfill, Sem.run_pure]
    show ((do pure (.value (← Instr.build t (parts.toArray.map fun (x : Nat × Operand) => (x.1, a.eval x.2)))) : Sem Next)).run P w = _
    rw [hpv, Sem.run_bind, hb]
    rfl) rfl hn h
theorem op_idxV {alen j : Nat} {k : IntKind} {p : Int} {v : Value} {cs : Array Value} {pos : _} {aft : _} {g : _} (s : NxF P n l E L Ls ⟨some d, .index t x y, ty, pos, aft, g⟩ X Y) (ht : aelt P t = some (alen, e, 1)) (he : scal P e = true) (hx : ev l x = some (.agg cs)) (hy : ev l y = some (.int k p)) (hj : p = (j : Int)) (hlt : j < alen) (hc : cs[j]? = some v) (hn : Nat.ble (d + 1) n = true) (h : At n ((d, v) :: l) E L Y) : At n l E L X := by
  obtain ⟨hu, i, hi, hsz⟩ := aelt_spec ht
  refine op_val s (fun a w hf hw => ?_) rfl hn h
  subst hj
  simp only [execOp, hf.eval hx, hf.eval hy, Instr.index, asIntOf, Sem.run_bind, Sem.run_pure, Result.andThen_ok, run_underlying hu]
  have h0 : (0 : Int) ≤ (j : Int) ∧ (j : Int) < (alen : Int) := by omega
  simp only [if_pos h0, Sem.run_bind, run_sizeOf hi, hsz, Result.andThen_ok, Int.toNat_natCast, Nat.mul_one]
  simp only [part, Sem.run_bind]
  rw [run_isAgg_scal he]
  simp only [Result.andThen_ok, Bool.false_eq_true, if_false, hc, Sem.run_pure]
end
end Go.Proofs.YtlkjfbfenpkmhaaDoor
