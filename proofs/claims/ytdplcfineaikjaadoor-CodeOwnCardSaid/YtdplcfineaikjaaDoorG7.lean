/- The engine, part 7: what the walker's text leans on. For whatever program. No condition. -/
import Derived.Test.YtdplcfineaikjaaDoorG6
namespace Go.Proofs.YtdplcfineaikjaaDoor
set_option linter.unusedVariables false
set_option linter.unusedSimpArgs false
open Go Go.RowKit
theorem mem0 {A : Heaplet} {L : List Heaplet} : A ∈ A :: L := List.Mem.head _
theorem mem1 {A B : Heaplet} {L : List Heaplet} : A ∈ B :: A :: L := List.Mem.tail _ mem0
theorem mem2 {A B C : Heaplet} {L : List Heaplet} : A ∈ B :: C :: A :: L := List.Mem.tail _ mem1
theorem mem3 {A B C D : Heaplet} {L : List Heaplet} : A ∈ B :: C :: D :: A :: L := List.Mem.tail _ mem2
theorem mem4 {A B C D F : Heaplet} {L : List Heaplet} : A ∈ B :: C :: D :: F :: A :: L := List.Mem.tail _ mem3
theorem mem5 {A B C D F G : Heaplet} {L : List Heaplet} : A ∈ B :: C :: D :: F :: G :: A :: L := List.Mem.tail _ mem4
theorem mem6 {A B C D F G H : Heaplet} {L : List Heaplet} : A ∈ B :: C :: D :: F :: G :: H :: A :: L := List.Mem.tail _ mem5
theorem mem7 {A B C D F G H I : Heaplet} {L : List Heaplet} : A ∈ B :: C :: D :: F :: G :: H :: I :: A :: L := List.Mem.tail _ mem6
theorem mem8 {A B C D F G H I J : Heaplet} {L : List Heaplet} : A ∈ B :: C :: D :: F :: G :: H :: I :: J :: A :: L := List.Mem.tail _ mem7
theorem sel5 {A B C D F G : Heaplet} {L : List Heaplet} : (B :: C :: D :: F :: G :: A :: L).Perm (A :: B :: C :: D :: F :: G :: L) := (List.Perm.cons _ sel4).trans (.swap _ _ _)
theorem sel6 {A B C D F G H : Heaplet} {L : List Heaplet} : (B :: C :: D :: F :: G :: H :: A :: L).Perm (A :: B :: C :: D :: F :: G :: H :: L) := (List.Perm.cons _ sel5).trans (.swap _ _ _)
theorem sel7 {A B C D F G H I : Heaplet} {L : List Heaplet} : (B :: C :: D :: F :: G :: H :: I :: A :: L).Perm (A :: B :: C :: D :: F :: G :: H :: I :: L) := (List.Perm.cons _ sel6).trans (.swap _ _ _)
theorem sel8 {A B C D F G H I J : Heaplet} {L : List Heaplet} : (B :: C :: D :: F :: G :: H :: I :: J :: A :: L).Perm (A :: B :: C :: D :: F :: G :: H :: I :: J :: L) := (List.Perm.cons _ sel7).trans (.swap _ _ _)
theorem sel9 {A B C D F G H I J K : Heaplet} {L : List Heaplet} : (B :: C :: D :: F :: G :: H :: I :: J :: K :: A :: L).Perm (A :: B :: C :: D :: F :: G :: H :: I :: J :: K :: L) := (List.Perm.cons _ sel8).trans (.swap _ _ _)
theorem sel10 {A B C D F G H I J K M : Heaplet} {L : List Heaplet} : (B :: C :: D :: F :: G :: H :: I :: J :: K :: M :: A :: L).Perm (A :: B :: C :: D :: F :: G :: H :: I :: J :: K :: M :: L) := (List.Perm.cons _ sel9).trans (.swap _ _ _)
theorem sel11 {A B C D F G H I J K M O : Heaplet} {L : List Heaplet} : (B :: C :: D :: F :: G :: H :: I :: J :: K :: M :: O :: A :: L).Perm (A :: B :: C :: D :: F :: G :: H :: I :: J :: K :: M :: O :: L) := (List.Perm.cons _ sel10).trans (.swap _ _ _)
theorem sel12 {A B C D F G H I J K M O P : Heaplet} {L : List Heaplet} : (B :: C :: D :: F :: G :: H :: I :: J :: K :: M :: O :: P :: A :: L).Perm (A :: B :: C :: D :: F :: G :: H :: I :: J :: K :: M :: O :: P :: L) := (List.Perm.cons _ sel11).trans (.swap _ _ _)
theorem mem9 {A B C D F G H I J K : Heaplet} {L : List Heaplet} : A ∈ B :: C :: D :: F :: G :: H :: I :: J :: K :: A :: L := List.Mem.tail _ mem8
theorem mem10 {A B C D F G H I J K M : Heaplet} {L : List Heaplet} : A ∈ B :: C :: D :: F :: G :: H :: I :: J :: K :: M :: A :: L := List.Mem.tail _ mem9
theorem mem11 {A B C D F G H I J K M O : Heaplet} {L : List Heaplet} : A ∈ B :: C :: D :: F :: G :: H :: I :: J :: K :: M :: O :: A :: L := List.Mem.tail _ mem10
theorem mem12 {A B C D F G H I J K M O P : Heaplet} {L : List Heaplet} : A ∈ B :: C :: D :: F :: G :: H :: I :: J :: K :: M :: O :: P :: A :: L := List.Mem.tail _ mem11
theorem mem13 {A B C D F G H I J K M O P Q : Heaplet} {L : List Heaplet} : A ∈ B :: C :: D :: F :: G :: H :: I :: J :: K :: M :: O :: P :: Q :: A :: L := List.Mem.tail _ mem12
theorem lkI {l : List (Nat × Value)} {i : Nat} {k : IntKind} {p q : Int} (h : lk l i = some (.int k p)) (e : p = q) : lk l i = some (.int k q) := by rw [h, e]
theorem lkB {l : List (Nat × Value)} {i : Nat} {p q : Bool} (h : lk l i = some (.bool p)) (e : p = q) : lk l i = some (.bool q) := by rw [h, e]
theorem lkV {l : List (Nat × Value)} {i : Nat} {p q : Value} (h : lk l i = some p) (e : p = q) : lk l i = some q := by rw [h, e]
theorem und_some {P : Program} {t : TypeId} {d : TypeDesc} (h : P.underlying t = some d) : (P.underlying t).isSome = true := by rw [h]; rfl
theorem getD_some {α : Type} {l : List α} {j : Nat} {z : α} (h : j < l.length) : l[j]? = some (l.getD j z) := by
  rw [List.getD_eq_getElem?_getD, List.getElem?_eq_getElem h]; rfl
theorem get8 {bs : List UInt8} {j : Nat} (h : j < bs.length) : (u8s bs)[j]? = some (.int .u8 ((bs.getD j 0).toNat : Int)) := by
  rw [u8s, List.getElem?_map, getD_some (z := 0) h]; rfl
theorem get64 {bs : List UInt64} {j : Nat} (h : j < bs.length) : (u64s bs)[j]? = some (.int .u64 ((bs.getD j 0).toNat : Int)) := by
  rw [u64s, List.getElem?_map, getD_some (z := 0) h]; rfl
theorem get32 {bs : List UInt32} {j : Nat} (h : j < bs.length) : (u32s bs)[j]? = some (.int .u32 ((bs.getD j 0).toNat : Int)) := by
  rw [u32s, List.getElem?_map, getD_some (z := 0) h]; rfl
section
variable {P : Program} {n : Nat} {l l' : List (Nat × Value)} {E : World} {L L1 Ls : List Heaplet} {o : Oper} {X Y K : Act → World → Prop} {N : Heaplet} {Q : Exit → Act → World → Prop}
variable {d : Nat} {ty t t' e : TypeId} {pos : String} {aft : Array Edge} {g : Option (Nat × Bool)} {v : Value} {x y z : Operand} {k : IntKind} {p q : Int} {size len cap : Nat} {ao : Option Addr} {xs : List Value} {b off j : Nat}
theorem At.cut {c : Code} (hk : Keeps l l') (hc : At n ((d, v) :: l') E L K) (hb : ∀ K', (∀ l'', Keeps l'' l' → lk l'' d = some v → At n l'' E L K') → At n l E L (c.wp P (Exit.then K' Q))) : At n l E L (c.wp P (Exit.then K Q)) :=
  hb K fun l'' h1 h2 => At.keep (.cons h2 h1) hc
theorem op_idx1 (s : NxF P n l E L Ls ⟨some d, .indexAddr t x y, ty, pos, aft, g⟩ X Y) (ht : selt P t = some (e, 1)) (hx : ev l x = some (.slice ao len cap)) (hy : ev l y = some (.int k p)) (hs : RSl N 1 ao len cap xs) (hj : p = (j : Int)) (hlt : j < len) (hn : Nat.ble (d + 1) n = true) (h : At n ((d, eptr ao j) :: l) E L Y) : At n l E L X :=
  op_idxE s ht hx hy hs hj hlt hn (by rw [Nat.mul_one]; exact h)
theorem At.ret1E {Post : Value → List Heaplet → Prop} {R : Heaplet} {L2 : List Heaplet} {fn : Func} {r : ResultVar} {v : Value} (hr : fn.results = #[r]) (hv : Res P l L [r] [v]) (hs : L2.Sublist L) (hL : L2.Perm (L1 ++ [R])) (hP : Post v L1) :
    At n l E L (bodyPost P fn (Done E R Post) .normal) := At.ret1 hr hv hs hL hP
theorem At.retNE {Post : Value → List Heaplet → Prop} {R : Heaplet} {L2 : List Heaplet} {fn : Func} {rs : List ResultVar} {vs : List Value} (hr : fn.results = rs.toArray)
    (hv : Res P l L rs vs) (hn : (vs.length == 1) = false) (hs : L2.Sublist L) (hL : L2.Perm (L1 ++ [R])) (hP : Post (.tuple vs.toArray) L1) :
    At n l E L (bodyPost P fn (Done E R Post) .normal) := At.retN hr hv hn hs hL hP
theorem res_agg {cs ds : List Value} {kk : Nat} (ht : aggOf P t = some kk) (hb : Blk N b e cs) (hd : (cs.drop off).take kk = ds) (hk : ds.length = kk) (hN : N ∈ L) : ∀ E w, Hp E L w → (loadVar t ⟨b, off, none⟩).run P w = .ok (.agg ds.toArray) w := fun E w hw =>
  run_load_agg ht hk fun i hi => hw.cell hN (by
    have h2 : ((cs.drop off).take kk)[i]? = some ds[i] := by rw [hd]; exact List.getElem?_eq_getElem hi
    rw [List.getElem?_take, if_pos (by omega), List.getElem?_drop] at h2
    obtain ⟨hl, he⟩ := List.getElem?_eq_some_iff.1 h2
    have := hb.rng (off + i) hl
    rw [Nat.zero_add] at this
    rw [this, he])
theorem res_scal {cs : List Value} (ht : scal P t = true) (hb : Blk N b e cs) (hd : cs[off]? = some v) (hN : N ∈ L) : ∀ E w, Hp E L w → (loadVar t ⟨b, off, none⟩).run P w = .ok v w := fun E w hw =>
  run_load_scal ht (hw.cell hN (by
    obtain ⟨hl, he⟩ := List.getElem?_eq_some_iff.1 hd
    have := hb.rng off hl
    rw [Nat.zero_add] at this
    rw [this, he]))
/-! aggregates -/
inductive Pts (l : List (Nat × Value)) : List (Nat × Operand) → List (Nat × Value) → Prop
  | nil : Pts l [] []
  | cons {i : Nat} {x : Operand} {v : Value} {xs : List (Nat × Operand)} {vs : List (Nat × Value)} (h : ev l x = some v) (k : Pts l xs vs) : Pts l ((i, x) :: xs) ((i, v) :: vs)
theorem Pts.map {xs : List (Nat × Operand)} {vs : List (Nat × Value)} (h : Pts l xs vs) {a : Act} (hf : Fr n l a) : (xs.map fun p => (p.1, a.eval p.2)) = vs := by
  induction h with
  | nil => rfl
  | cons h _ ih => rw [List.map_cons, ih]; simp [hf.eval h]
/-- The parts of a struct put in place. -/
def fillL (ps : List (Nat × Nat)) (cells : List Value) : List (Nat × Value) → Option (List Value)
  | [] => some cells
  | (i, v) :: rest => match ps[i]? with
    | none => none
    | some (off, size) => if v.cells.toList.length = size ∧ off + v.cells.toList.length ≤ cells.length then fillL ps (setL cells off v.cells.toList) rest else none
theorem foldl_setL (vs : List Value) : ∀ (cs : List Value) (off i : Nat), ((vs.zipIdx i).foldl (fun (cs : Array Value) (c, j) => cs.setIfInBounds (off + j) c) cs.toArray) = (setL cs (off + i) vs).toArray := by
  induction vs with
  | nil => intro cs off i; rfl
  | cons v t ih =>
    intro cs off i
    rw [List.zipIdx_cons, List.foldl_cons, setL]
    have : cs.toArray.setIfInBounds (off + i) v = (cs.set (off + i) v).toArray := by simp
    show List.foldl _ (cs.toArray.setIfInBounds (off + i) v) _ = _
    rw [this, ih]; rfl
theorem fill_fillL {ps : List (Nat × Nat)} {place : Nat → Option (Nat × Nat)} (hp : ∀ i o, ps[i]? = some o → place i = some o) : ∀ (parts : List (Nat × Value)) (cells out : List Value), fillL ps cells parts = some out → Instr.fill place cells.toArray parts = some out.toArray := by
  intro parts
  induction parts with
  | nil => intro cells out h; cases h; rfl
  | cons pv rest ih =>
    intro cells out h
    obtain ⟨i, v⟩ := pv
    simp only [fillL] at h
    split at h
    · cases h
    · rename_i o s hs
      split at h
      · rename_i hc
        simp only [Instr.fill, hp _ _ hs]
        rw [Array.length_toList] at hc
        rw [if_neg (by simp; omega)]
        have e := foldl_setL v.cells.toList cells o 0
        rw [Nat.add_zero] at e
        have e2 : (Array.foldl (fun cs x => cs.setIfInBounds (o + x.2) x.1) cells.toArray v.cells.zipIdx) = (setL cells o v.cells.toList).toArray := by
          rw [← e, ← Array.foldl_toList, Array.toList_zipIdx]
        rw [e2]
        exact ih _ _ h
      · cases h
theorem places_spec {P : Program} {t : TypeId} {ps : List (Nat × Nat)} (h : places P t = some ps) (w : World) : ∃ fs, P.underlying t = some (.struct fs) ∧ (fs.mapM (m := Sem) fun f => do pure (f.offset, ← sizeOf f.type)).run P w = .ok ps.toArray w := by
  unfold places at h
  split at h
  · rename_i fs hu
    refine ⟨fs, hu, ?_⟩
    have key : ∀ (l : List Field) (ps : List (Nat × Nat)), (l.mapM fun f => (siz P f.type).map fun s => (f.offset, s)) = some ps → (l.mapM (m := Sem) fun f => do pure (f.offset, ← sizeOf f.type)).run P w = .ok ps w := by
      intro l
      induction l with
      | nil => intro ps h; cases h; rfl
      | cons f t ih =>
        intro ps h
        simp only [List.mapM_cons, Option.bind_eq_bind, Option.bind_eq_some_iff, Option.map_eq_some_iff] at h
        obtain ⟨a, ⟨s, hs, rfl⟩, qs, hq, h⟩ := h
        cases h
        obtain ⟨i, hi, rfl⟩ := Option.map_eq_some_iff.1 hs
        rw [List.mapM_cons, Sem.run_bind, Sem.run_bind, run_sizeOf hi]
        simp only [Result.andThen_ok, Sem.run_pure]
        rw [Sem.run_bind, ih qs hq]
        rfl
    have := key fs.toList ps h
    rw [Array.mapM_eq_mapM_toList, Sem.run_map, this]
    rfl
  · cases h
theorem op_build {parts : List (Nat × Operand)} {vs : List (Nat × Value)} {zs out : List Value} {ps : List (Nat × Nat)} (s : NxF P n l E L Ls ⟨some d, .build t parts.toArray, ty, pos, aft, g⟩ X Y) (hz : zer P t = some (.agg zs.toArray)) (hp : places P t = some ps) (hv : Pts l parts vs) (ho : fillL ps zs vs = some out) (hn : Nat.ble (d + 1) n = true) (h : At n ((d, .agg out.toArray) :: l) E L Y) : At n l E L X :=
  op_val s (fun a w hf hw => by
    obtain ⟨i, hi, hiz⟩ := Option.bind_eq_some_iff.1 hz
    obtain ⟨fs, hu, hm⟩ := places_spec hp w
    have hzr : (zeroValue t).run P w = .ok (.agg zs.toArray) w := by simp [zeroValue, typeInfo, hi, hiz]
    have hfill := fill_fillL (place := (ps.toArray[·]?)) (fun i o h => by simpa using h) vs zs out ho
    have hpv : (parts.toArray.map fun (x : Nat × Operand) => (x.1, a.eval x.2)) = vs.toArray := by rw [List.map_toArray, hv.map hf]
    have hb : (Instr.build t vs.toArray).run P w = .ok (.agg out.toArray) w := by
      unfold Instr.build
      rw [Sem.run_bind, hzr]
      simp only [Result.andThen_ok]
      rw [Sem.run_bind, run_underlying hu]
      simp only [Result.andThen_ok]
      rw [Sem.run_bind, hm]
      simp only [Result.andThen_ok, Value.cells, hfill, Sem.run_pure]
    show ((do pure (.value (← Instr.build t (parts.toArray.map fun (x : Nat × Operand) => (x.1, a.eval x.2)))) : Sem Next)).run P w = _
    rw [hpv, Sem.run_bind, hb]
    rfl) rfl hn h
/-- A slice literal. -/
theorem op_buildSlice {parts : List (Nat × Operand)} {vs : List (Nat × Value)} {zv : Value} {out : List Value} {m : Nat} (s : NxA P n l E L ⟨some d, .buildSlice t m parts.toArray, ty, pos, aft, g⟩ X Y) (ht : P.underlying t = some (.slice e)) (hz : zer P e = some zv) (hsz : siz P e = some size) (hv : Pts l parts vs)
    (ho : fillL ((List.range m).map fun i => (i * size, size)) (madeCells zv.cells (m * size)).toList vs = some out) (hlen : out.length = m * size) (hm : Nat.ble (m * size) 16777216 = true) (hm2 : Nat.ble m 16777216 = true) (hn : Nat.ble (d + 1) n = true)
    (h : ∀ N ao, Row N e size ao m m out → At n ((d, .slice ao m m) :: l) E (N :: L) Y) : At n l E L X := by
  have hm' := Nat.le_of_ble_eq_true hm
  refine op_new s (fun v L' => ∃ N ao, v = .slice ao m m ∧ L' = N :: L ∧ Row N e size ao m m out) (fun a w hf hw => ?_) rfl hn (fun v L' ⟨N, ao, hv, hL, hB⟩ => by subst hv; subst hL; exact h N ao hB)
  obtain ⟨i, hi, hiz⟩ := Option.bind_eq_some_iff.1 hz
  obtain ⟨i', hi', hs'⟩ := Option.map_eq_some_iff.1 hsz
  rw [hi] at hi'; cases hi'
  have hzr : (zeroValue e).run P w = .ok zv w := by simp [zeroValue, typeInfo, hi, hiz]
  have hpv : (parts.toArray.map fun (x : Nat × Operand) => (x.1, a.eval x.2)) = vs.toArray := by rw [List.map_toArray, hv.map hf]
  have hfill := fill_fillL (place := fun i => some (i * size, size)) (fun i o h => by
    rw [List.getElem?_map, Option.map_eq_some_iff] at h
    obtain ⟨i', hi', rfl⟩ := h
    have := List.getElem?_eq_some_iff.1 hi'
    obtain ⟨h1, h2⟩ := this
    simp at h2; subst h2; rfl) vs _ out ho
  refine ⟨_, _, _, ?_, Agree.alloc w (.cells out.toArray e), hw.alloc _, single w.heap.size (.cells out.toArray e), some ⟨w.heap.size, 0, none⟩, rfl, rfl, ⟨hlen, Nat.le_refl _, ?_, .inr ⟨w.heap.size, _, rfl, single_self _ _, by simpa using hlen, by simp [← hlen]⟩⟩⟩
  · show ((do pure (.value (← Instr.buildSlice t m (parts.toArray.map fun (x : Nat × Operand) => (x.1, a.eval x.2)))) : Sem Next)).run P w = _
    rw [hpv, Sem.run_bind]
    have hb : (Instr.buildSlice t m vs.toArray).run P w = .ok (.slice (some ⟨w.heap.size, 0, none⟩) m m) (w.alloc (.cells out.toArray e)) := by
      have hbig : ¬ m * size > 2 ^ 24 := by omega
      unfold Instr.buildSlice
      simp only [Sem.run_bind, run_underlying ht, Result.andThen_ok, run_sizeOf hi, hs', if_neg hbig, Sem.run_pure]
      by_cases h0 : m * size = 0
      · have e1 : (madeCells zv.cells (m * size)) = #[] := by rw [h0]; simp [madeCells]
        rw [e1] at hfill
        have hfill' : Instr.fill (fun i => some (i * size, size)) #[] vs = some out.toArray := hfill
        have e0 : ∀ a : Array Value, ((Array.range 0).map fun x => a[x % a.size]!) = #[] := fun a => by simp
        simp only [h0, if_true, Sem.run_pure, Result.andThen_ok, e0, hfill', Sem.run_bind, newRow]
        rfl
      · simp only [if_neg h0, Sem.run_bind, hzr, Result.andThen_ok, Sem.run_pure]
        have e1 : ((Array.range (m * size)).map fun x => zv.cells[x % zv.cells.size]!) = madeCells zv.cells (m * size) := rfl
        rw [e1]
        have hfill' : Instr.fill (fun i => some (i * size, size)) (madeCells zv.cells (m * size)) vs = some out.toArray := by simpa using hfill
        simp only [hfill', Sem.run_bind, newRow, Sem.run_pure]
        rfl
    rw [hb]
    rfl
  · have := Nat.le_of_ble_eq_true hm2
    unfold maxLen; omega
end
end Go.Proofs.YtdplcfineaikjaaDoor
