/- The engine, part 6: operations that make or write memory; calls. For whatever program. No condition. -/
import Derived.Test.YtdplcfineaikjaaDoorG5
namespace Go.Proofs.YtdplcfineaikjaaDoor
set_option linter.unusedVariables false
set_option linter.unusedSimpArgs false
open Go Go.RowKit
theorem sel0 {A : Heaplet} {L : List Heaplet} : (A :: L).Perm (A :: L) := .refl _
theorem sel1 {A B : Heaplet} {L : List Heaplet} : (B :: A :: L).Perm (A :: B :: L) := .swap _ _ _
theorem sel2 {A B C : Heaplet} {L : List Heaplet} : (B :: C :: A :: L).Perm (A :: B :: C :: L) := (List.Perm.cons _ (.swap _ _ _)).trans (.swap _ _ _)
theorem sel3 {A B C D : Heaplet} {L : List Heaplet} : (B :: C :: D :: A :: L).Perm (A :: B :: C :: D :: L) := (List.Perm.cons _ sel2).trans (.swap _ _ _)
theorem sel4 {A B C D F : Heaplet} {L : List Heaplet} : (B :: C :: D :: F :: A :: L).Perm (A :: B :: C :: D :: F :: L) := (List.Perm.cons _ sel3).trans (.swap _ _ _)
section
variable {P : Program} {n : Nat} {l : List (Nat × Value)} {E : World} {L L1 : List Heaplet} {o : Oper} {X Y : Act → World → Prop} {N : Heaplet}
variable {d : Nat} {ty t t' e : TypeId} {pos : String} {aft : Array Edge} {g : Option (Nat × Bool)} {v : Value} {x y z : Operand} {k : IntKind} {p q : Int} {size len cap : Nat} {ao : Option Addr} {xs : List Value} {b off j : Nat}
/-- An operation that makes memory and leaves what is there. -/
theorem op_new (s : NxA P n l E L o X Y) (C : Value → List Heaplet → Prop) (hr : ∀ a w, Fr n l a → Hp E L w → ∃ v w' L', (execOp a.eval o).run P w = .ok (.value v) w' ∧ Agree w w' ∧ Hp E L' w' ∧ C v L') (hd : o.dst = some d) (hn : Nat.ble (d + 1) n = true)
    (h : ∀ v L', C v L' → At n ((d, v) :: l) E L' Y) : At n l E L X := fun a w hf hw => by
  obtain ⟨v, w', L', h1, h2, h3, h4⟩ := hr a w hf hw
  refine s a w hf hw ?_
  unfold Oper.wp
  rw [h1]
  simp only [Oper.upon, hd]
  exact ⟨h2, h v L' h4 _ _ (hf.put (Nat.le_of_ble_eq_true hn)) h3⟩
theorem op_upd (s : Nx P n l E L o X Y) (C : Value → List Heaplet → Prop) (hr : ∀ a w, Fr n l a → Hp E L w → ∃ v w' L', (execOp a.eval o).run P w = .ok (.value v) w' ∧ Hp E L' w' ∧ C v L') (hd : o.dst = some d) (hn : Nat.ble (d + 1) n = true)
    (h : ∀ v L', C v L' → At n ((d, v) :: l) E L' Y) : At n l E L X := fun a w hf hw => by
  obtain ⟨v, w', L', h1, h3, h4⟩ := hr a w hf hw
  refine s a w hf hw ?_
  unfold Oper.wp
  rw [h1]
  simp only [Oper.upon, hd]
  exact h v L' h4 _ _ (hf.put (Nat.le_of_ble_eq_true hn)) h3
theorem upd_self (N : Heaplet) (b : Nat) (o : Obj) : upd N b o b = some o := by simp [upd]
theorem single_self (b : Nat) (o : Obj) : single b o b = some o := by simp [single]
theorem op_alloc {zs : Value} (s : NxA P n l E L ⟨some d, .alloc t, ty, pos, aft, g⟩ X Y) (hz : zer P t = some zs) (hn : Nat.ble (d + 1) n = true)
    (h : ∀ N b, Blk N b t zs.cells.toList → At n ((d, .pointer (some ⟨b, 0, none⟩)) :: l) E (N :: L) Y) : At n l E L X := by
  obtain ⟨i, hi, hiz⟩ := Option.bind_eq_some_iff.1 hz
  refine op_new s (fun v L' => ∃ N b, v = .pointer (some ⟨b, 0, none⟩) ∧ L' = N :: L ∧ Blk N b t zs.cells.toList) (fun a w hf hw => ?_) rfl hn (fun v L' ⟨N, b, hv, hL, hB⟩ => by subst hv; subst hL; exact h N b hB)
  refine ⟨_, _, _, ?_, Agree.alloc w (.cells zs.cells t), hw.alloc _, single w.heap.size (.cells zs.cells t), w.heap.size, rfl, rfl, by unfold Blk; simpa using single_self _ _⟩
  simp [execOp, Instr.alloc, zeroValue, typeInfo, hi, hiz, newVar, newRow, newObj, Sem.run]
theorem op_box {vs : List Value} (s : NxA P n l E L ⟨some d, .box t x, ty, pos, aft, g⟩ X Y) (hx : ev l x = some v) (hv : v.cells = vs.toArray) (hn : Nat.ble (d + 1) n = true)
    (h : ∀ N b, Blk N b t vs → At n ((d, .pointer (some ⟨b, 0, none⟩)) :: l) E (N :: L) Y) : At n l E L X := by
  refine op_new s (fun v L' => ∃ N b, v = .pointer (some ⟨b, 0, none⟩) ∧ L' = N :: L ∧ Blk N b t vs) (fun a w hf hw => ?_) rfl hn (fun v L' ⟨N, b, hv, hL, hB⟩ => by subst hv; subst hL; exact h N b hB)
  refine ⟨_, _, _, ?_, Agree.alloc w (.cells vs.toArray t), hw.alloc _, single w.heap.size (.cells vs.toArray t), w.heap.size, rfl, rfl, single_self _ _⟩
  simp [execOp, Instr.box, hf.eval hx, newVar, newRow, newObj, Sem.run, hv]
/-- A store through a pointer to a block that is known whole. -/
theorem op_store {cs vs : List Value} {kk : Nat} (s : Nx P n l E L ⟨none, .store t x y, ty, pos, aft, g⟩ X Y) (ht0 : siz P t = some kk) (hx : ev l x = some (.pointer (some ⟨b, off, none⟩))) (hy : ev l y = some v) (hv : v.cells = vs.toArray) (hk : vs.length = kk) (h1 : vs.all (·.oneCell') = true) (hb : Blk N b e cs) (hlen : off + vs.length ≤ cs.length) (hs : L.Perm (N :: L1))
    (h : ∀ N, Blk N b e (setL cs off vs) → At n l E (N :: L1) Y) : At n l E L X := fun a w hf hw => by
  have ht : siz P t = some vs.length := by rw [ht0, hk]
  have hw2 := hw.perm hs
  have hheap := hw2.sub N (List.mem_cons_self ..) _ _ hb
  obtain ⟨w', hr, e1, e2, e3, e4, e5⟩ := run_storeCells (P := P) vs w b off 0 cs e hheap (fun u hu => List.all_eq_true.1 h1 u hu) (by omega)
  obtain ⟨i, hi, hsz⟩ := Option.map_eq_some_iff.1 ht
  refine s a w hf hw ?_
  unfold Oper.wp
  have hrun : (execOp a.eval ⟨none, .store t x y, ty, pos, aft, g⟩).run P w = .ok .skip w' := by
    simp only [execOp, hf.eval hx, hf.eval hy, Instr.storeAt, Instr.sureAddr, Sem.run_bind, Sem.run_pure, Result.andThen_ok, storeVar, run_sizeOf hi, hsz, hv]
    simp only [List.size_toArray, ne_eq, not_true, if_false]
    rw [hr]
    rfl
  rw [hrun]
  exact h (upd N b (.cells (setL cs off vs).toArray e (0, 0))) (upd_self _ _ _) a w' hf (hw2.put hb e1 e2 e3 (by simpa using e4) fun k hk _ => e5 k hk)
/-- A store to an element of a slice that owns its block. -/
theorem setL_take (vs : List Value) : ∀ (cs : List Value) (off m : Nat), off + vs.length ≤ m → (setL cs off vs).take m = setL (cs.take m) off vs := by
  induction vs with
  | nil => intro cs off m _; rfl
  | cons v t ih =>
    intro cs off m h
    simp only [List.length_cons] at h
    rw [setL, setL, ih _ _ _ (by omega), List.take_set]
theorem op_storeE {vs : List Value} {kk : Nat} (s : Nx P n l E L ⟨none, .store t x y, ty, pos, aft, g⟩ X Y) (ht0 : siz P t = some kk) (hx : ev l x = some (eptr ao j)) (hy : ev l y = some v) (hv : v.cells = vs.toArray) (hk : vs.length = kk) (h1 : vs.all (·.oneCell') = true) (hb : Row N e size ao len cap xs) (hlen : j + vs.length ≤ xs.length) (h0 : 0 < vs.length) (hs : L.Perm (N :: L1))
    (h : ∀ N, Row N e size ao len cap (setL xs j vs) → At n l E (N :: L1) Y) : At n l E L X := fun a w hf hw => by
  have ht : siz P t = some vs.length := by rw [ht0, hk]
  have hw2 := hw.perm hs
  obtain ⟨a1, a2, a3, a4⟩ := hb
  have hn0 : 0 < len := by
    rcases Nat.eq_zero_or_pos len with h | h
    · rw [h, Nat.zero_mul] at a1; omega
    · exact h
  rcases a4 with ⟨_, hz, _⟩ | ⟨b, cur, rfl, hN, hcs, ht'⟩
  · omega
  have hN' : N b = some (.cells cur.toList.toArray e (0, 0)) := by simpa using hN
  have hheap := hw2.sub N (List.mem_cons_self ..) _ _ hN'
  have hxl : xs.length ≤ cur.toList.length := by rw [a1, Array.length_toList, hcs]; exact Nat.mul_le_mul_right _ a2
  obtain ⟨w', hr, e1, e2, e3, e4, e5⟩ := run_storeCells (P := P) vs w b j 0 cur.toList e hheap (fun u hu => List.all_eq_true.1 h1 u hu) (by omega)
  obtain ⟨i, hi, hsz⟩ := Option.map_eq_some_iff.1 ht
  refine s a w hf hw ?_
  unfold Oper.wp
  have hrun : (execOp a.eval ⟨none, .store t x y, ty, pos, aft, g⟩).run P w = .ok .skip w' := by
    simp only [execOp, hf.eval hx, hf.eval hy, eptr, Option.map_some, Nat.zero_add, Instr.storeAt, Instr.sureAddr, Sem.run_bind, Sem.run_pure, Result.andThen_ok, storeVar, run_sizeOf hi, hsz, hv]
    simp only [List.size_toArray, ne_eq, not_true, if_false]
    rw [hr]
    rfl
  rw [hrun]
  refine h (upd N b (.cells (setL cur.toList j vs).toArray e (0, 0))) ⟨by rw [length_setL, a1], a2, a3, .inr ⟨b, _, rfl, upd_self _ _ _, by simp [length_setL, hcs], ?_⟩⟩ a w' hf (hw2.put hN' e1 e2 e3 (by simpa using e4) fun k hk _ => e5 k hk)
  rw [List.toList_toArray, setL_take _ _ _ _ (by omega), ht']
theorem owns_row {w : World} {e : TypeId} {size len cap : Nat} {ao : Option Addr} {xs : List Value} (h : w.ownsRow 0 e size (.slice ao len cap) len xs) : (ao = none ∧ ∀ M : Heaplet, Row M e size ao len cap xs) ∨ ∃ b cur, ao = some ⟨b, 0, none⟩ ∧ w.heap[b]? = some (.cells cur e (0, 0)) ∧ ∀ M : Heaplet, M b = some (.cells cur e (0, 0)) → Row M e size ao len cap xs := by
  obtain ⟨h1, ⟨hv, hn⟩ | ⟨b, cap', cur, hv, _, hb, hnc, hcm, hcs, ht⟩⟩ := h
  · simp only [Value.slice.injEq] at hv
    obtain ⟨rfl, _, rfl⟩ := hv
    subst hn
    exact .inl ⟨rfl, fun M => ⟨h1, Nat.le_refl _, by unfold maxLen; omega, .inl ⟨rfl, rfl, rfl⟩⟩⟩
  · simp only [Value.slice.injEq, true_and] at hv
    obtain ⟨rfl, rfl⟩ := hv
    exact .inr ⟨b, cur, rfl, hb, fun M hM => ⟨h1, hnc, hcm, .inr ⟨b, cur, rfl, hM, hcs, ht⟩⟩⟩
theorem Row.owns {w : World} (hN : N.le (whole w)) (h : Row N e size ao len cap xs) : w.ownsRow 0 e size (.slice ao len cap) len xs := by
  obtain ⟨h1, h2, h3, ⟨rfl, rfl, rfl⟩ | ⟨b, cur, rfl, hb, hcs, ht⟩⟩ := h
  · exact ⟨h1, .inl ⟨rfl, rfl⟩⟩
  · exact ⟨h1, .inr ⟨b, cap, cur, rfl, Nat.zero_le _, hN _ _ hb, h2, h3, hcs, ht⟩⟩
theorem grown_agree {w w' : World} {r : Option Nat} (h : w.grownBy w' r) (hr : ∀ k, r = some k → w.heap.size ≤ k) : Agree w w' :=
  Agree.of_below ((Below.refl w.heap.size w).grown h (Nat.le_refl _) hr)
theorem grown_env {w w' : World} {r : Option Nat} (h : w.grownBy w' r) : w'.os = w.os ∧ w'.tape = w.tape ∧ w'.output = w.output :=
  let b := (Below.refl 0 w).grown h (Nat.zero_le _) (fun _ _ => Nat.zero_le _)
  ⟨b.os, b.tape, b.output⟩
theorem cast_mul_le {a b c : Nat} (h : a * b ≤ c) : (a : Int) * b ≤ (c : Int) := by rw [← Int.natCast_mul]; exact Int.ofNat_le.2 h
/-- make([]T, n) -/
theorem op_make {zv : Value} {bytes m : Nat} {kl kc : IntKind} (s : NxA P n l E L ⟨some d, .makeSlice t x y, ty, pos, aft, g⟩ X Y) (ht : P.underlying t = some (.slice e)) (hE : ElemInfo P e zv size bytes) (hx : ev l x = some (.int kl p)) (hy : ev l y = some (.int kc q)) (hp : p = (m : Int)) (hq : q = (m : Int)) (hb : bytes * m ≤ 281474976710656) (hm : m ≤ maxLen) (hn : Nat.ble (d + 1) n = true)
    (h : ∀ N ao, Row N e size ao m m (madeCells zv.cells (m * size)).toList → At n ((d, .slice ao m m) :: l) E (N :: L) Y) : At n l E L X := by
  obtain ⟨i, hi, hz, hsz, hby, hzs, h0⟩ := hE
  refine op_new s (fun v L' => ∃ N ao, v = .slice ao m m ∧ L' = N :: L ∧ Row N e size ao m m (madeCells zv.cells (m * size)).toList) (fun a w hf hw => ?_) rfl hn (fun v L' ⟨N, ao, hv, hL, hB⟩ => by subst hv; subst hL; exact h N ao hB)
  subst hp; subst hq
  have hr := run_make (P := P) w t e i zv ht hi hz kl kc (m : Int) (m : Int) (by omega) (Int.le_refl _) (cast_mul_le (by rw [hby]; exact hb)) (by unfold maxLen at hm; omega)
  rw [Int.toNat_natCast, hsz] at hr
  refine ⟨_, _, _, ?_, Agree.alloc w (.cells (madeCells zv.cells (m * size)) e), hw.alloc _, single w.heap.size (.cells (madeCells zv.cells (m * size)) e), some ⟨w.heap.size, 0, none⟩, rfl, rfl, ?_⟩
  · simp only [execOp, hf.eval hx, hf.eval hy]
    rw [Sem.run_bind, hr]
    rfl
  · refine ⟨by rw [Array.length_toList, size_madeCells], Nat.le_refl _, hm, .inr ⟨w.heap.size, _, rfl, single_self _ _, size_madeCells _ _, ?_⟩⟩
    rw [List.take_of_length_le (by rw [Array.length_toList, size_madeCells]; exact Nat.le_refl _)]
/-! append -/
theorem run_append_row {w : World} {zv : Value} {bytes m cap' : Nat} {ao' : Option Addr} {ys : List Value} {ty : TypeId} (ht : P.underlying t = some (.slice e)) (hE : ElemInfo P e zv size bytes) (hN : N.le (whole w)) (hr : Row N e size ao len cap xs) (hs : Sl w size ao' m cap' ys) (h1 : ∀ u ∈ ys, u.oneCell' = true)
    (hb : (len + m) * bytes ≤ 140737488355328) (hl : len + m ≤ maxLen) :
    ∃ ao2 cap2 w', (Builtin.append_ #[t, t] ty #[.slice ao len cap, .slice ao' m cap']).run P w = .ok (.slice ao2 (len + m) cap2) w' ∧
      w'.ownsRow 0 e size (.slice ao2 (len + m) cap2) (len + m) (xs ++ ys) ∧ w.grownBy w' (Value.ownBlock (.slice ao len cap)) ∧ (Value.ownBlock (.slice ao2 (len + m) cap2) = Value.ownBlock (.slice ao len cap) ∨ Value.ownBlock (.slice ao2 (len + m) cap2) = some w.heap.size) := by
  have hown := hr.owns hN
  obtain ⟨i, hi, hz, hsz, hby, hzs, h0⟩ := hE
  obtain ⟨s1, s2, s3, s4⟩ := hs
  have fin : ∀ (ad : Addr), ao' = some ad → (∀ j u, ys[j]? = some u → w.cell? (ad.add j) = some u) → ∃ ao2 cap2 w', (Builtin.append_ #[t, t] ty #[.slice ao len cap, .slice ao' m cap']).run P w = .ok (.slice ao2 (len + m) cap2) w' ∧
      w'.ownsRow 0 e size (.slice ao2 (len + m) cap2) (len + m) (xs ++ ys) ∧ w.grownBy w' (Value.ownBlock (.slice ao len cap)) ∧ (Value.ownBlock (.slice ao2 (len + m) cap2) = Value.ownBlock (.slice ao len cap) ∨ Value.ownBlock (.slice ao2 (len + m) cap2) = some w.heap.size) := by
    intro ad had hnews
    subst had
    obtain ⟨v', w', hr, ho, hg, _, hbk⟩ := run_append_own_at (P := P) w 0 t ty e i zv size bytes ht hi hz hsz hby hzs h0 _ len xs hown ad m cap' ys s1 hnews h1 hl hb (Nat.zero_le _)
    obtain ⟨ao2, cap2, rfl⟩ := owns_form ho
    exact ⟨ao2, cap2, w', hr, ho, hg, hbk⟩
  by_cases hm : 0 < m
  · obtain ⟨b, off, rfl, hc⟩ := s4 hm
    refine fin _ rfl fun j u hu => ?_
    obtain ⟨hj, rfl⟩ := List.getElem?_eq_some_iff.1 hu
    rw [addr_add]; exact hc j hj
  · obtain rfl : m = 0 := by omega
    have hy : ys = [] := List.eq_nil_of_length_eq_zero (by simpa using s1)
    subst hy
    cases ao' with
    | some ad => exact fin ad rfl fun j u hu => by simp at hu
    | none =>
      refine ⟨ao, cap, w, ?_, by simpa using hown, ⟨rfl, rfl, rfl, Nat.le_refl _, fun _ _ _ => rfl⟩, .inl rfl⟩
      have hcap : len ≤ cap := hr.2.1
      cases ao with
      | none => simp [Builtin.append_, run_underlying ht, sizeOf, typeInfo, hi, Builtin.lenOf, Builtin.firstCells, hcap]
      | some a => simp [Builtin.append_, run_underlying ht, sizeOf, typeInfo, hi, Builtin.lenOf, Builtin.firstCells, hcap, storeCells]
theorem grown_block {w w' : World} {r : Option Nat} (h : w.grownBy w' r) {k : Nat} (hk : k < w.heap.size) (hr : r ≠ some k) : w'.heap[k]? = w.heap[k]? := h.block k hk (fun e => hr e.symm)
theorem hp_append {w w' : World} {ao2 : Option Addr} {cap2 m : Nat} {ys : List Value} (hw : Hp E (N :: L1) w) (hr : Row N e size ao len cap xs) (ho : w'.ownsRow 0 e size (.slice ao2 m cap2) m ys) (hg : w.grownBy w' (Value.ownBlock (.slice ao len cap)))
    (hb : Value.ownBlock (.slice ao2 m cap2) = Value.ownBlock (.slice ao len cap) ∨ Value.ownBlock (.slice ao2 m cap2) = some w.heap.size) : ∃ N', Row N' e size ao2 m cap2 ys ∧ Hp E (N' :: L1) w' := by
  have henv := grown_env hg
  have hrest : Hp E L1 w := hw.drop (List.sublist_cons_self ..)
  rcases owns_row ho with ⟨rfl, hrow⟩ | ⟨b, cur, rfl, hheap, hrow⟩
  · have hnone : Value.ownBlock (.slice ao len cap) = none := by
      rcases hb with h | h
      · rw [← h]; rfl
      · cases h
    refine ⟨N, hrow N, ?_⟩
    have ha : Agree w w' := grown_agree hg (fun k hk => by rw [hnone] at hk; cases hk)
    exact ⟨henv.1.trans hw.os, henv.2.1.trans hw.tape, henv.2.2.trans hw.output, fun M hM k o hk => (ha k (hw.lt hM hk)).trans (hw.sub M hM k o hk), hw.sep⟩
  · have hbk : Value.ownBlock (.slice (some ⟨b, 0, none⟩) m cap2) = some b := rfl
    rw [hbk] at hb
    rcases hb with hb | hb
    · obtain ⟨h1, h2, h3, ⟨rfl, _, _⟩ | ⟨b', cur', rfl, hN, hcs, ht⟩⟩ := hr
      · cases hb
      · have : b = b' := by simpa [Value.ownBlock] using hb
        subst this
        refine ⟨upd N b (.cells cur e (0, 0)), hrow _ (upd_self _ _ _), hw.put hN henv.1 henv.2.1 henv.2.2 hheap fun k hk hlt => grown_block hg hlt (by
          intro h; have : b = k := by simpa [Value.ownBlock] using h
          exact hk this.symm)⟩
    · have : b = w.heap.size := by simpa using hb
      subst this
      refine ⟨single w.heap.size (.cells cur e (0, 0)), hrow _ (single_self _ _), ?_⟩
      have hL : ∀ M ∈ L1, ∀ k o, M k = some o → Value.ownBlock (.slice ao len cap) ≠ some k := by
        intro M hM k o hk h
        obtain ⟨h1, h2, h3, ⟨rfl, _, _⟩ | ⟨b', cur', rfl, hN, hcs, ht⟩⟩ := hr
        · cases h
        · have : b' = k := by simpa [Value.ownBlock] using h
          subst this
          rcases (List.pairwise_cons.1 hw.sep).1 M hM b' with h5 | h5
          · rw [hN] at h5; cases h5
          · rw [hk] at h5; cases h5
      refine ⟨henv.1.trans hw.os, henv.2.1.trans hw.tape, henv.2.2.trans hw.output, fun M hM => ?_, ?_⟩
      · rcases List.mem_cons.1 hM with rfl | hM
        · intro k o hk
          unfold single at hk
          split at hk
          · rename_i e; subst e; cases hk; exact hheap
          · cases hk
        · intro k o hk
          exact (grown_block hg (hrest.lt hM hk) (hL M hM k o hk)).trans (hrest.sub M hM k o hk)
      · rw [List.pairwise_cons]
        refine ⟨fun M hM k => ?_, hrest.sep⟩
        unfold single
        split
        · rename_i e
          right
          cases hk : M k with
          | none => rfl
          | some o => exact absurd (hrest.lt hM hk) (by omega)
        · exact .inl rfl
/-- The source's type may be another slice type. -/
theorem run_append_src {t2 e2 ty : TypeId} {sv xv : Value} (ht : P.underlying t = some (.slice e)) (ht2 : P.underlying t2 = some (.slice e2)) (w : World) : (Builtin.append_ #[t, t2] ty #[sv, xv]).run P w = (Builtin.append_ #[t, t] ty #[sv, xv]).run P w := by
  unfold Builtin.append_
  simp only [List.getElem?_toArray, List.getElem?_cons_zero, List.getElem?_cons_succ, Sem.run_bind, run_underlying ht, run_underlying ht2, Result.andThen_ok]
  cases sv <;> simp [run_underlying ht, run_underlying ht2]
theorem op_append {zv : Value} {bytes m cap' : Nat} {ao' : Option Addr} {ys : List Value} {M : Heaplet} {t2 e2 : TypeId} (s : Nx P n l E L ⟨some d, .call ⟨.builtin .append, #[x, y], #[t, t2]⟩, ty, pos, aft, g⟩ X Y) (ht : P.underlying t = some (.slice e)) (ht2 : P.underlying t2 = some (.slice e2)) (hE : ElemInfo P e zv size bytes)
    (hx : ev l x = some (.slice ao len cap)) (hy : ev l y = some (.slice ao' m cap')) (hr : Row N e size ao len cap xs) (hs : RSl M size ao' m cap' ys) (hM : M ∈ L) (h1 : ∀ u ∈ ys, u.oneCell' = true) (hb : (len + m) * bytes ≤ 140737488355328) (hl : len + m ≤ 9223372036854775807) (sel : L.Perm (N :: L1)) (hn : Nat.ble (d + 1) n = true)
    (h : ∀ N ao cap, Row N e size ao (len + m) cap (xs ++ ys) → At n ((d, .slice ao (len + m) cap) :: l) E (N :: L1) Y) : At n l E L X := by
  refine op_upd s (fun v L' => ∃ N ao cap, v = .slice ao (len + m) cap ∧ L' = N :: L1 ∧ Row N e size ao (len + m) cap (xs ++ ys)) (fun a w hf hw => ?_) rfl hn (fun v L' ⟨N, ao, cap, hv, hL, hB⟩ => by subst hv; subst hL; exact h N ao cap hB)
  have hw2 := hw.perm sel
  obtain ⟨ao2, cap2, w', h4, h5, h6, h7⟩ := run_append_row (P := P) (ty := ty) ht hE (hw2.sub N (List.mem_cons_self ..)) hr (hs.sl (hw.sub M hM)) h1 hb hl
  obtain ⟨N', h8, h9⟩ := hp_append hw2 hr h5 h6 h7
  refine ⟨_, w', _, ?_, h9, N', ao2, cap2, rfl, rfl, h8⟩
  simp only [execOp, resolve, invoke, builtin, Sem.run_bind, Sem.run_pure, Result.andThen_ok, List.map_toArray, List.map_cons, List.map_nil, hf.eval hx, hf.eval hy, run_append_src ht ht2, h4]
/-- append to nil -/
theorem op_append0 {zv : Value} {bytes m cap' : Nat} {ao' : Option Addr} {ys : List Value} {M : Heaplet} {t2 e2 : TypeId} (s : NxA P n l E L ⟨some d, .call ⟨.builtin .append, #[x, y], #[t, t2]⟩, ty, pos, aft, g⟩ X Y) (ht : P.underlying t = some (.slice e)) (ht2 : P.underlying t2 = some (.slice e2)) (hE : ElemInfo P e zv size bytes)
    (hx : ev l x = some (.slice none 0 0)) (hy : ev l y = some (.slice ao' m cap')) (hs : RSl M size ao' m cap' ys) (hM : M ∈ L) (h1 : ∀ u ∈ ys, u.oneCell' = true) (hb : m * bytes ≤ 140737488355328) (hl : m ≤ 9223372036854775807) (hn : Nat.ble (d + 1) n = true)
    (h : ∀ N ao cap, Row N e size ao m cap ys → At n ((d, .slice ao m cap) :: l) E (N :: L) Y) : At n l E L X := by
  refine op_new s (fun v L' => ∃ N ao cap, v = .slice ao m cap ∧ L' = N :: L ∧ Row N e size ao m cap ys) (fun a w hf hw => ?_) rfl hn (fun v L' ⟨N, ao, cap, hv, hL, hB⟩ => by subst hv; subst hL; exact h N ao cap hB)
  have hw2 : Hp E ((fun _ => none) :: L) w := ⟨hw.os, hw.tape, hw.output, fun N hN => by
    rcases List.mem_cons.1 hN with rfl | hN
    · intro k o hk; cases hk
    · exact hw.sub N hN, by rw [List.pairwise_cons]; exact ⟨fun _ _ _ => .inl rfl, hw.sep⟩⟩
  have hr0 := Row.nil (fun _ => none) e size
  obtain ⟨ao2, cap2, w', h4, h5, h6, h7⟩ := run_append_row (P := P) (ty := ty) ht hE (hw2.sub _ (List.mem_cons_self ..)) hr0 (hs.sl (hw.sub M hM)) h1 (by simpa using hb) (by unfold maxLen; simpa using hl)
  obtain ⟨N', h8, h9⟩ := hp_append hw2 hr0 h5 h6 h7
  rw [Nat.zero_add, List.nil_append] at h8
  refine ⟨_, w', _, ?_, grown_agree h6 (fun k hk => by cases hk), h9, N', ao2, cap2, rfl, rfl, h8⟩
  rw [Nat.zero_add] at h4
  simp only [execOp, resolve, invoke, builtin, Sem.run_bind, Sem.run_pure, Result.andThen_ok, List.map_toArray, List.map_cons, List.map_nil, hf.eval hx, hf.eval hy, run_append_src ht ht2, h4]
/-! calls -/
/-- The arguments' values. -/
inductive Evs (l : List (Nat × Value)) : List Operand → List Value → Prop
  | nil : Evs l [] []
  | cons {x : Operand} {v : Value} {xs : List Operand} {vs : List Value} (h : ev l x = some v) (k : Evs l xs vs) : Evs l (x :: xs) (v :: vs)
theorem Evs.map {xs : List Operand} {vs : List Value} (h : Evs l xs vs) {a : Act} (hf : Fr n l a) : xs.map a.eval = vs := by
  induction h with
  | nil => rfl
  | cons h _ ih => rw [List.map_cons, hf.eval h, ih]
theorem run_call {f : FuncId} {fn : Func} (hfn : P.funcs[f]? = some fn) (hb : fn.body.isSome = true) (hne : fn.name ≠ "runtime.NumGoroutine") (args : Array Value) (w : World) : (callFunc f args).run P w = .ok (.enter f args) w := by
  cases hb' : fn.body with
  | none => rw [hb'] at hb; cases hb
  | some c => simp [callFunc, Sem.run, hfn, hne, hb']
/-- What a call leaves: of the heaplets L the part L0 is used up. -/
theorem op_call {f : FuncId} {fn : Func} {xs : List Operand} {args : List Value} {ats : Array TypeId} {L0 Lr F : List Heaplet} {Post : Value → List Heaplet → Prop} (s : Nx P n l E L ⟨some d, .call ⟨.value (.func f), xs.toArray, ats⟩, ty, pos, aft, g⟩ X Y)
    (ha : Evs l xs args) (hc : Fn P f args.toArray L0 Lr Post) (hfn : P.funcs[f]? = some fn) (hb : fn.body.isSome = true) (hne : (fn.name == "runtime.NumGoroutine") = false) (hL : L.Perm (L0 ++ F)) (hr : ∀ N ∈ Lr, N ∈ F) (hn : Nat.ble (d + 1) n = true)
    (h : ∀ v L1, Post v L1 → At n ((d, v) :: l) E (L1 ++ F) Y) : At n l E L X := fun a w hf hw => by
  refine s a w hf hw ?_
  unfold Oper.wp
  have hw2 := hw.perm hL
  have hrun : (execOp a.eval ⟨some d, .call ⟨.value (.func f), xs.toArray, ats⟩, ty, pos, aft, g⟩).run P w = .ok (.enter f args.toArray) w := by
    have hne' : fn.name ≠ "runtime.NumGoroutine" := by simpa using hne
    have he : a.eval (.func f) = .func (.func f) #[] #[] := rfl
    simp only [execOp, resolve, invoke, Sem.run_bind, Sem.run_pure, Result.andThen_ok, List.map_toArray, ha.map hf, he, Deferred.ofValue, Array.empty_append, Array.append_empty, run_call hfn hb hne']
  rw [hrun]
  -- the rest as one heaplet: the world without what is used up
  have hsep := List.pairwise_append.1 hw2.sep
  let R : Heaplet := fun k => if ∃ N ∈ L0, N k ≠ none then none else w.heap[k]?
  have hRw : R.le (whole w) := fun k o hk => by
    simp only [R] at hk
    split at hk
    · cases hk
    · exact hk
  have hFR : ∀ N ∈ F, N.le R := fun N hN k o hk => by
    have hno : ¬ ∃ M ∈ L0, M k ≠ none := by
      rintro ⟨M, hM, hMk⟩
      rcases hsep.2.2 M hM N hN k with h | h
      · exact hMk h
      · rw [hk] at h; cases h
    simp only [R, if_neg hno]
    exact hw2.sub N (List.mem_append_right _ hN) k o hk
  have hwR : Hp E (L0 ++ [R]) w := by
    refine ⟨hw.os, hw.tape, hw.output, fun N hN => ?_, ?_⟩
    · rcases List.mem_append.1 hN with hN | hN
      · exact hw2.sub N (List.mem_append_left _ hN)
      · simp at hN; subst hN; exact hRw
    · rw [List.pairwise_append]
      refine ⟨hsep.1, by simp, fun A hA B hB k => ?_⟩
      simp at hB; subst hB
      by_cases hAk : A k = none
      · exact .inl hAk
      · exact .inr (if_pos ⟨A, hA, hAk⟩)
  refine Calls.mono (hc E w R hwR fun N hN => hFR N (hr N hN)) ?_
  rintro e w' ⟨v, L1, rfl, hP, hw'⟩
  exact h v L1 hP _ _ (hf.put (Nat.le_of_ble_eq_true hn)) (hw'.refine hFR hsep.2.1)
/-- A call that uses nothing up. -/
theorem op_callA {f : FuncId} {fn : Func} {xs : List Operand} {args : List Value} {ats : Array TypeId} {Lr : List Heaplet} {Post : Value → List Heaplet → Prop} (s : NxA P n l E L ⟨some d, .call ⟨.value (.func f), xs.toArray, ats⟩, ty, pos, aft, g⟩ X Y)
    (ha : Evs l xs args) (hc : Fn P f args.toArray [] Lr Post) (hfn : P.funcs[f]? = some fn) (hb : fn.body.isSome = true) (hne : (fn.name == "runtime.NumGoroutine") = false) (hr : ∀ N ∈ Lr, N ∈ L) (hn : Nat.ble (d + 1) n = true)
    (h : ∀ v L1, Post v L1 → At n ((d, v) :: l) E (L1 ++ L) Y) : At n l E L X := fun a w hf hw => by
  refine s a w hf hw ?_
  unfold Oper.wp
  have hrun : (execOp a.eval ⟨some d, .call ⟨.value (.func f), xs.toArray, ats⟩, ty, pos, aft, g⟩).run P w = .ok (.enter f args.toArray) w := by
    have hne' : fn.name ≠ "runtime.NumGoroutine" := by simpa using hne
    have he : a.eval (.func f) = .func (.func f) #[] #[] := rfl
    simp only [execOp, resolve, invoke, Sem.run_bind, Sem.run_pure, Result.andThen_ok, List.map_toArray, ha.map hf, he, Deferred.ofValue, Array.empty_append, Array.append_empty, run_call hfn hb hne']
  rw [hrun]
  have hwR : Hp E ([] ++ [whole w]) w := (Hp.whole w).env hw.os hw.tape hw.output
  refine Calls.mono (hc E w (whole w) hwR fun N hN => hw.sub N (hr N hN)) ?_
  rintro e w' ⟨v, L1, rfl, hP, hw'⟩
  exact ⟨hw'.agree, h v L1 hP _ _ (hf.put (Nat.le_of_ble_eq_true hn)) (hw'.refine hw.sub hw.sep)⟩
end
end Go.Proofs.YtdplcfineaikjaaDoor
