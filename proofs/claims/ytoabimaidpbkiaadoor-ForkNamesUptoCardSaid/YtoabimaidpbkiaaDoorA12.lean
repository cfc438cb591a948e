/- Bytes of a string in a new slice, and stores to it: the block bears the mark behind its last cell. No condition. -/
import Derived.Test.YtoabimaidpbkiaaDoorG9
import Derived.Laws.IdiomStrings
namespace Go.Proofs.YtoabimaidpbkiaaDoor
set_option linter.unusedVariables false
set_option linter.unusedSimpArgs false
open Go Go.RowKit
/-- The slice of a string's bytes. -/
def RowM (N : Heaplet) (e : TypeId) (b n cap : Nat) (xs : List Value) : Prop :=
  xs.length = n ∧ n ≤ cap ∧ cap ≤ maxLen ∧ ∃ cs : List Value, N b = some (.cells cs.toArray e (cap, cap + 1)) ∧ cs.length = cap ∧ cs.take n = xs
theorem RowM.rsl {N : Heaplet} {e : TypeId} {b n cap : Nat} {xs : List Value} (h : RowM N e b n cap xs) : RSl N 1 (some ⟨b, 0, none⟩) n cap xs := by
  obtain ⟨h1, h2, h3, cs, hN, hl, ht⟩ := h
  refine ⟨by omega, h2, h3, fun h0 => ⟨b, 0, rfl, fun i hi => ?_⟩⟩
  unfold cellOf
  rw [hN]
  simp only [Nat.zero_add]
  have : (cs.take n)[i]? = some xs[i] := by rw [ht]; exact List.getElem?_eq_getElem hi
  rw [List.getElem?_take] at this
  split at this
  · simpa using this
  · cases this
theorem run_storeCells1 {P : Program} {v : Value} (w : World) (b j : Nat) (cs : List Value) (e : TypeId) (lo hi : Nat) (hb : w.heap[b]? = some (.cells cs.toArray e (lo, hi))) (h1 : v.oneCell' = true) (hj : j < cs.length) (hlo : j < lo) :
    ∃ w', (storeCells ⟨b, j, none⟩ [v] 0).run P w = .ok () w' ∧ w'.os = w.os ∧ w'.tape = w.tape ∧ w'.output = w.output ∧ w'.heap[b]? = some (.cells (setL cs j [v]).toArray e (lo, hi)) ∧ ∀ k, k ≠ b → w'.heap[k]? = w.heap[k]? := by
  have hcell : w.cell? ⟨b, j, none⟩ = some cs[j] := by
    unfold World.cell?
    rw [hb]
    simp [hj]
  have hfr : w.frozen? ⟨b, j, none⟩ = false := by
    unfold World.frozen?
    rw [hb]
    simp
    omega
  have hb' : (w.setCell ⟨b, j, none⟩ v).heap[b]? = some (.cells (cs.set j v).toArray e (lo, hi)) := by
    unfold World.setCell
    simp only [Array.getElem?_modify, if_true, hb]
    simp
  refine ⟨w.setCell ⟨b, j, none⟩ v, ?_, rfl, rfl, rfl, by simpa [setL] using hb', fun k hk => ?_⟩
  · unfold storeCells
    rw [Sem.run_bind, addr_add, Nat.add_zero]
    have hst : (store ⟨b, j, none⟩ v).run P w = .ok () (w.setCell ⟨b, j, none⟩ v) := by
      cases v <;> first | (cases h1; done) | simp [store, Sem.run, hcell, hfr]
    rw [hst]
    rfl
  · unfold World.setCell
    simp [Array.getElem?_modify, Ne.symm hk]
section
variable {P : Program} {n : Nat} {l : List (Nat × Value)} {E : World} {L L1 : List Heaplet} {X Y : Act → World → Prop} {N : Heaplet}
variable {d : Nat} {ty t t' e : TypeId} {pos : String} {aft : Array Edge} {g : Option (Nat × Bool)} {v : Value} {x y : Operand} {len cap : Nat} {xs : List Value} {b j : Nat}
/-- []byte of a string. -/
theorem op_strB {bs : List UInt8} {src dst : TypeId} (s : NxA P n l E L ⟨some d, .convert src dst x, ty, pos, aft, g⟩ X Y) (hs : P.underlying src = some .string) (ht : P.underlying dst = some (.slice e)) (he : P.underlying e = some (.int .u8)) (hx : ev l x = some (str bs)) (hlen : bs.length ≤ 9223372036854775807) (hn : Nat.ble (d + 1) n = true)
    (h : ∀ N b cap, RowM N e b bs.length cap (u8s bs) → At n ((d, .slice (some ⟨b, 0, none⟩) bs.length cap) :: l) E (N :: L) Y) : At n l E L X := by
  refine op_new s (fun v L' => ∃ N b cap, v = .slice (some ⟨b, 0, none⟩) bs.length cap ∧ L' = N :: L ∧ RowM N e b bs.length cap (u8s bs)) (fun a w hf hw => ?_) rfl hn (fun v L' ⟨N, b, cap, hv, hL, hB⟩ => by subst hv; subst hL; exact h N b cap hB)
  have hsz : (⟨bs.toArray⟩ : ByteArray).size = bs.length := by simp [ByteArray.size]
  have hrun := run_bytes_of_string (P := P) w src dst e ⟨bs.toArray⟩ hs ht he
  rw [hsz] at hrun
  have hge := grownCap_ge w bs.length 0 e
  have hle := grownCap_le_maxLen w bs.length 0 e (by unfold maxLen; omega)
  obtain ⟨C, hC⟩ : ∃ C, grownCap w bs.length 0 e = C := ⟨_, rfl⟩
  rw [hC] at hrun hge hle
  have hrow : bytesRow ⟨bs.toArray⟩ C = (u8s bs ++ List.replicate (C - bs.length) (Value.int .u8 0)).toArray := by
    unfold bytesRow
    rw [hsz]
    simp [u8s]
    exact fun _ _ => rfl
  have hlr : (u8s bs ++ List.replicate (C - bs.length) (Value.int .u8 0)).length = C := by
    rw [List.length_append, length_u8s, List.length_replicate]; omega
  rw [hrow] at hrun
  simp only [List.size_toArray, hlr] at hrun
  obtain ⟨o, ho⟩ : ∃ o, Obj.cells (u8s bs ++ List.replicate (C - bs.length) (Value.int .u8 0)).toArray e (C, C + 1) = o := ⟨_, rfl⟩
  rw [ho] at hrun
  refine ⟨.slice (some ⟨w.heap.size, 0, none⟩) bs.length C, w.drew.alloc o, single w.heap.size o :: L, ?_, ?_, (hw.drew).alloc o, single w.heap.size o, w.heap.size, C, rfl, rfl, ?_⟩
  · simp only [execOp, hf.eval hx, str]
    rw [Sem.run_bind, hrun]
    rfl
  · exact Agree.alloc w.drew o
  · exact ⟨length_u8s bs, hge, hle, _, by rw [← ho]; exact single_self _ _, hlr, by rw [List.take_append, length_u8s, Nat.sub_self, List.take_zero, List.append_nil, List.take_of_length_le (by rw [length_u8s]; exact Nat.le_refl _)]⟩
/-- A byte stored there. -/
theorem op_storeM (s : Nx P n l E L ⟨none, .store t x y, ty, pos, aft, g⟩ X Y) (ht : siz P t = some 1) (hx : ev l x = some (eptr (some ⟨b, 0, none⟩) j)) (hy : ev l y = some v) (hv : v.cells = #[v]) (h1 : v.oneCell' = true) (hb : RowM N e b len cap xs) (hj : j < xs.length) (hs : L.Perm (N :: L1))
    (h : ∀ N, RowM N e b len cap (setL xs j [v]) → At n l E (N :: L1) Y) : At n l E L X := fun a w hf hw => by
  have hw2 := hw.perm hs
  obtain ⟨a1, a2, a3, cs, hN, hcs, ht'⟩ := hb
  have hheap := hw2.sub N (List.mem_cons_self ..) _ _ hN
  obtain ⟨w', hr, e1, e2, e3, e4, e5⟩ := run_storeCells1 (P := P) w b j cs e cap (cap + 1) hheap h1 (by omega) (by omega)
  obtain ⟨i, hi, hsz⟩ := Option.map_eq_some_iff.1 ht
  refine s a w hf hw ?_
  unfold Oper.wp
  have hrun : (execOp a.eval ⟨none, .store t x y, ty, pos, aft, g⟩).run P w = .ok .skip w' := by
    simp only [execOp, hf.eval hx, hf.eval hy, eptr, Option.map_some, Nat.zero_add, Instr.storeAt, Instr.sureAddr, Sem.run_bind, Sem.run_pure, Result.andThen_ok, storeVar, run_sizeOf hi, hsz, hv]
    simp only [List.size_toArray, List.length_cons, List.length_nil, Nat.zero_add, ne_eq, not_true, if_false]
    rw [hr]
    rfl
  rw [hrun]
  refine h (upd N b (.cells (setL cs j [v]).toArray e (cap, cap + 1))) ⟨by rw [length_setL, a1], a2, a3, _, upd_self _ _ _, by rw [length_setL, hcs], ?_⟩ a w' hf (hw2.put hN e1 e2 e3 e4 fun k hk _ => e5 k hk)
  rw [setL_take _ _ _ _ (by simp; omega), ht']
end
end Go.Proofs.YtoabimaidpbkiaaDoor
