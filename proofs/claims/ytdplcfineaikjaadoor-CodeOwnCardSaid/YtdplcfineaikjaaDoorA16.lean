/- The engine, what strings.Builder needs: pointers compared and turned, a string appended, bytes handed over as a string. For whatever program. No condition. -/
import Derived.Test.YtdplcfineaikjaaDoorG13
import Derived.Lib.Builder
import Derived.Lib.AppendStr
import Derived.Lib.UnsafeStr
namespace Go.Proofs.YtdplcfineaikjaaDoor
set_option linter.unusedVariables false
set_option linter.unusedSimpArgs false
open Go Go.RowKit
section
variable {P : Program} {n : Nat} {l : List (Nat × Value)} {E : World} {L L1 Ls : List Heaplet} {X Y : Act → World → Prop} {d : Nat} {t t' ty : TypeId} {x y : Operand} {N : Heaplet}
theorem eqGuard_ptr {op : BinOp} {p q : Option Addr} (w : World) : (eqGuard op t x y (.pointer p) (.pointer q)).run P w = .ok () w := by
  unfold eqGuard
  by_cases h : (!(op matches .eql | .neq)) = true <;> simp [h]
theorem op_eqPN {te : TypeId} {p : Option Addr} {pos : _} {aft : _} {g : _} (s : NxF P n l E L Ls ⟨some d, .binOp .eql t x y t', ty, pos, aft, g⟩ X Y) (ht : P.underlying t = some (.pointer te)) (hx : ev l x = some (.pointer p)) (hy : ev l y = some (.pointer none)) (hn : Nat.ble (d + 1) n = true) (h : At n ((d, .bool p.isNone) :: l) E L Y) : At n l E L X :=
  op_bin s hx hy (fun w => eqGuard_ptr w) (fun w => by
    have h : ∀ d : Nat, (Op.equalIn (d + 1) t (.pointer p) (.pointer none)).run P w = .ok p.isNone w := fun d => by
      cases p <;> simp [Op.equalIn, run_underlying ht]
    simp only [binOp]
    simp [Op.equal, Op.maxDepth, h 9999]) hn h
theorem op_nePS {te : TypeId} {j : TypeInfo} {q : Addr} {pos : _} {aft : _} {g : _} (s : NxF P n l E L Ls ⟨some d, .binOp .neq t x y t', ty, pos, aft, g⟩ X Y) (ht : P.underlying t = some (.pointer te)) (hj : P.info? te = some j) (hx : ev l x = some (.pointer (some q))) (hy : ev l y = some (.pointer (some q))) (hn : Nat.ble (d + 1) n = true) (h : At n ((d, .bool false) :: l) E L Y) : At n l E L X :=
  op_bin s hx hy (fun w => eqGuard_ptr w) (fun w => Lib.run_neq_ptr_same w q ht hj) hn h
theorem shape_of {b : Nat} {e : TypeId} {cs : List Value} {w : World} (hN : N.le (whole w)) (hb : Blk N b e cs) : w.shape? b = some (e, cs.length) := by
  have h1 : w.heap[b]? = some (.cells cs.toArray e (0, 0)) := hN _ _ hb
  simp [World.shape?, h1]
theorem op_toU {b off : Nat} {e tt : TypeId} {cs : List Value} {j : TypeInfo} {pos : _} {aft : _} {g : _} (s : NxF P n l E L Ls ⟨some d, .convert t t' x, ty, pos, aft, g⟩ X Y) (ht : P.underlying t = some (.pointer tt)) (ht' : P.underlying t' = some .unsafePointer) (hj : P.info? tt = some j) (hz : j.size ≠ 0)
    (hx : ev l x = some (.pointer (some ⟨b, off, none⟩))) (hb : Blk N b e cs) (ho : off < cs.length) (hN : N ∈ Ls) (hn : Nat.ble (d + 1) n = true) (h : At n ((d, .pointer (some ⟨b, off, none⟩)) :: l) E L Y) : At n l E L X :=
  op_val s (fun a w hf hw => by
    have e1 : (execOp a.eval ⟨some d, .convert t t' x, ty, pos, aft, g⟩) = (do let v ← convert t t' (a.eval x); pure (.value v) : Sem Next) := rfl
    rw [e1, hf.eval hx, Sem.run_bind, Lib.run_to_unsafe w ⟨b, off, none⟩ ht ht' hj hz (shape_of (hw.sub N hN) hb) ho]
    rfl) rfl hn h
theorem op_fromU {b off : Nat} {e u : TypeId} {cs : List Value} {j : TypeInfo} {pos : _} {aft : _} {g : _} (s : NxF P n l E L Ls ⟨some d, .convert t t' x, ty, pos, aft, g⟩ X Y) (ht : P.underlying t = some .unsafePointer) (ht' : P.underlying t' = some (.pointer u)) (hj : P.info? u = some j)
    (hx : ev l x = some (.pointer (some ⟨b, off, none⟩))) (hb : Blk N b e cs) (hl : liesAt P P.depth e (cs.length / P.cellsOf e) off u 1 = true) (hN : N ∈ Ls) (hn : Nat.ble (d + 1) n = true) (h : At n ((d, .pointer (some ⟨b, off, none⟩)) :: l) E L Y) : At n l E L X :=
  op_val s (fun a w hf hw => by
    have e1 : (execOp a.eval ⟨some d, .convert t t' x, ty, pos, aft, g⟩) = (do let v ← convert t t' (a.eval x); pure (.value v) : Sem Next) := rfl
    rw [e1, hf.eval hx, Sem.run_bind, Lib.run_from_unsafe w ⟨b, off, none⟩ ht ht' hj (shape_of (hw.sub N hN) hb) hl]
    rfl) rfl hn h
theorem strCells_u8s (s : List UInt8) : Lib.strCells ⟨s.toArray⟩ = u8s s := by
  rw [Lib.strCells_eq]
  simp [Lib.byteCells, u8s, vb]
theorem owns_slice {w : World} {base : Nat} {e : TypeId} {size m : Nat} {v : Value} {ys : List Value} (h : w.ownsRow base e size v m ys) : ∃ ao cap, v = .slice ao m cap := by
  obtain ⟨_, ⟨rfl, rfl⟩ | ⟨g, cap, cur, rfl, _⟩⟩ := h
  · exact ⟨none, 0, rfl⟩
  · exact ⟨_, cap, rfl⟩
/-- append of a string's bytes. -/
theorem op_appendS {e : TypeId} {i : TypeInfo} {u : TypeId} {ao : Option Addr} {len cap : Nat} {xs : List Value} {bs : List UInt8} {pos : _} {aft : _} {g : _} (s : Nx P n l E L ⟨some d, .call ⟨.builtin .append, #[x, y], #[t, u]⟩, ty, pos, aft, g⟩ X Y) (ht : P.underlying t = some (.slice e)) (hu : P.underlying u = some .string)
    (hi : P.info? e = some i) (hz : i.zero = some (.int .u8 0)) (hs : i.size = 1) (hby : i.bytes = 1)
    (hx : ev l x = some (.slice ao len cap)) (hy : ev l y = some (str bs)) (hr : Row N e 1 ao len cap xs) (hb : len + bs.length ≤ 140737488355328) (sel : L.Perm (N :: L1)) (hn : Nat.ble (d + 1) n = true)
    (h : ∀ N ao cap, Row N e 1 ao (len + bs.length) cap (xs ++ u8s bs) → At n ((d, .slice ao (len + bs.length) cap) :: l) E (N :: L1) Y) : At n l E L X := by
  refine op_upd s (fun v L' => ∃ N ao cap, v = .slice ao (len + bs.length) cap ∧ L' = N :: L1 ∧ Row N e 1 ao (len + bs.length) cap (xs ++ u8s bs)) (fun a w hf hw => ?_) rfl hn (fun v L' ⟨N, ao, cap, hv, hL, hB⟩ => by subst hv; subst hL; exact h N ao cap hB)
  have hw2 := hw.perm sel
  obtain ⟨v', w', h4, h5, h6, h7⟩ := Lib.run_append_own_string (P := P) w 0 t u ty e i ht hu hi hz hs hby (.slice ao len cap) len xs (hr.owns (hw2.sub N (List.mem_cons_self ..))) ⟨bs.toArray⟩ (by show len + bs.length ≤ maxLen; unfold maxLen; omega) hb (Nat.zero_le _)
  rw [strCells_u8s] at h5
  have h5 : w'.ownsRow 0 e 1 v' (len + bs.length) (xs ++ u8s bs) := h5
  obtain ⟨ao2, cap2, rfl⟩ := owns_slice h5
  have hbk : Value.ownBlock (.slice ao2 (len + bs.length) cap2) = Value.ownBlock (.slice ao len cap) ∨ Value.ownBlock (.slice ao2 (len + bs.length) cap2) = some w.heap.size := by
    have hsz2 : (⟨bs.toArray⟩ : ByteArray).size = bs.length := rfl
    have hxl : xs.length = len := by have := hr.1; omega
    obtain ⟨_, ⟨hv, hz0⟩ | ⟨gg, cap', cur, hv, _, hg, hnc, hcm, hcs, htake⟩⟩ := hr.owns (hw2.sub N (List.mem_cons_self ..))
    · injection hv with e1 e2 e3
      subst e1; subst e2; subst e3
      by_cases hm : bs.length = 0
      · have := h7.2 ⟨rfl, hm⟩
        injection this with e1 e2 e3
        subst e1
        exact .inl rfl
      · have hrn := run_append_nil_string (P := P) w t u ty e i (.int .u8 0) ht hu hi hz ⟨bs.toArray⟩ (by rw [hsz2]; omega) (by rw [hsz2]; omega) (by rw [hby, hsz2]; omega)
        rw [hrn] at h4
        injection h4 with e1 e2
        injection e1 with e3
        exact .inr (by rw [← e3]; rfl)
    · injection hv with e1 e2 e3
      subst e1; subst e3
      by_cases hroom : len + bs.length ≤ cap
      · have hrn := Lib.run_append_room_string (P := P) w t u ty e i ht hu hi hs gg len cap cur hg ⟨bs.toArray⟩ hroom (by rw [hsz2]; omega)
        rw [hrn] at h4
        injection h4 with e1 e2
        injection e1 with e3
        exact .inl (by rw [← e3]; rfl)
      · have hown := hr.owns (hw2.sub N (List.mem_cons_self ..))
        have holds : ∀ j u, xs[j]? = some u → w.cell? ((⟨gg, 0, none⟩ : Addr).add j) = some u := hown.cells (g := gg) rfl
        have hrn := Lib.run_append_grow_string (P := P) w t u ty e i (.int .u8 0) ht hu hi hz ⟨gg, 0, none⟩ len cap xs (by rw [hs]; omega) holds ⟨bs.toArray⟩ (by rw [hsz2]; omega) (by rw [hsz2]; omega) (by rw [hby]; exact growslice_fits (by rw [hsz2]; omega) (by rw [hsz2]; omega))
        rw [hrn] at h4
        injection h4 with e1 e2
        injection e1 with e3
        exact .inr (by rw [← e3]; rfl)
  obtain ⟨N', h8, h9⟩ := hp_append hw2 hr h5 h6 hbk
  refine ⟨_, w', _, ?_, h9, N', ao2, cap2, rfl, rfl, h8⟩
  simp only [execOp, resolve, invoke, builtin, Sem.run_bind, Sem.run_pure, Result.andThen_ok, List.map_toArray, List.map_cons, List.map_nil, hf.eval hx, hf.eval hy, str, h4]
theorem op_sliceData {ad : Addr} {len cap : Nat} {ats : Array TypeId} {pos : _} {aft : _} {g : _} (s : NxA P n l E L ⟨some d, .call ⟨.builtin .unsafeSliceData, #[x], ats⟩, ty, pos, aft, g⟩ X Y) (hx : ev l x = some (.slice (some ad) len cap)) (hc : cap ≠ 0) (hn : Nat.ble (d + 1) n = true) (h : At n ((d, .pointer (some ad)) :: l) E L Y) : At n l E L X := fun a w hf hw => by
  refine s a w hf hw ?_
  unfold Oper.wp
  have hrun : (execOp a.eval ⟨some d, .call ⟨.builtin .unsafeSliceData, #[x], ats⟩, ty, pos, aft, g⟩).run P w = .ok (.value (.pointer (some ad))) w := by
    simp only [execOp, resolve, invoke, builtin, Sem.run_bind, Sem.run_pure, Result.andThen_ok, List.map_toArray, List.map_cons, List.map_nil, hf.eval hx, Lib.run_unsafeSliceData_row w ats ty ad len cap hc]
  rw [hrun]
  exact ⟨fun _ _ => rfl, h _ _ (hf.put (Nat.le_of_ble_eq_true hn)) hw⟩
/-- Bytes handed over as a string: they turn no more. -/
theorem op_unsafeStr {e : TypeId} {u : TypeId} {b len cap : Nat} {bs : List UInt8} {pos : _} {aft : _} {g : _} (s : Nx P n l E L ⟨some d, .call ⟨.builtin .unsafeString, #[x, y], #[t, u]⟩, ty, pos, aft, g⟩ X Y) (ht : P.underlying t = some (.pointer e)) (hc : P.cellsOf e = 1)
    (hx : ev l x = some (.pointer (some ⟨b, 0, none⟩))) (hy : ev l y = some (.int .i64 (len : Int))) (hr : Row N e 1 (some ⟨b, 0, none⟩) len cap (u8s bs)) (h0 : 0 < len) (hl : len ≤ 9223372036854775807) (sel : L.Perm (N :: L1)) (hn : Nat.ble (d + 1) n = true)
    (h : At n ((d, str bs) :: l) E L1 Y) : At n l E L X := by
  refine op_upd s (fun v L' => v = str bs ∧ L' = L1) (fun a w hf hw => ?_) rfl hn (fun v L' ⟨hv, hL⟩ => by subst hv; subst hL; exact h)
  have hw2 := hw.perm sel
  have hlen : bs.length = len := hr.rsl.len8
  obtain ⟨_, hlc, hcm, ⟨h1, _⟩ | ⟨b', cur, hb', hbk, hsz, htk⟩⟩ := hr
  · cases h1
  · obtain rfl : b = b' := by injection hb' with e1; injection e1
    have hheap : w.heap[b]? = some (.cells cur e (0, 0)) := hw2.sub N (List.mem_cons_self ..) _ _ hbk
    have hsh : w.shape? b = some (e, cur.size) := by simp [World.shape?, hheap]
    have hcell : ∀ j z, bs[j]? = some z → w.cell? ((⟨b, 0, none⟩ : Addr).add j) = some (.int .u8 z.toNat) := fun j z hz => by
      obtain ⟨hj, rfl⟩ := List.getElem?_eq_some_iff.1 hz
      have hs := (show Row N e 1 (some ⟨b, 0, none⟩) len cap (u8s bs) from ⟨by rw [u8s, List.length_map, Nat.mul_one, hlen], hlc, hcm, .inr ⟨b, cur, rfl, hbk, hsz, htk⟩⟩).rsl.sl (hw2.sub N (List.mem_cons_self ..))
      obtain ⟨b2, off2, e2, hc2⟩ := hs.cell (x := .int .u8 (bs[j].toNat : Int)) (i := j) (by simp [u8s, vb, hj])
      injection e2 with e3
      injection e3 with e4 e5
      subst e4; subst e5
      rw [addr_add]
      exact hc2
    have hrun := Lib.run_unsafeString_row (P := P) w t u ty e ht hc b cur.size hsh bs (by intro e; subst e; simp at hlen; omega) (by rw [hsz, hlen]; omega) (by omega) hcell
    rw [hlen] at hrun
    refine ⟨str bs, w.freeze ⟨b, 0, none⟩ len, L1, ?_, ?_, rfl, rfl⟩
    · simp only [execOp, resolve, invoke, builtin, Sem.run_bind, Sem.run_pure, Result.andThen_ok, List.map_toArray, List.map_cons, List.map_nil, hf.eval hx, hf.eval hy, hrun]; rfl
    · have hne : ¬ len = 0 := by omega
      have := hw2.put (o' := .cells cur e (0, 0 + len)) (w' := w.freeze ⟨b, 0, none⟩ len) hbk (by simp [World.freeze, hne]) (by simp [World.freeze, hne]) (by simp [World.freeze, hne]) (by
        simp [World.freeze, hne, Array.getElem?_modify, hheap]) (fun k hk _ => by
        simp [World.freeze, hne, Array.getElem?_modify, Ne.symm hk])
      exact this.drop (List.sublist_cons_self ..)
end
end Go.Proofs.YtdplcfineaikjaaDoor
