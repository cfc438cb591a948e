/- Several texts in one: see the remarks ahead of each part. No condition but those told there. -/
import Derived.Lib.MapLaws
import Derived.Test.YtlkjfbfenpkmhaaDoorX4
import Derived.Lib.Builder
import Derived.Lib.AppendStr
import Derived.Lib.UnsafeStr
import Derived.Test.YtlkjfbfenpkmhaaDoorProg
import Derived.WalkKit
import Derived.Shelf.Unicode.Latin
import Derived.Shelf.Strings.Runes
/- Texts as runes; hex digits read: plain words. No condition. -/
namespace Go.Proofs.YtlkjfbfenpkmhaaDoor
set_option linter.unusedVariables false
set_option linter.unusedSimpArgs false
open Go Go.Lib
/-- The runes of a text. -/
def runeF : Nat → List UInt8 → List Nat
  | 0, _ => []
  | k + 1, l => if l = [] then [] else (decodeL l).1 :: runeF k (l.drop (decodeL l).2)
theorem drop_less {l : List UInt8} (h : l ≠ []) : (l.drop (decodeL l).2).length < l.length := by
  have := decodeL_width l
  have := List.length_pos_iff.2 h
  rw [List.length_drop]; omega
theorem runeF_fuel : ∀ (k m : Nat) (l : List UInt8), l.length ≤ k → l.length ≤ m → runeF k l = runeF m l := by
  intro k
  induction k with
  | zero =>
    intro m l h1 h2
    have : l = [] := List.eq_nil_of_length_eq_zero (by omega)
    subst this
    cases m with
    | zero => rfl
    | succ m => rfl
  | succ k ih =>
    intro m l h1 h2
    cases m with
    | zero =>
      have : l = [] := List.eq_nil_of_length_eq_zero (by omega)
      subst this; rfl
    | succ m =>
      rw [runeF, runeF]
      by_cases h : l = []
      · rw [if_pos h, if_pos h]
      · have := drop_less h
        rw [if_neg h, if_neg h, ih m (l.drop (decodeL l).2) (by omega) (by omega)]
def runesOf (l : List UInt8) : List Nat := runeF l.length l
theorem runes_nil : runesOf [] = [] := rfl
theorem runes_step {l : List UInt8} (h : l ≠ []) : runesOf l = (decodeL l).1 :: runesOf (l.drop (decodeL l).2) := by
  have := drop_less h
  rw [runesOf, runeF_fuel l.length (l.length + 1) l (by omega) (by omega), runeF, if_neg h]
  rw [runesOf, runeF_fuel l.length (l.drop (decodeL l).2).length (l.drop (decodeL l).2) (by omega) (by omega)]
theorem runes_at {l : List UInt8} {p : Nat} (h : p < l.length) : runesOf (l.drop p) = (decodeL (l.drop p)).1 :: runesOf (l.drop (p + (decodeL (l.drop p)).2)) := by
  rw [runes_step (List.ne_nil_of_length_pos (by rw [List.length_drop]; omega)), List.drop_drop]
theorem runes_end {l : List UInt8} {p : Nat} (h : l.length ≤ p) : runesOf (l.drop p) = [] := by rw [List.drop_eq_nil_of_le h]; rfl
theorem runeF_len : ∀ (k : Nat) (l : List UInt8), (runeF k l).length ≤ l.length := by
  intro k
  induction k with
  | zero => intro l; exact Nat.zero_le _
  | succ k ih =>
    intro l
    rw [runeF]
    by_cases h : l = []
    · rw [if_pos h]; exact Nat.zero_le _
    · have := ih (l.drop (decodeL l).2)
      have := drop_less h
      rw [if_neg h, List.length_cons]; omega
theorem runes_len (l : List UInt8) : (runesOf l).length ≤ l.length := runeF_len _ _
/-- What a rune may be. -/
def RuneOk (r : Nat) : Prop := r < 55296 ∨ (57344 ≤ r ∧ r ≤ 1114111)
theorem decode_ok (l : List UInt8) : RuneOk (decodeL l).1 := by
  rw [decodeL_N]
  rcases decodeN_shape l.length (l.getD 0 0).toNat (l.getD 1 0).toNat (l.getD 2 0).toNat (l.getD 3 0).toNat with ⟨c, e⟩ | ⟨c1, c2, c3, cv, e⟩ | ⟨c1, c2, c3, c4, cv, cs, e⟩ | ⟨c1, c2, c3, c4, c5, cv, cw, e⟩ | e
  all_goals
    rw [e]
    unfold RuneOk
    simp only
    omega
/-- A hex digit's value. -/
def hexV (r : Nat) : Option Nat := if 48 ≤ r ∧ r ≤ 57 then some (r - 48) else if 97 ≤ r ∧ r ≤ 102 then some (r - 87) else if 65 ≤ r ∧ r ≤ 70 then some (r - 55) else none
theorem hexV_lt {r v : Nat} (h : hexV r = some v) : v < 16 := by
  unfold hexV at h
  split at h
  · injection h; omega
  · split at h
    · injection h; omega
    · split at h
      · injection h; omega
      · cases h
theorem hexV_high {r : Nat} (h : 128 ≤ r) : hexV r = none := by
  rw [hexV, if_neg (by omega), if_neg (by omega), if_neg (by omega)]
/-- 0x, rune by rune. -/
def ox (k : Nat) : Nat := if k = 0 then 48 else 120
/-- The digits that are read, how many runes, and what is wrong (0: nothing). -/
def readF (ask : List UInt8 → Nat) : Nat → List UInt8 → List Nat → List UInt8 × Nat × Nat
  | k, acc, [] => if k < 2 then ([], k, 2) else (acc, k, 0)
  | k, acc, r :: t => if k < 2 then (if r = ox k then readF ask (k + 1) acc t else ([], k, 2)) else match hexV r with
    | none => ([], k, 2)
    | some v => if ask acc = 0 then readF ask (k + 1) (acc ++ [UInt8.ofNat v]) t else ([], k, ask acc)
variable {ask : List UInt8 → Nat} {k r : Nat} {acc : List UInt8} {t : List Nat}
theorem readF_end0 (h : k < 2) : readF ask k acc [] = ([], k, 2) := if_pos h
theorem readF_end1 (h : ¬ k < 2) : readF ask k acc [] = (acc, k, 0) := if_neg h
theorem readF_ox (h : k < 2) (hr : r = ox k) : readF ask k acc (r :: t) = readF ask (k + 1) acc t := by rw [readF, if_pos h, if_pos hr]
theorem readF_no (h : k < 2) (hr : ¬ r = ox k) : readF ask k acc (r :: t) = ([], k, 2) := by rw [readF, if_pos h, if_neg hr]
theorem readF_none (h : ¬ k < 2) (hr : hexV r = none) : readF ask k acc (r :: t) = ([], k, 2) := by rw [readF, if_neg h, hr]
theorem readF_some {v : Nat} (h : ¬ k < 2) (hr : hexV r = some v) (ha : ask acc = 0) : readF ask k acc (r :: t) = readF ask (k + 1) (acc ++ [UInt8.ofNat v]) t := by rw [readF, if_neg h, hr]; exact if_pos ha
theorem readF_ask {v : Nat} (h : ¬ k < 2) (hr : hexV r = some v) (ha : ask acc ≠ 0) : readF ask k acc (r :: t) = ([], k, ask acc) := by rw [readF, if_neg h, hr]; exact if_neg ha
end Go.Proofs.YtlkjfbfenpkmhaaDoor
/- The engine, what strings.Builder needs: pointers compared and turned, a string appended, bytes handed over as a string. For whatever program. No condition. -/
namespace Go.Proofs.YtlkjfbfenpkmhaaDoor
set_option linter.unusedVariables false
set_option linter.unusedSimpArgs false
open Go Go.RowKit
section
variable {P : Program} {n : Nat} {l : List (Nat × Value)} {E : World} {L L1 Ls : List Heaplet} {X Y : Act → World → Prop} {d : Nat} {t t' ty : TypeId} {x y : Operand} {N : Heaplet}
theorem eqGuard_ptr {op : BinOp} {p q : Option Addr} (w : World) : (eqGuard op t x y (.pointer p) (.pointer q)).run P w = .ok () w := by
  unfold eqGuard
  by_cases h : (!(op matches .eql | .neq)) = true <;> simp [h]
theorem op_eqPN {te : TypeId} {p : Option Addr} {pos : _} {aft : _} {g : _} (s : NxF P n l E L Ls ⟨some d, .binOp .eql t x y t', ty, pos, aft, g⟩ X Y) (ht : P.underlying t = some (.pointer te)) (hx : ev l x = some (.pointer p)) (hy : ev l y = some (.pointer none)) (hn : Nat.ble (d + 1) n = true) (h : At n ((d, .bool p.isNone) :: l) E L Y) : At n l E L X :=
  op_bin s hx hy (fun w => eqGuard_ptr w) (fun w => by
    have h : ∀ d : Nat, (Op.equalIn (d + 1) t (.pointer p) (.pointer none)).run P w = .ok p.isNone w := fun d => by
      cases p <;> simp [Op.equalIn, run_underlying ht]
    simp only [binOp]
    simp [Op.equal, Op.maxDepth, h 9999]) hn h
theorem op_nePS {te : TypeId} {j : TypeInfo} {q : Addr} {pos : _} {aft : _} {g : _} (s : NxF P n l E L Ls ⟨some d, .binOp .neq t x y t', ty, pos, aft, g⟩ X Y) (ht : P.underlying t = some (.pointer te)) (hj : P.info? te = some j) (hx : ev l x = some (.pointer (some q))) (hy : ev l y = some (.pointer (some q))) (hn : Nat.ble (d + 1) n = true) (h : At n ((d, .bool false) :: l) E L Y) : At n l E L X :=
  op_bin s hx hy (fun w => eqGuard_ptr w) (fun w => Lib.run_neq_ptr_same w q ht hj) hn h
theorem shape_of {b : Nat} {e : TypeId} {cs : List Value} {w : World} (hN : N.le (whole w)) (hb : Blk N b e cs) : w.shape? b = some (e, cs.length) := by
  have h1 : w.heap[b]? = some (.cells cs.toArray e (0, 0)) := hN _ _ hb
  simp [World.shape?, h1]
theorem op_toU {b off : Nat} {e tt : TypeId} {cs : List Value} {j : TypeInfo} {pos : _} {aft : _} {g : _} (s : NxF P n l E L Ls ⟨some d, .convert t t' x, ty, pos, aft, g⟩ X Y) (ht : P.underlying t = some (.pointer tt)) (ht' : P.underlying t' = some .unsafePointer) (hj : P.info? tt = some j) (hz : j.size ≠ 0)
    (hx : ev l x = some (.pointer (some ⟨b, off, none⟩))) (hb : Blk N b e cs) (ho : off < cs.length) (hN : N ∈ Ls) (hn : Nat.ble (d + 1) n = true) (h : At n ((d, .pointer (some ⟨b, off, none⟩)) :: l) E L Y) : At n l E L X :=
  op_val s (fun a w hf hw => by
    have e1 : (execOp a.eval ⟨some d, .convert t t' x, ty, pos, aft, g⟩) = (do let v ← convert t t' (a.eval x); pure (.value v) : Sem Next) := rfl
    rw [e1, hf.eval hx, Sem.run_bind, Lib.run_to_unsafe w ⟨b, off, none⟩ ht ht' hj hz (shape_of (hw.sub N hN) hb) ho]
    rfl) rfl hn h
theorem op_fromU {b off : Nat} {e u : TypeId} {cs : List Value} {j : TypeInfo} {pos : _} {aft : _} {g : _} (s : NxF P n l E L Ls ⟨some d, .convert t t' x, ty, pos, aft, g⟩ X Y) (ht : P.underlying t = some .unsafePointer) (ht' : P.underlying t' = some (.pointer u)) (hj : P.info? u = some j)
    (hx : ev l x = some (.pointer (some ⟨b, off, none⟩))) (hb : Blk N b e cs) (hl : liesAt P P.depth e (cs.length / P.cellsOf e) off u 1 = true) (hN : N ∈ Ls) (hn : Nat.ble (d + 1) n = true) (h : At n ((d, .pointer (some ⟨b, off, none⟩)) :: l) E L Y) : At n l E L X :=
  op_val s (fun a w hf hw => by
    have e1 : (execOp a.eval ⟨some d, .convert t t' x, ty, pos, aft, g⟩) = (do let v ← convert t t' (a.eval x); pure (.value v) : Sem Next) := rfl
    rw [e1, hf.eval hx, Sem.run_bind, Lib.run_from_unsafe w ⟨b, off, none⟩ ht ht' hj (shape_of (hw.sub N hN) hb) hl]
    rfl) rfl hn h
theorem strCells_u8s (s : List UInt8) : Lib.strCells ⟨s.toArray⟩ = u8s s := by
  rw [Lib.strCells_eq]
  simp [Lib.byteCells, u8s, vb]
theorem owns_slice {w : World} {base : Nat} {e : TypeId} {size m : Nat} {v : Value} {ys : List Value} (h : w.ownsRow base e size v m ys) : ∃ ao cap, v = .slice ao m cap := by
  obtain ⟨_, ⟨rfl, rfl⟩ | ⟨g, cap, cur, rfl, _⟩⟩ := h
  · exact ⟨none, 0, rfl⟩
  · exact ⟨_, cap, rfl⟩
/-- append of a string's bytes. -/
theorem op_appendS {e : TypeId} {i : TypeInfo} {u : TypeId} {ao : Option Addr} {len cap : Nat} {xs : List Value} {bs : List UInt8} {pos : _} {aft : _} {g : _} (s : Nx P n l E L ⟨some d, .call ⟨.builtin .append, #[x, y], #[t, u]⟩, ty, pos, aft, g⟩ X Y) (ht : P.underlying t = some (.slice e)) (hu : P.underlying u = some .string)
    (hi : P.info? e = some i) (hz : i.zero = some (.int .u8 0)) (hs : i.size = 1) (hby : i.bytes = 1)
    (hx : ev l x = some (.slice ao len cap)) (hy : ev l y = some (str bs)) (hr : Row N e 1 ao len cap xs) (hb : len + bs.length ≤ 140737488355328) (sel : L.Perm (N :: L1)) (hn : Nat.ble (d + 1) n = true)
    (h : ∀ N ao cap, Row N e 1 ao (len + bs.length) cap (xs ++ u8s bs) → At n ((d, .slice ao (len + bs.length) cap) :: l) E (N :: L1) Y) : At n l E L X := by
  refine op_upd s (fun v L' => ∃ N ao cap, v = .slice ao (len + bs.length) cap ∧ L' = N :: L1 ∧ Row N e 1 ao (len + bs.length) cap (xs ++ u8s bs)) (fun a w hf hw => ?_) rfl hn (fun v L' ⟨N, ao, cap, hv, hL, hB⟩ => by subst hv; subst hL; exact h N ao cap hB)
  have hw2 := hw.perm sel
  obtain ⟨v', w', h4, h5, h6, h7⟩ := Lib.run_append_own_string (P := P) w 0 t u ty e i ht hu hi hz hs hby (.slice ao len cap) len xs (hr.owns (hw2.sub N (List.mem_cons_self ..))) ⟨bs.toArray⟩ (by show len + bs.length ≤ maxLen; unfold maxLen; omega) hb (Nat.zero_le _)
  rw [strCells_u8s] at h5
  have h5 : w'.ownsRow 0 e 1 v' (len + bs.length) (xs ++ u8s bs) := h5
  obtain ⟨ao2, cap2, rfl⟩ := owns_slice h5
  have hbk : Value.ownBlock (.slice ao2 (len + bs.length) cap2) = Value.ownBlock (.slice ao len cap) ∨ Value.ownBlock (.slice ao2 (len + bs.length) cap2) = some w.heap.size := by
    have hsz2 : (⟨bs.toArray⟩ : ByteArray).size = bs.length := rfl
    have hxl : xs.length = len := by have := hr.1; omega
    obtain ⟨_, ⟨hv, hz0⟩ | ⟨gg, cap', cur, hv, _, hg, hnc, hcm, hcs, htake⟩⟩ := hr.owns (hw2.sub N (List.mem_cons_self ..))
    · injection hv with e1 e2 e3
      subst e1; subst e2; subst e3
      by_cases hm : bs.length = 0
      · have := h7.2 ⟨rfl, hm⟩
        injection this with e1 e2 e3
        subst e1
        exact .inl rfl
      · have hrn := run_append_nil_string (P := P) w t u ty e i (.int .u8 0) ht hu hi hz ⟨bs.toArray⟩ (by rw [hsz2]; omega) (by rw [hsz2]; omega) (by rw [hby, hsz2]; omega)
        rw [hrn] at h4
        injection h4 with e1 e2
        injection e1 with e3
        exact .inr (by rw [← e3]; rfl)
    · injection hv with e1 e2 e3
      subst e1; subst e3
      by_cases hroom : len + bs.length ≤ cap
      · have hrn := Lib.run_append_room_string (P := P) w t u ty e i ht hu hi hs gg len cap cur hg ⟨bs.toArray⟩ hroom (by rw [hsz2]; omega)
        rw [hrn] at h4
        injection h4 with e1 e2
        injection e1 with e3
        exact .inl (by rw [← e3]; rfl)
      · have hown := hr.owns (hw2.sub N (List.mem_cons_self ..))
        have holds : ∀ j u, xs[j]? = some u → w.cell? ((⟨gg, 0, none⟩ : Addr).add j) = some u := hown.cells (g := gg) rfl
        have hrn := Lib.run_append_grow_string (P := P) w t u ty e i (.int .u8 0) ht hu hi hz ⟨gg, 0, none⟩ len cap xs (by rw [hs]; omega) holds ⟨bs.toArray⟩ (by rw [hsz2]; omega) (by rw [hsz2]; omega) (by rw [hby]; exact growslice_fits (by rw [hsz2]; omega) (by rw [hsz2]; omega))
        rw [hrn] at h4
        injection h4 with e1 e2
        injection e1 with e3
        exact .inr (by rw [← e3]; rfl)
  obtain ⟨N', h8, h9⟩ := hp_append hw2 hr h5 h6 hbk
  refine ⟨_, w', _, ?_, h9, N', ao2, cap2, rfl, rfl, h8⟩
  simp only [execOp, resolve, invoke, builtin, Sem.run_bind, Sem.run_pure, Result.andThen_ok, List.map_toArray, List.map_cons, List.map_nil, hf.eval hx, hf.eval hy, str, h4]
theorem op_sliceData {ad : Addr} {len cap : Nat} {ats : Array TypeId} {pos : _} {aft : _} {g : _} (s : NxA P n l E L ⟨some d, .call ⟨.builtin .unsafeSliceData, #[x], ats⟩, ty, pos, aft, g⟩ X Y) (hx : ev l x = some (.slice (some ad) len cap)) (hc : cap ≠ 0) (hn : Nat.ble (d + 1) n = true) (h : At n ((d, .pointer (some ad)) :: l) E L Y) : At n l E L X := fun a w hf hw => by
  refine s a w hf hw ?_
  unfold Oper.wp
  have hrun : (execOp a.eval ⟨some d, .call ⟨.builtin .unsafeSliceData, #[x], ats⟩, ty, pos, aft, g⟩).run P w = .ok (.value (.pointer (some ad))) w := by
    simp only [execOp, resolve, invoke, builtin, Sem.run_bind, Sem.run_pure, Result.andThen_ok, List.map_toArray, List.map_cons, List.map_nil, hf.eval hx, Lib.run_unsafeSliceData_row w ats ty ad len cap hc]
  rw [hrun]
  exact ⟨fun _ _ => rfl, h _ _ (hf.put (Nat.le_of_ble_eq_true hn)) hw⟩
/-- Bytes handed over as a string: they turn no more. -/
theorem op_unsafeStr {e : TypeId} {u : TypeId} {b len cap : Nat} {bs : List UInt8} {pos : _} {aft : _} {g : _} (s : Nx P n l E L ⟨some d, .call ⟨.builtin .unsafeString, #[x, y], #[t, u]⟩, ty, pos, aft, g⟩ X Y) (ht : P.underlying t = some (.pointer e)) (hc : P.cellsOf e = 1)
    (hx : ev l x = some (.pointer (some ⟨b, 0, none⟩))) (hy : ev l y = some (.int .i64 (len : Int))) (hr : Row N e 1 (some ⟨b, 0, none⟩) len cap (u8s bs)) (h0 : 0 < len) (hl : len ≤ 9223372036854775807) (sel : L.Perm (N :: L1)) (hn : Nat.ble (d + 1) n = true)
    (h : At n ((d, str bs) :: l) E L1 Y) : At n l E L X := by
  refine op_upd s (fun v L' => v = str bs ∧ L' = L1) (fun a w hf hw => ?_) rfl hn (fun v L' ⟨hv, hL⟩ => by subst hv; subst hL; exact h)
  have hw2 := hw.perm sel
  have hlen : bs.length = len := hr.rsl.len8
  obtain ⟨_, hlc, hcm, ⟨h1, _⟩ | ⟨b', cur, hb', hbk, hsz, htk⟩⟩ := hr
  · cases h1
  · obtain rfl : b = b' := by injection hb' with e1; injection e1
    have hheap : w.heap[b]? = some (.cells cur e (0, 0)) := hw2.sub N (List.mem_cons_self ..) _ _ hbk
    have hsh : w.shape? b = some (e, cur.size) := by simp [World.shape?, hheap]
    have hcell : ∀ j z, bs[j]? = some z → w.cell? ((⟨b, 0, none⟩ : Addr).add j) = some (.int .u8 z.toNat) := fun j z hz => by
      obtain ⟨hj, rfl⟩ := List.getElem?_eq_some_iff.1 hz
      have hs := (show Row N e 1 (some ⟨b, 0, none⟩) len cap (u8s bs) from ⟨by rw [u8s, List.length_map, Nat.mul_one, hlen], hlc, hcm, .inr ⟨b, cur, rfl, hbk, hsz, htk⟩⟩).rsl.sl (hw2.sub N (List.mem_cons_self ..))
      obtain ⟨b2, off2, e2, hc2⟩ := hs.cell (x := .int .u8 (bs[j].toNat : Int)) (i := j) (by simp [u8s, vb, hj])
      injection e2 with e3
      injection e3 with e4 e5
      subst e4; subst e5
      rw [addr_add]
      exact hc2
    have hrun := Lib.run_unsafeString_row (P := P) w t u ty e ht hc b cur.size hsh bs (by intro e; subst e; simp at hlen; omega) (by rw [hsz, hlen]; omega) (by omega) hcell
    rw [hlen] at hrun
    refine ⟨str bs, w.freeze ⟨b, 0, none⟩ len, L1, ?_, ?_, rfl, rfl⟩
    · simp only [execOp, resolve, invoke, builtin, Sem.run_bind, Sem.run_pure, Result.andThen_ok, List.map_toArray, List.map_cons, List.map_nil, hf.eval hx, hf.eval hy, hrun]; rfl
    · have hne : ¬ len = 0 := by omega
      have := hw2.put (o' := .cells cur e (0, 0 + len)) (w' := w.freeze ⟨b, 0, none⟩ len) hbk (by simp [World.freeze, hne]) (by simp [World.freeze, hne]) (by simp [World.freeze, hne]) (by
        simp [World.freeze, hne, Array.getElem?_modify, hheap]) (fun k hk _ => by
        simp [World.freeze, hne, Array.getElem?_modify, Ne.symm hk])
      exact this.drop (List.sublist_cons_self ..)
end
end Go.Proofs.YtlkjfbfenpkmhaaDoor
/- Facts on the types of the program, by number. No condition. -/
namespace Go.Proofs.YtlkjfbfenpkmhaaDoor
set_option linter.unusedVariables false
set_option linter.unusedSimpArgs false
open Go Go.RowKit
theorem sc2 : scal Tryd.prog 2 = true := by kernel_rfl
theorem sz2 : siz Tryd.prog 2 = some 1 := by kernel_rfl
theorem ze2 : zer Tryd.prog 2 = some (.int .i64 0) := by kernel_rfl
theorem sc3 : scal Tryd.prog 3 = true := by kernel_rfl
theorem sz3 : siz Tryd.prog 3 = some 1 := by kernel_rfl
theorem ze3 : zer Tryd.prog 3 = some (.int .i64 0) := by kernel_rfl
theorem sc4 : scal Tryd.prog 4 = true := by kernel_rfl
theorem sz4 : siz Tryd.prog 4 = some 1 := by kernel_rfl
theorem ze4 : zer Tryd.prog 4 = some (.bool false) := by kernel_rfl
theorem sc5 : scal Tryd.prog 5 = true := by kernel_rfl
theorem sz5 : siz Tryd.prog 5 = some 1 := by kernel_rfl
theorem ze5 : zer Tryd.prog 5 = some (.int .u8 0) := by kernel_rfl
theorem sc6 : scal Tryd.prog 6 = true := by kernel_rfl
theorem sz6 : siz Tryd.prog 6 = some 1 := by kernel_rfl
theorem ze6 : zer Tryd.prog 6 = some (.int .u8 0) := by kernel_rfl
theorem ag7 : aggOf Tryd.prog 7 = some 4 := by kernel_rfl
theorem sz7 : siz Tryd.prog 7 = some 4 := by kernel_rfl
theorem ze7 : zer Tryd.prog 7 = some (.agg #[.int .i64 0, .int .i64 0, .bool false, .int .u8 0]) := by kernel_rfl
theorem fl7_0 : fld Tryd.prog 7 0 = some 0 := by kernel_rfl
theorem fl7_1 : fld Tryd.prog 7 1 = some 1 := by kernel_rfl
theorem fl7_2 : fld Tryd.prog 7 2 = some 2 := by kernel_rfl
theorem fl7_3 : fld Tryd.prog 7 3 = some 3 := by kernel_rfl
theorem pl7 : places Tryd.prog 7 = some [(0, 1), (1, 1), (2, 1), (3, 1)] := by kernel_rfl
theorem ag8 : aggOf Tryd.prog 8 = some 4 := by kernel_rfl
theorem sz8 : siz Tryd.prog 8 = some 4 := by kernel_rfl
theorem ze8 : zer Tryd.prog 8 = some (.agg #[.int .i64 0, .int .i64 0, .bool false, .int .u8 0]) := by kernel_rfl
theorem fl8_0 : fld Tryd.prog 8 0 = some 0 := by kernel_rfl
theorem fl8_1 : fld Tryd.prog 8 1 = some 1 := by kernel_rfl
theorem fl8_2 : fld Tryd.prog 8 2 = some 2 := by kernel_rfl
theorem fl8_3 : fld Tryd.prog 8 3 = some 3 := by kernel_rfl
theorem pl8 : places Tryd.prog 8 = some [(0, 1), (1, 1), (2, 1), (3, 1)] := by kernel_rfl
theorem sc9 : scal Tryd.prog 9 = true := by kernel_rfl
theorem sz9 : siz Tryd.prog 9 = some 1 := by kernel_rfl
theorem ze9 : zer Tryd.prog 9 = some (str []) := by kernel_rfl
theorem sc10 : scal Tryd.prog 10 = true := by kernel_rfl
theorem sz10 : siz Tryd.prog 10 = some 1 := by kernel_rfl
theorem ze10 : zer Tryd.prog 10 = some (str []) := by kernel_rfl
theorem sc11 : scal Tryd.prog 11 = true := by kernel_rfl
theorem sz11 : siz Tryd.prog 11 = some 1 := by kernel_rfl
theorem ze11 : zer Tryd.prog 11 = some (str []) := by kernel_rfl
theorem sc12 : scal Tryd.prog 12 = true := by kernel_rfl
theorem sz12 : siz Tryd.prog 12 = some 1 := by kernel_rfl
theorem ze12 : zer Tryd.prog 12 = some (.int .u64 0) := by kernel_rfl
theorem ag13 : aggOf Tryd.prog 13 = some 2 := by kernel_rfl
theorem sz13 : siz Tryd.prog 13 = some 2 := by kernel_rfl
theorem ze13 : zer Tryd.prog 13 = some (.agg #[str [], .int .u64 0]) := by kernel_rfl
theorem fl13_0 : fld Tryd.prog 13 0 = some 0 := by kernel_rfl
theorem fl13_1 : fld Tryd.prog 13 1 = some 1 := by kernel_rfl
theorem pl13 : places Tryd.prog 13 = some [(0, 1), (1, 1)] := by kernel_rfl
theorem ag14 : aggOf Tryd.prog 14 = some 2 := by kernel_rfl
theorem sz14 : siz Tryd.prog 14 = some 2 := by kernel_rfl
theorem ze14 : zer Tryd.prog 14 = some (.agg #[str [], .int .u64 0]) := by kernel_rfl
theorem fl14_0 : fld Tryd.prog 14 0 = some 0 := by kernel_rfl
theorem fl14_1 : fld Tryd.prog 14 1 = some 1 := by kernel_rfl
theorem pl14 : places Tryd.prog 14 = some [(0, 1), (1, 1)] := by kernel_rfl
theorem sc15 : scal Tryd.prog 15 = true := by kernel_rfl
theorem sz15 : siz Tryd.prog 15 = some 1 := by kernel_rfl
theorem ze15 : zer Tryd.prog 15 = some (.pointer none) := by kernel_rfl
theorem sc16 : scal Tryd.prog 16 = true := by kernel_rfl
theorem sz16 : siz Tryd.prog 16 = some 1 := by kernel_rfl
theorem ze16 : zer Tryd.prog 16 = some (.pointer none) := by kernel_rfl
theorem sc17 : scal Tryd.prog 17 = true := by kernel_rfl
theorem sz17 : siz Tryd.prog 17 = some 1 := by kernel_rfl
theorem ze17 : zer Tryd.prog 17 = some (.pointer none) := by kernel_rfl
theorem ag18 : aggOf Tryd.prog 18 = some 1 := by kernel_rfl
theorem sz18 : siz Tryd.prog 18 = some 1 := by kernel_rfl
theorem ze18 : zer Tryd.prog 18 = some (.agg #[.pointer none]) := by kernel_rfl
theorem fl18_0 : fld Tryd.prog 18 0 = some 0 := by kernel_rfl
theorem pl18 : places Tryd.prog 18 = some [(0, 1)] := by kernel_rfl
theorem ag19 : aggOf Tryd.prog 19 = some 1 := by kernel_rfl
theorem sz19 : siz Tryd.prog 19 = some 1 := by kernel_rfl
theorem ze19 : zer Tryd.prog 19 = some (.agg #[.pointer none]) := by kernel_rfl
theorem fl19_0 : fld Tryd.prog 19 0 = some 0 := by kernel_rfl
theorem pl19 : places Tryd.prog 19 = some [(0, 1)] := by kernel_rfl
theorem sc20 : scal Tryd.prog 20 = true := by kernel_rfl
theorem sz20 : siz Tryd.prog 20 = some 1 := by kernel_rfl
theorem ze20 : zer Tryd.prog 20 = some (.nilIface) := by kernel_rfl
theorem sc21 : scal Tryd.prog 21 = true := by kernel_rfl
theorem sz21 : siz Tryd.prog 21 = some 1 := by kernel_rfl
theorem ze21 : zer Tryd.prog 21 = some (.int .i32 0) := by kernel_rfl
theorem sc22 : scal Tryd.prog 22 = true := by kernel_rfl
theorem sz22 : siz Tryd.prog 22 = some 1 := by kernel_rfl
theorem ze22 : zer Tryd.prog 22 = some (.slice none 0 0) := by kernel_rfl
theorem se22 : selt Tryd.prog 22 = some (5, 1) := by kernel_rfl
theorem ag23 : aggOf Tryd.prog 23 = some 4 := by kernel_rfl
theorem sz23 : siz Tryd.prog 23 = some 4 := by kernel_rfl
theorem ze23 : zer Tryd.prog 23 = some (.agg #[.slice none 0 0, .bool false, .int .i32 0, str []]) := by kernel_rfl
theorem fl23_0 : fld Tryd.prog 23 0 = some 0 := by kernel_rfl
theorem fl23_1 : fld Tryd.prog 23 1 = some 1 := by kernel_rfl
theorem fl23_2 : fld Tryd.prog 23 2 = some 2 := by kernel_rfl
theorem fl23_3 : fld Tryd.prog 23 3 = some 3 := by kernel_rfl
theorem pl23 : places Tryd.prog 23 = some [(0, 1), (1, 1), (2, 1), (3, 1)] := by kernel_rfl
theorem ag24 : aggOf Tryd.prog 24 = some 4 := by kernel_rfl
theorem sz24 : siz Tryd.prog 24 = some 4 := by kernel_rfl
theorem ze24 : zer Tryd.prog 24 = some (.agg #[.slice none 0 0, .bool false, .int .i32 0, str []]) := by kernel_rfl
theorem fl24_0 : fld Tryd.prog 24 0 = some 0 := by kernel_rfl
theorem fl24_1 : fld Tryd.prog 24 1 = some 1 := by kernel_rfl
theorem fl24_2 : fld Tryd.prog 24 2 = some 2 := by kernel_rfl
theorem fl24_3 : fld Tryd.prog 24 3 = some 3 := by kernel_rfl
theorem pl24 : places Tryd.prog 24 = some [(0, 1), (1, 1), (2, 1), (3, 1)] := by kernel_rfl
theorem sc28 : scal Tryd.prog 28 = true := by kernel_rfl
theorem sz28 : siz Tryd.prog 28 = some 1 := by kernel_rfl
theorem ze28 : zer Tryd.prog 28 = some (.int .i64 0) := by kernel_rfl
theorem ag29 : aggOf Tryd.prog 29 = some 2 := by kernel_rfl
theorem sz29 : siz Tryd.prog 29 = some 2 := by kernel_rfl
theorem ze29 : zer Tryd.prog 29 = some (.agg #[.int .i64 0, .int .i64 0]) := by kernel_rfl
theorem fl29_0 : fld Tryd.prog 29 0 = some 0 := by kernel_rfl
theorem fl29_1 : fld Tryd.prog 29 1 = some 1 := by kernel_rfl
theorem pl29 : places Tryd.prog 29 = some [(0, 1), (1, 1)] := by kernel_rfl
theorem ag30 : aggOf Tryd.prog 30 = some 2 := by kernel_rfl
theorem sz30 : siz Tryd.prog 30 = some 2 := by kernel_rfl
theorem ze30 : zer Tryd.prog 30 = some (.agg #[.int .i64 0, .int .i64 0]) := by kernel_rfl
theorem fl30_0 : fld Tryd.prog 30 0 = some 0 := by kernel_rfl
theorem fl30_1 : fld Tryd.prog 30 1 = some 1 := by kernel_rfl
theorem pl30 : places Tryd.prog 30 = some [(0, 1), (1, 1)] := by kernel_rfl
theorem sc34 : scal Tryd.prog 34 = true := by kernel_rfl
theorem sz34 : siz Tryd.prog 34 = some 1 := by kernel_rfl
theorem ze34 : zer Tryd.prog 34 = some (.pointer none) := by kernel_rfl
theorem sc35 : scal Tryd.prog 35 = true := by kernel_rfl
theorem sz35 : siz Tryd.prog 35 = some 1 := by kernel_rfl
theorem ze35 : zer Tryd.prog 35 = some (.slice none 0 0) := by kernel_rfl
theorem se35 : selt Tryd.prog 35 = some (22, 1) := by kernel_rfl
theorem ag36 : aggOf Tryd.prog 36 = some 2 := by kernel_rfl
theorem sz36 : siz Tryd.prog 36 = some 2 := by kernel_rfl
theorem ze36 : zer Tryd.prog 36 = some (.agg #[.slice none 0 0, .slice none 0 0]) := by kernel_rfl
theorem fl36_0 : fld Tryd.prog 36 0 = some 0 := by kernel_rfl
theorem fl36_1 : fld Tryd.prog 36 1 = some 1 := by kernel_rfl
theorem pl36 : places Tryd.prog 36 = some [(0, 1), (1, 1)] := by kernel_rfl
theorem ag37 : aggOf Tryd.prog 37 = some 2 := by kernel_rfl
theorem sz37 : siz Tryd.prog 37 = some 2 := by kernel_rfl
theorem ze37 : zer Tryd.prog 37 = some (.agg #[.slice none 0 0, .slice none 0 0]) := by kernel_rfl
theorem fl37_0 : fld Tryd.prog 37 0 = some 0 := by kernel_rfl
theorem fl37_1 : fld Tryd.prog 37 1 = some 1 := by kernel_rfl
theorem pl37 : places Tryd.prog 37 = some [(0, 1), (1, 1)] := by kernel_rfl
theorem sc38 : scal Tryd.prog 38 = true := by kernel_rfl
theorem sz38 : siz Tryd.prog 38 = some 1 := by kernel_rfl
theorem ze38 : zer Tryd.prog 38 = some (.pointer none) := by kernel_rfl
theorem ag39 : aggOf Tryd.prog 39 = some 5 := by kernel_rfl
theorem sz39 : siz Tryd.prog 39 = some 5 := by kernel_rfl
theorem ze39 : zer Tryd.prog 39 = some (.agg #[.slice none 0 0, .slice none 0 0, .slice none 0 0, .slice none 0 0, .int .i64 0]) := by kernel_rfl
theorem fl39_0 : fld Tryd.prog 39 0 = some 0 := by kernel_rfl
theorem fl39_1 : fld Tryd.prog 39 1 = some 1 := by kernel_rfl
theorem fl39_2 : fld Tryd.prog 39 2 = some 2 := by kernel_rfl
theorem fl39_3 : fld Tryd.prog 39 3 = some 3 := by kernel_rfl
theorem fl39_4 : fld Tryd.prog 39 4 = some 4 := by kernel_rfl
theorem pl39 : places Tryd.prog 39 = some [(0, 1), (1, 1), (2, 1), (3, 1), (4, 1)] := by kernel_rfl
theorem ag40 : aggOf Tryd.prog 40 = some 5 := by kernel_rfl
theorem sz40 : siz Tryd.prog 40 = some 5 := by kernel_rfl
theorem ze40 : zer Tryd.prog 40 = some (.agg #[.slice none 0 0, .slice none 0 0, .slice none 0 0, .slice none 0 0, .int .i64 0]) := by kernel_rfl
theorem fl40_0 : fld Tryd.prog 40 0 = some 0 := by kernel_rfl
theorem fl40_1 : fld Tryd.prog 40 1 = some 1 := by kernel_rfl
theorem fl40_2 : fld Tryd.prog 40 2 = some 2 := by kernel_rfl
theorem fl40_3 : fld Tryd.prog 40 3 = some 3 := by kernel_rfl
theorem fl40_4 : fld Tryd.prog 40 4 = some 4 := by kernel_rfl
theorem pl40 : places Tryd.prog 40 = some [(0, 1), (1, 1), (2, 1), (3, 1), (4, 1)] := by kernel_rfl
theorem sc44 : scal Tryd.prog 44 = true := by kernel_rfl
theorem sz44 : siz Tryd.prog 44 = some 1 := by kernel_rfl
theorem ze44 : zer Tryd.prog 44 = some (.int .u64 0) := by kernel_rfl
theorem ag45 : aggOf Tryd.prog 45 = some 4 := by kernel_rfl
theorem sz45 : siz Tryd.prog 45 = some 4 := by kernel_rfl
theorem ze45 : zer Tryd.prog 45 = some (.agg #[.int .u64 0, .int .u64 0, .int .u64 0, .int .u64 0]) := by kernel_rfl
theorem ae45 : aelt Tryd.prog 45 = some (4, 44, 1) := by kernel_rfl
theorem ag46 : aggOf Tryd.prog 46 = some 4 := by kernel_rfl
theorem sz46 : siz Tryd.prog 46 = some 4 := by kernel_rfl
theorem ze46 : zer Tryd.prog 46 = some (.agg #[.int .u64 0, .int .u64 0, .int .u64 0, .int .u64 0]) := by kernel_rfl
theorem ae46 : aelt Tryd.prog 46 = some (4, 44, 1) := by kernel_rfl
theorem ag49 : aggOf Tryd.prog 49 = some 20 := by kernel_rfl
theorem sz49 : siz Tryd.prog 49 = some 20 := by kernel_rfl
theorem ze49 : zer Tryd.prog 49 = some (.agg #[.int .u8 0, .int .u8 0, .int .u8 0, .int .u8 0, .int .u8 0, .int .u8 0, .int .u8 0, .int .u8 0, .int .u8 0, .int .u8 0, .int .u8 0, .int .u8 0, .int .u8 0, .int .u8 0, .int .u8 0, .int .u8 0, .int .u8 0, .int .u8 0, .int .u8 0, .int .u8 0]) := by kernel_rfl
theorem ae49 : aelt Tryd.prog 49 = some (20, 5, 1) := by kernel_rfl
theorem ag50 : aggOf Tryd.prog 50 = some 20 := by kernel_rfl
theorem sz50 : siz Tryd.prog 50 = some 20 := by kernel_rfl
theorem ze50 : zer Tryd.prog 50 = some (.agg #[.int .u8 0, .int .u8 0, .int .u8 0, .int .u8 0, .int .u8 0, .int .u8 0, .int .u8 0, .int .u8 0, .int .u8 0, .int .u8 0, .int .u8 0, .int .u8 0, .int .u8 0, .int .u8 0, .int .u8 0, .int .u8 0, .int .u8 0, .int .u8 0, .int .u8 0, .int .u8 0]) := by kernel_rfl
theorem ae50 : aelt Tryd.prog 50 = some (20, 5, 1) := by kernel_rfl
theorem ag53 : aggOf Tryd.prog 53 = some 32 := by kernel_rfl
theorem sz53 : siz Tryd.prog 53 = some 32 := by kernel_rfl
theorem ze53 : zer Tryd.prog 53 = some (.agg #[.int .u8 0, .int .u8 0, .int .u8 0, .int .u8 0, .int .u8 0, .int .u8 0, .int .u8 0, .int .u8 0, .int .u8 0, .int .u8 0, .int .u8 0, .int .u8 0, .int .u8 0, .int .u8 0, .int .u8 0, .int .u8 0, .int .u8 0, .int .u8 0, .int .u8 0, .int .u8 0, .int .u8 0, .int .u8 0, .int .u8 0, .int .u8 0, .int .u8 0, .int .u8 0, .int .u8 0, .int .u8 0, .int .u8 0, .int .u8 0, .int .u8 0, .int .u8 0]) := by kernel_rfl
theorem ae53 : aelt Tryd.prog 53 = some (32, 5, 1) := by kernel_rfl
theorem ag54 : aggOf Tryd.prog 54 = some 32 := by kernel_rfl
theorem sz54 : siz Tryd.prog 54 = some 32 := by kernel_rfl
theorem ze54 : zer Tryd.prog 54 = some (.agg #[.int .u8 0, .int .u8 0, .int .u8 0, .int .u8 0, .int .u8 0, .int .u8 0, .int .u8 0, .int .u8 0, .int .u8 0, .int .u8 0, .int .u8 0, .int .u8 0, .int .u8 0, .int .u8 0, .int .u8 0, .int .u8 0, .int .u8 0, .int .u8 0, .int .u8 0, .int .u8 0, .int .u8 0, .int .u8 0, .int .u8 0, .int .u8 0, .int .u8 0, .int .u8 0, .int .u8 0, .int .u8 0, .int .u8 0, .int .u8 0, .int .u8 0, .int .u8 0]) := by kernel_rfl
theorem ae54 : aelt Tryd.prog 54 = some (32, 5, 1) := by kernel_rfl
theorem sc58 : scal Tryd.prog 58 = true := by kernel_rfl
theorem sz58 : siz Tryd.prog 58 = some 1 := by kernel_rfl
theorem ze58 : zer Tryd.prog 58 = some (.slice none 0 0) := by kernel_rfl
theorem se58 : selt Tryd.prog 58 = some (9, 1) := by kernel_rfl
theorem sc64 : scal Tryd.prog 64 = true := by kernel_rfl
theorem sz64 : siz Tryd.prog 64 = some 1 := by kernel_rfl
theorem ze64 : zer Tryd.prog 64 = some (.pointer none) := by kernel_rfl
theorem ag65 : aggOf Tryd.prog 65 = some 2 := by kernel_rfl
theorem sz65 : siz Tryd.prog 65 = some 2 := by kernel_rfl
theorem ze65 : zer Tryd.prog 65 = some (.agg #[.pointer none, .slice none 0 0]) := by kernel_rfl
theorem fl65_0 : fld Tryd.prog 65 0 = some 0 := by kernel_rfl
theorem fl65_1 : fld Tryd.prog 65 1 = some 1 := by kernel_rfl
theorem pl65 : places Tryd.prog 65 = some [(0, 1), (1, 1)] := by kernel_rfl
theorem ag66 : aggOf Tryd.prog 66 = some 2 := by kernel_rfl
theorem sz66 : siz Tryd.prog 66 = some 2 := by kernel_rfl
theorem ze66 : zer Tryd.prog 66 = some (.agg #[.pointer none, .slice none 0 0]) := by kernel_rfl
theorem fl66_0 : fld Tryd.prog 66 0 = some 0 := by kernel_rfl
theorem fl66_1 : fld Tryd.prog 66 1 = some 1 := by kernel_rfl
theorem pl66 : places Tryd.prog 66 = some [(0, 1), (1, 1)] := by kernel_rfl
theorem sc67 : scal Tryd.prog 67 = true := by kernel_rfl
theorem sz67 : siz Tryd.prog 67 = some 1 := by kernel_rfl
theorem ze67 : zer Tryd.prog 67 = some (.nilIface) := by kernel_rfl
theorem sc68 : scal Tryd.prog 68 = true := by kernel_rfl
theorem sz68 : siz Tryd.prog 68 = some 1 := by kernel_rfl
theorem ze68 : zer Tryd.prog 68 = some (.nilIface) := by kernel_rfl
theorem sc72 : scal Tryd.prog 72 = true := by kernel_rfl
theorem sz72 : siz Tryd.prog 72 = some 1 := by kernel_rfl
theorem ze72 : zer Tryd.prog 72 = some (.int .u64 0) := by kernel_rfl
theorem sc78 : scal Tryd.prog 78 = true := by kernel_rfl
theorem sz78 : siz Tryd.prog 78 = some 1 := by kernel_rfl
theorem ze78 : zer Tryd.prog 78 = some (.slice none 0 0) := by kernel_rfl
theorem se78 : selt Tryd.prog 78 = some (3, 1) := by kernel_rfl
theorem sc84 : scal Tryd.prog 84 = true := by kernel_rfl
theorem sz84 : siz Tryd.prog 84 = some 1 := by kernel_rfl
theorem ze84 : zer Tryd.prog 84 = some (.slice none 0 0) := by kernel_rfl
theorem se84 : selt Tryd.prog 84 = some (107, 1) := by kernel_rfl
theorem sc85 : scal Tryd.prog 85 = true := by kernel_rfl
theorem sz85 : siz Tryd.prog 85 = some 1 := by kernel_rfl
theorem ze85 : zer Tryd.prog 85 = some (.slice none 0 0) := by kernel_rfl
theorem se85 : selt Tryd.prog 85 = some (107, 1) := by kernel_rfl
theorem sc96 : scal Tryd.prog 96 = true := by kernel_rfl
theorem sz96 : siz Tryd.prog 96 = some 1 := by kernel_rfl
theorem ze96 : zer Tryd.prog 96 = some (.slice none 0 0) := by kernel_rfl
theorem se96 : selt Tryd.prog 96 = some (21, 1) := by kernel_rfl
theorem sc100 : scal Tryd.prog 100 = true := by kernel_rfl
theorem sz100 : siz Tryd.prog 100 = some 1 := by kernel_rfl
theorem ze100 : zer Tryd.prog 100 = some (.pointer none) := by kernel_rfl
theorem sc107 : scal Tryd.prog 107 = true := by kernel_rfl
theorem sz107 : siz Tryd.prog 107 = some 1 := by kernel_rfl
theorem ze107 : zer Tryd.prog 107 = some (.int .u32 0) := by kernel_rfl
theorem sc109 : scal Tryd.prog 109 = true := by kernel_rfl
theorem sz109 : siz Tryd.prog 109 = some 1 := by kernel_rfl
theorem ze109 : zer Tryd.prog 109 = some (.slice none 0 0) := by kernel_rfl
theorem se109 : selt Tryd.prog 109 = some (111, 2) := by kernel_rfl
theorem ag110 : aggOf Tryd.prog 110 = some 2 := by kernel_rfl
theorem sz110 : siz Tryd.prog 110 = some 2 := by kernel_rfl
theorem ze110 : zer Tryd.prog 110 = some (.agg #[.int .i64 0, .int .i64 0]) := by kernel_rfl
theorem fl110_0 : fld Tryd.prog 110 0 = some 0 := by kernel_rfl
theorem fl110_1 : fld Tryd.prog 110 1 = some 1 := by kernel_rfl
theorem pl110 : places Tryd.prog 110 = some [(0, 1), (1, 1)] := by kernel_rfl
theorem ag111 : aggOf Tryd.prog 111 = some 2 := by kernel_rfl
theorem sz111 : siz Tryd.prog 111 = some 2 := by kernel_rfl
theorem ze111 : zer Tryd.prog 111 = some (.agg #[.int .i64 0, .int .i64 0]) := by kernel_rfl
theorem fl111_0 : fld Tryd.prog 111 0 = some 0 := by kernel_rfl
theorem fl111_1 : fld Tryd.prog 111 1 = some 1 := by kernel_rfl
theorem pl111 : places Tryd.prog 111 = some [(0, 1), (1, 1)] := by kernel_rfl
theorem ag113 : aggOf Tryd.prog 113 = some 256 := by kernel_rfl
theorem sz113 : siz Tryd.prog 113 = some 256 := by kernel_rfl
theorem ae113 : aelt Tryd.prog 113 = some (256, 4, 1) := by kernel_rfl
theorem ag114 : aggOf Tryd.prog 114 = some 256 := by kernel_rfl
theorem sz114 : siz Tryd.prog 114 = some 256 := by kernel_rfl
theorem ae114 : aelt Tryd.prog 114 = some (256, 4, 1) := by kernel_rfl
theorem sc118 : scal Tryd.prog 118 = true := by kernel_rfl
theorem sz118 : siz Tryd.prog 118 = some 1 := by kernel_rfl
theorem ze118 : zer Tryd.prog 118 = some (.pointer none) := by kernel_rfl
theorem sc120 : scal Tryd.prog 120 = true := by kernel_rfl
theorem sz120 : siz Tryd.prog 120 = some 1 := by kernel_rfl
theorem ze120 : zer Tryd.prog 120 = some (.pointer none) := by kernel_rfl
theorem ag122 : aggOf Tryd.prog 122 = some 25 := by kernel_rfl
theorem sz122 : siz Tryd.prog 122 = some 25 := by kernel_rfl
theorem ze122 : zer Tryd.prog 122 = some (.agg #[.int .u64 0, .int .u64 0, .int .u64 0, .int .u64 0, .int .u64 0, .int .u64 0, .int .u64 0, .int .u64 0, .int .u64 0, .int .u64 0, .int .u64 0, .int .u64 0, .int .u64 0, .int .u64 0, .int .u64 0, .int .u64 0, .int .u64 0, .int .u64 0, .int .u64 0, .int .u64 0, .int .u64 0, .int .u64 0, .int .u64 0, .int .u64 0, .int .u64 0]) := by kernel_rfl
theorem ae122 : aelt Tryd.prog 122 = some (25, 44, 1) := by kernel_rfl
theorem ag123 : aggOf Tryd.prog 123 = some 25 := by kernel_rfl
theorem sz123 : siz Tryd.prog 123 = some 25 := by kernel_rfl
theorem ze123 : zer Tryd.prog 123 = some (.agg #[.int .u64 0, .int .u64 0, .int .u64 0, .int .u64 0, .int .u64 0, .int .u64 0, .int .u64 0, .int .u64 0, .int .u64 0, .int .u64 0, .int .u64 0, .int .u64 0, .int .u64 0, .int .u64 0, .int .u64 0, .int .u64 0, .int .u64 0, .int .u64 0, .int .u64 0, .int .u64 0, .int .u64 0, .int .u64 0, .int .u64 0, .int .u64 0, .int .u64 0]) := by kernel_rfl
theorem ae123 : aelt Tryd.prog 123 = some (25, 44, 1) := by kernel_rfl
theorem ag124 : aggOf Tryd.prog 124 = some 26 := by kernel_rfl
theorem sz124 : siz Tryd.prog 124 = some 26 := by kernel_rfl
theorem ze124 : zer Tryd.prog 124 = some (.agg #[.int .u64 0, .int .u64 0, .int .u64 0, .int .u64 0, .int .u64 0, .int .u64 0, .int .u64 0, .int .u64 0, .int .u64 0, .int .u64 0, .int .u64 0, .int .u64 0, .int .u64 0, .int .u64 0, .int .u64 0, .int .u64 0, .int .u64 0, .int .u64 0, .int .u64 0, .int .u64 0, .int .u64 0, .int .u64 0, .int .u64 0, .int .u64 0, .int .u64 0, .slice none 0 0]) := by kernel_rfl
theorem fl124_0 : fld Tryd.prog 124 0 = some 0 := by kernel_rfl
theorem fl124_1 : fld Tryd.prog 124 1 = some 25 := by kernel_rfl
theorem pl124 : places Tryd.prog 124 = some [(0, 25), (25, 1)] := by kernel_rfl
theorem ag125 : aggOf Tryd.prog 125 = some 26 := by kernel_rfl
theorem sz125 : siz Tryd.prog 125 = some 26 := by kernel_rfl
theorem ze125 : zer Tryd.prog 125 = some (.agg #[.int .u64 0, .int .u64 0, .int .u64 0, .int .u64 0, .int .u64 0, .int .u64 0, .int .u64 0, .int .u64 0, .int .u64 0, .int .u64 0, .int .u64 0, .int .u64 0, .int .u64 0, .int .u64 0, .int .u64 0, .int .u64 0, .int .u64 0, .int .u64 0, .int .u64 0, .int .u64 0, .int .u64 0, .int .u64 0, .int .u64 0, .int .u64 0, .int .u64 0, .slice none 0 0]) := by kernel_rfl
theorem fl125_0 : fld Tryd.prog 125 0 = some 0 := by kernel_rfl
theorem fl125_1 : fld Tryd.prog 125 1 = some 25 := by kernel_rfl
theorem pl125 : places Tryd.prog 125 = some [(0, 25), (25, 1)] := by kernel_rfl
theorem sc130 : scal Tryd.prog 130 = true := by kernel_rfl
theorem sz130 : siz Tryd.prog 130 = some 1 := by kernel_rfl
theorem sc139 : scal Tryd.prog 139 = true := by kernel_rfl
theorem sz139 : siz Tryd.prog 139 = some 1 := by kernel_rfl
theorem ze139 : zer Tryd.prog 139 = some (.pointer none) := by kernel_rfl
theorem ag140 : aggOf Tryd.prog 140 = some 136 := by kernel_rfl
theorem sz140 : siz Tryd.prog 140 = some 136 := by kernel_rfl
theorem ae140 : aelt Tryd.prog 140 = some (136, 5, 1) := by kernel_rfl
theorem sc143 : scal Tryd.prog 143 = true := by kernel_rfl
theorem sz143 : siz Tryd.prog 143 = some 1 := by kernel_rfl
theorem ze143 : zer Tryd.prog 143 = some (.slice none 0 0) := by kernel_rfl
theorem se143 : selt Tryd.prog 143 = some (165, 5) := by kernel_rfl
theorem sc145 : scal Tryd.prog 145 = true := by kernel_rfl
theorem sz145 : siz Tryd.prog 145 = some 1 := by kernel_rfl
theorem ze145 : zer Tryd.prog 145 = some (.slice none 0 0) := by kernel_rfl
theorem se145 : selt Tryd.prog 145 = some (44, 1) := by kernel_rfl
theorem ag149 : aggOf Tryd.prog 149 = some 24 := by kernel_rfl
theorem sz149 : siz Tryd.prog 149 = some 24 := by kernel_rfl
theorem ze149 : zer Tryd.prog 149 = some (.agg #[.int .u64 0, .int .u64 0, .int .u64 0, .int .u64 0, .int .u64 0, .int .u64 0, .int .u64 0, .int .u64 0, .int .u64 0, .int .u64 0, .int .u64 0, .int .u64 0, .int .u64 0, .int .u64 0, .int .u64 0, .int .u64 0, .int .u64 0, .int .u64 0, .int .u64 0, .int .u64 0, .int .u64 0, .int .u64 0, .int .u64 0, .int .u64 0]) := by kernel_rfl
theorem ae149 : aelt Tryd.prog 149 = some (24, 44, 1) := by kernel_rfl
theorem sc151 : scal Tryd.prog 151 = true := by kernel_rfl
theorem sz151 : siz Tryd.prog 151 = some 1 := by kernel_rfl
theorem ze151 : zer Tryd.prog 151 = some (.pointer none) := by kernel_rfl
theorem ag156 : aggOf Tryd.prog 156 = some 256 := by kernel_rfl
theorem sz156 : siz Tryd.prog 156 = some 256 := by kernel_rfl
theorem ae156 : aelt Tryd.prog 156 = some (256, 5, 1) := by kernel_rfl
theorem ag157 : aggOf Tryd.prog 157 = some 2 := by kernel_rfl
theorem sz157 : siz Tryd.prog 157 = some 2 := by kernel_rfl
theorem ze157 : zer Tryd.prog 157 = some (.agg #[.int .u8 0, .int .u8 0]) := by kernel_rfl
theorem fl157_0 : fld Tryd.prog 157 0 = some 0 := by kernel_rfl
theorem fl157_1 : fld Tryd.prog 157 1 = some 1 := by kernel_rfl
theorem pl157 : places Tryd.prog 157 = some [(0, 1), (1, 1)] := by kernel_rfl
theorem ag158 : aggOf Tryd.prog 158 = some 2 := by kernel_rfl
theorem sz158 : siz Tryd.prog 158 = some 2 := by kernel_rfl
theorem ze158 : zer Tryd.prog 158 = some (.agg #[.int .u8 0, .int .u8 0]) := by kernel_rfl
theorem fl158_0 : fld Tryd.prog 158 0 = some 0 := by kernel_rfl
theorem fl158_1 : fld Tryd.prog 158 1 = some 1 := by kernel_rfl
theorem pl158 : places Tryd.prog 158 = some [(0, 1), (1, 1)] := by kernel_rfl
theorem ag159 : aggOf Tryd.prog 159 = some 32 := by kernel_rfl
theorem sz159 : siz Tryd.prog 159 = some 32 := by kernel_rfl
theorem ze159 : zer Tryd.prog 159 = some (.agg #[.int .u8 0, .int .u8 0, .int .u8 0, .int .u8 0, .int .u8 0, .int .u8 0, .int .u8 0, .int .u8 0, .int .u8 0, .int .u8 0, .int .u8 0, .int .u8 0, .int .u8 0, .int .u8 0, .int .u8 0, .int .u8 0, .int .u8 0, .int .u8 0, .int .u8 0, .int .u8 0, .int .u8 0, .int .u8 0, .int .u8 0, .int .u8 0, .int .u8 0, .int .u8 0, .int .u8 0, .int .u8 0, .int .u8 0, .int .u8 0, .int .u8 0, .int .u8 0]) := by kernel_rfl
theorem ae159 : aelt Tryd.prog 159 = some (16, 158, 2) := by kernel_rfl
theorem ag160 : aggOf Tryd.prog 160 = some 5 := by kernel_rfl
theorem sz160 : siz Tryd.prog 160 = some 5 := by kernel_rfl
theorem ze160 : zer Tryd.prog 160 = some (.agg #[.int .u64 0, .int .u64 0, .int .u64 0, .int .u64 0, .int .u64 0]) := by kernel_rfl
theorem ae160 : aelt Tryd.prog 160 = some (5, 44, 1) := by kernel_rfl
theorem ag162 : aggOf Tryd.prog 162 = some 3 := by kernel_rfl
theorem sz162 : siz Tryd.prog 162 = some 3 := by kernel_rfl
theorem ze162 : zer Tryd.prog 162 = some (.agg #[.int .i32 0, .int .i32 0, .int .i32 0]) := by kernel_rfl
theorem ae162 : aelt Tryd.prog 162 = some (3, 21, 1) := by kernel_rfl
theorem ag163 : aggOf Tryd.prog 163 = some 3 := by kernel_rfl
theorem sz163 : siz Tryd.prog 163 = some 3 := by kernel_rfl
theorem ze163 : zer Tryd.prog 163 = some (.agg #[.int .i32 0, .int .i32 0, .int .i32 0]) := by kernel_rfl
theorem ae163 : aelt Tryd.prog 163 = some (3, 21, 1) := by kernel_rfl
theorem ag164 : aggOf Tryd.prog 164 = some 5 := by kernel_rfl
theorem sz164 : siz Tryd.prog 164 = some 5 := by kernel_rfl
theorem ze164 : zer Tryd.prog 164 = some (.agg #[.int .u32 0, .int .u32 0, .int .i32 0, .int .i32 0, .int .i32 0]) := by kernel_rfl
theorem fl164_0 : fld Tryd.prog 164 0 = some 0 := by kernel_rfl
theorem fl164_1 : fld Tryd.prog 164 1 = some 1 := by kernel_rfl
theorem fl164_2 : fld Tryd.prog 164 2 = some 2 := by kernel_rfl
theorem pl164 : places Tryd.prog 164 = some [(0, 1), (1, 1), (2, 3)] := by kernel_rfl
theorem ag165 : aggOf Tryd.prog 165 = some 5 := by kernel_rfl
theorem sz165 : siz Tryd.prog 165 = some 5 := by kernel_rfl
theorem ze165 : zer Tryd.prog 165 = some (.agg #[.int .u32 0, .int .u32 0, .int .i32 0, .int .i32 0, .int .i32 0]) := by kernel_rfl
theorem fl165_0 : fld Tryd.prog 165 0 = some 0 := by kernel_rfl
theorem fl165_1 : fld Tryd.prog 165 1 = some 1 := by kernel_rfl
theorem fl165_2 : fld Tryd.prog 165 2 = some 2 := by kernel_rfl
theorem pl165 : places Tryd.prog 165 = some [(0, 1), (1, 1), (2, 3)] := by kernel_rfl
theorem sc172 : scal Tryd.prog 172 = true := by kernel_rfl
theorem sz172 : siz Tryd.prog 172 = some 1 := by kernel_rfl
theorem ze172 : zer Tryd.prog 172 = some (.pointer none) := by kernel_rfl
theorem ag173 : aggOf Tryd.prog 173 = some 4 := by kernel_rfl
theorem sz173 : siz Tryd.prog 173 = some 4 := by kernel_rfl
theorem ze173 : zer Tryd.prog 173 = some (.agg #[.pointer none, .pointer none, .pointer none, str []]) := by kernel_rfl
theorem fl173_0 : fld Tryd.prog 173 0 = some 0 := by kernel_rfl
theorem fl173_1 : fld Tryd.prog 173 1 = some 1 := by kernel_rfl
theorem fl173_2 : fld Tryd.prog 173 2 = some 2 := by kernel_rfl
theorem fl173_3 : fld Tryd.prog 173 3 = some 3 := by kernel_rfl
theorem pl173 : places Tryd.prog 173 = some [(0, 1), (1, 1), (2, 1), (3, 1)] := by kernel_rfl
theorem ag174 : aggOf Tryd.prog 174 = some 4 := by kernel_rfl
theorem sz174 : siz Tryd.prog 174 = some 4 := by kernel_rfl
theorem ze174 : zer Tryd.prog 174 = some (.agg #[.pointer none, .pointer none, .pointer none, str []]) := by kernel_rfl
theorem fl174_0 : fld Tryd.prog 174 0 = some 0 := by kernel_rfl
theorem fl174_1 : fld Tryd.prog 174 1 = some 1 := by kernel_rfl
theorem fl174_2 : fld Tryd.prog 174 2 = some 2 := by kernel_rfl
theorem fl174_3 : fld Tryd.prog 174 3 = some 3 := by kernel_rfl
theorem pl174 : places Tryd.prog 174 = some [(0, 1), (1, 1), (2, 1), (3, 1)] := by kernel_rfl
theorem ag175 : aggOf Tryd.prog 175 = some 0 := by kernel_rfl
theorem sz175 : siz Tryd.prog 175 = some 0 := by kernel_rfl
theorem ze175 : zer Tryd.prog 175 = some (.agg #[]) := by kernel_rfl
theorem ae175 : aelt Tryd.prog 175 = some (0, 16, 1) := by kernel_rfl
theorem ag176 : aggOf Tryd.prog 176 = some 0 := by kernel_rfl
theorem sz176 : siz Tryd.prog 176 = some 0 := by kernel_rfl
theorem ze176 : zer Tryd.prog 176 = some (.agg #[]) := by kernel_rfl
theorem pl176 : places Tryd.prog 176 = some [(0, 0)] := by kernel_rfl
theorem ag177 : aggOf Tryd.prog 177 = some 0 := by kernel_rfl
theorem sz177 : siz Tryd.prog 177 = some 0 := by kernel_rfl
theorem ze177 : zer Tryd.prog 177 = some (.agg #[]) := by kernel_rfl
theorem pl177 : places Tryd.prog 177 = some [(0, 0)] := by kernel_rfl
theorem sc179 : scal Tryd.prog 179 = true := by kernel_rfl
theorem sz179 : siz Tryd.prog 179 = some 1 := by kernel_rfl
theorem ze179 : zer Tryd.prog 179 = some (.int .u8 0) := by kernel_rfl
theorem sc180 : scal Tryd.prog 180 = true := by kernel_rfl
theorem sz180 : siz Tryd.prog 180 = some 1 := by kernel_rfl
theorem ze180 : zer Tryd.prog 180 = some (.int .u8 0) := by kernel_rfl
theorem sc182 : scal Tryd.prog 182 = true := by kernel_rfl
theorem sz182 : siz Tryd.prog 182 = some 1 := by kernel_rfl
theorem ze182 : zer Tryd.prog 182 = some (.int .i32 0) := by kernel_rfl
theorem sc183 : scal Tryd.prog 183 = true := by kernel_rfl
theorem sz183 : siz Tryd.prog 183 = some 1 := by kernel_rfl
theorem ze183 : zer Tryd.prog 183 = some (.int .i32 0) := by kernel_rfl
theorem ag184 : aggOf Tryd.prog 184 = some 11 := by kernel_rfl
theorem sz184 : siz Tryd.prog 184 = some 11 := by kernel_rfl
theorem ze184 : zer Tryd.prog 184 = some (.agg #[.int .u64 0, .int .u64 0, .int .u32 0, .int .u8 0, .int .u8 0, .int .u8 0, .int .u8 0, .nilFunc, .pointer none, .int .i32 0, .int .i32 0]) := by kernel_rfl
theorem fl184_0 : fld Tryd.prog 184 0 = some 0 := by kernel_rfl
theorem fl184_1 : fld Tryd.prog 184 1 = some 1 := by kernel_rfl
theorem fl184_2 : fld Tryd.prog 184 2 = some 2 := by kernel_rfl
theorem fl184_3 : fld Tryd.prog 184 3 = some 3 := by kernel_rfl
theorem fl184_4 : fld Tryd.prog 184 4 = some 4 := by kernel_rfl
theorem fl184_5 : fld Tryd.prog 184 5 = some 5 := by kernel_rfl
theorem fl184_6 : fld Tryd.prog 184 6 = some 6 := by kernel_rfl
theorem fl184_7 : fld Tryd.prog 184 7 = some 7 := by kernel_rfl
theorem fl184_8 : fld Tryd.prog 184 8 = some 8 := by kernel_rfl
theorem fl184_9 : fld Tryd.prog 184 9 = some 9 := by kernel_rfl
theorem fl184_10 : fld Tryd.prog 184 10 = some 10 := by kernel_rfl
theorem pl184 : places Tryd.prog 184 = some [(0, 1), (1, 1), (2, 1), (3, 1), (4, 1), (5, 1), (6, 1), (7, 1), (8, 1), (9, 1), (10, 1)] := by kernel_rfl
theorem ag185 : aggOf Tryd.prog 185 = some 11 := by kernel_rfl
theorem sz185 : siz Tryd.prog 185 = some 11 := by kernel_rfl
theorem ze185 : zer Tryd.prog 185 = some (.agg #[.int .u64 0, .int .u64 0, .int .u32 0, .int .u8 0, .int .u8 0, .int .u8 0, .int .u8 0, .nilFunc, .pointer none, .int .i32 0, .int .i32 0]) := by kernel_rfl
theorem fl185_0 : fld Tryd.prog 185 0 = some 0 := by kernel_rfl
theorem fl185_1 : fld Tryd.prog 185 1 = some 1 := by kernel_rfl
theorem fl185_2 : fld Tryd.prog 185 2 = some 2 := by kernel_rfl
theorem fl185_3 : fld Tryd.prog 185 3 = some 3 := by kernel_rfl
theorem fl185_4 : fld Tryd.prog 185 4 = some 4 := by kernel_rfl
theorem fl185_5 : fld Tryd.prog 185 5 = some 5 := by kernel_rfl
theorem fl185_6 : fld Tryd.prog 185 6 = some 6 := by kernel_rfl
theorem fl185_7 : fld Tryd.prog 185 7 = some 7 := by kernel_rfl
theorem fl185_8 : fld Tryd.prog 185 8 = some 8 := by kernel_rfl
theorem fl185_9 : fld Tryd.prog 185 9 = some 9 := by kernel_rfl
theorem fl185_10 : fld Tryd.prog 185 10 = some 10 := by kernel_rfl
theorem pl185 : places Tryd.prog 185 = some [(0, 1), (1, 1), (2, 1), (3, 1), (4, 1), (5, 1), (6, 1), (7, 1), (8, 1), (9, 1), (10, 1)] := by kernel_rfl
theorem ag186 : aggOf Tryd.prog 186 = some 1 := by kernel_rfl
theorem sz186 : siz Tryd.prog 186 = some 1 := by kernel_rfl
theorem ze186 : zer Tryd.prog 186 = some (.agg #[str []]) := by kernel_rfl
theorem fl186_0 : fld Tryd.prog 186 0 = some 0 := by kernel_rfl
theorem pl186 : places Tryd.prog 186 = some [(0, 1)] := by kernel_rfl
theorem ag187 : aggOf Tryd.prog 187 = some 1 := by kernel_rfl
theorem sz187 : siz Tryd.prog 187 = some 1 := by kernel_rfl
theorem ze187 : zer Tryd.prog 187 = some (.agg #[str []]) := by kernel_rfl
theorem fl187_0 : fld Tryd.prog 187 0 = some 0 := by kernel_rfl
theorem pl187 : places Tryd.prog 187 = some [(0, 1)] := by kernel_rfl
theorem te3 : ElemInfo Tryd.prog 3 (.int .i64 0) 1 8 := elem_of (by kernel_rfl) rfl (by decide)
theorem te5 : ElemInfo Tryd.prog 5 (.int .u8 0) 1 1 := elem_of (by kernel_rfl) rfl (by decide)
theorem te9 : ElemInfo Tryd.prog 9 (str []) 1 16 := elem_of (by kernel_rfl) rfl (by decide)
theorem te21 : ElemInfo Tryd.prog 21 (.int .i32 0) 1 4 := elem_of (by kernel_rfl) rfl (by decide)
theorem te22 : ElemInfo Tryd.prog 22 (.slice none 0 0) 1 24 := elem_of (by kernel_rfl) rfl (by decide)
theorem te44 : ElemInfo Tryd.prog 44 (.int .u64 0) 1 8 := elem_of (by kernel_rfl) rfl (by decide)
theorem te107 : ElemInfo Tryd.prog 107 (.int .u32 0) 1 4 := elem_of (by kernel_rfl) rfl (by decide)
theorem te111 : ElemInfo Tryd.prog 111 (.agg #[.int .i64 0, .int .i64 0]) 2 16 := elem_of (by kernel_rfl) rfl (by decide)
theorem te165 : ElemInfo Tryd.prog 165 (.agg #[.int .u32 0, .int .u32 0, .int .i32 0, .int .i32 0, .int .i32 0]) 5 20 := elem_of (by kernel_rfl) rfl (by decide)
end Go.Proofs.YtlkjfbfenpkmhaaDoor
/- strings.Builder: its methods at a builder of the caller's own. No condition but the room that Go gives. -/
namespace Go.Proofs.YtlkjfbfenpkmhaaDoor
set_option linter.unusedVariables false
set_option linter.unusedSimpArgs false
open Go Go.RowKit
theorem info_of_siz {P : Program} {t : TypeId} {k : Nat} (h : siz P t = some k) : ∃ j, P.info? t = some j ∧ j.size = k := by
  unfold siz at h
  cases e : P.info? t with
  | none => rw [e] at h; cases h
  | some j => rw [e] at h; exact ⟨j, rfl, by injection h⟩
section
variable {Nx Nr : Heaplet} {b n c : Nat} {a : Option Addr} {p : Option Addr} {sl q : Value} {l : List UInt8}
theorem FCopy_n (Bx : Blk Nx b 66 [.pointer none, sl]) : Fn Tryd.prog 60 #[.pointer (some ⟨b, 0, none⟩)] [Nx] [] (fun v L => v = .tuple #[] ∧ ∃ M, L = [M] ∧ Blk M b 66 [.pointer (some ⟨b, 0, none⟩), sl]) := by
  obtain ⟨j, hj, hjs⟩ := info_of_siz sz66
  have hE : ∀ w, (callFunc 79 #[.pointer (some ⟨b, 0, none⟩)]).run Tryd.prog w = .ok (.value (.pointer (some ⟨b, 0, none⟩))) w := fun w => by
    rw [run_callFunc_extern Tryd.func79 (by kernel_rfl) (by kernel_rfl) (by kernel_rfl) (e := Extern.AbiNoEscape.same) (by kernel_rfl)]
    rfl
  refine Fn.enter (vs := [.pointer (some ⟨b, 0, none⟩)]) Tryd.func60 rfl rfl rfl ?_
  intro E R hR
  change At _ _ E [Nx, R] _
  refine At.seq fun K1 hk_1 => ?_
  refine At.region ?_
  refine op_move (nxlf rfl) rfl rfl ?_
  refine op_nilChk (nxlf rfl) rfl rfl ?_
  refine op_fieldAddr (nxlf rfl) fl66_0 rfl rfl ?_
  refine op_loadB (nxlf rfl) sc64 rfl Bx (by first | rfl) mem0 rfl ?_
  refine op_eqPN (nxlf rfl) Tryd.underlying64 rfl rfl rfl ?_
  refine At.opsNil ?_
  refine At.norm (hk_1 ?_)
  refine At.condT rfl ?_
  refine At.region ?_
  refine op_move (nxlf rfl) rfl rfl ?_
  refine op_move (nxlf rfl) rfl rfl ?_
  refine op_toU (nxlf rfl) Tryd.underlying64 Tryd.underlying130 hj (by rw [hjs]; decide) rfl Bx (by simp) mem0 rfl ?_
  refine op_ext (nxla rfl) (.cons rfl .nil) (hE) rfl ?_
  refine op_fromU (nxlf rfl) Tryd.underlying130 Tryd.underlying64 hj rfl Bx (by kernel_rfl) mem0 rfl ?_
  refine op_nilChk (nxlf rfl) rfl rfl ?_
  refine op_fieldAddr (nxlf rfl) fl66_0 rfl rfl ?_
  refine op_store (nxl rfl) sz64 rfl rfl rfl rfl rfl Bx (by simp) sel0 (fun Nx Bx => ?_)
  simp only [setL, List.set] at Bx
  refine At.opsNil ?_
  refine At.retNE (L1 := [Nx]) rfl .nil rfl (.refl _) (.refl _) ?_
  exact ⟨rfl, Nx, rfl, Bx⟩
theorem FCopy_s (Bx : Blk Nx b 66 [.pointer (some ⟨b, 0, none⟩), sl]) : Fn Tryd.prog 60 #[.pointer (some ⟨b, 0, none⟩)] [Nx] [] (fun v L => v = .tuple #[] ∧ ∃ M, L = [M] ∧ Blk M b 66 [.pointer (some ⟨b, 0, none⟩), sl]) := by
  obtain ⟨j, hj, hjs⟩ := info_of_siz sz66
  refine Fn.enter (vs := [.pointer (some ⟨b, 0, none⟩)]) Tryd.func60 rfl rfl rfl ?_
  intro E R hR
  change At _ _ E [Nx, R] _
  refine At.seq fun K1 hk_1 => ?_
  refine At.region ?_
  refine op_move (nxlf rfl) rfl rfl ?_
  refine op_nilChk (nxlf rfl) rfl rfl ?_
  refine op_fieldAddr (nxlf rfl) fl66_0 rfl rfl ?_
  refine op_loadB (nxlf rfl) sc64 rfl Bx (by first | rfl) mem0 rfl ?_
  refine op_eqPN (nxlf rfl) Tryd.underlying64 rfl rfl rfl ?_
  refine At.opsNil ?_
  refine At.norm (hk_1 ?_)
  refine At.condF rfl ?_
  refine At.seq fun K2 hk_2 => ?_
  refine At.region ?_
  refine op_move (nxlf rfl) rfl rfl ?_
  refine op_nilChk (nxlf rfl) rfl rfl ?_
  refine op_fieldAddr (nxlf rfl) fl66_0 rfl rfl ?_
  refine op_loadB (nxlf rfl) sc64 rfl Bx (by first | rfl) mem0 rfl ?_
  refine op_move (nxlf rfl) rfl rfl ?_
  refine op_nePS (nxlf rfl) Tryd.underlying64 hj rfl rfl rfl ?_
  refine At.opsNil ?_
  refine At.norm (hk_2 ?_)
  refine At.condF rfl ?_
  refine At.skip ?_
  refine At.retNE (L1 := [Nx]) rfl .nil rfl (.refl _) (.refl _) ?_
  exact ⟨rfl, Nx, rfl, Bx⟩
theorem FCopy_f (hp : p = none ∨ p = some ⟨b, 0, none⟩) (Bx : Blk Nx b 66 [.pointer p, sl]) : Fn Tryd.prog 60 #[.pointer (some ⟨b, 0, none⟩)] [Nx] [] (fun v L => v = .tuple #[] ∧ ∃ M, L = [M] ∧ Blk M b 66 [.pointer (some ⟨b, 0, none⟩), sl]) := by
  rcases hp with rfl | rfl
  · exact FCopy_n Bx
  · exact FCopy_s Bx
/-- What a writing method leaves: the builder, and its bytes. -/
def BldP (b m : Nat) (l : List UInt8) (L : List Heaplet) : Prop := ∃ M K a c, L = [M, K] ∧ Blk M b 66 [.pointer (some ⟨b, 0, none⟩), .slice a m c] ∧ Row K 5 1 a m c (u8s l)
theorem FWByte_f (hp : p = none ∨ p = some ⟨b, 0, none⟩) (Bx : Blk Nx b 66 [.pointer p, .slice a n c]) (hr : Row Nr 5 1 a n c (u8s l)) (hn : n ≤ 35184372088832) (x : UInt8) : Fn Tryd.prog 30 #[.pointer (some ⟨b, 0, none⟩), .int .u8 (x.toNat : Int)] [Nx, Nr] [] (fun v L => v = .nilIface ∧ BldP b (n + 1) (l ++ [x]) L) := by
  refine Fn.enter (vs := [.pointer (some ⟨b, 0, none⟩), .int .u8 (x.toNat : Int)]) Tryd.func30 rfl rfl rfl ?_
  intro E R hR
  change At _ _ E [Nx, Nr, R] _
  refine At.seq fun K1 hk_1 => ?_
  refine At.region ?_
  refine op_assign (nxlf rfl) rfl rfl ?_
  refine At.opsNil ?_
  refine At.norm (hk_1 ?_)
  refine At.seq fun K2 hk_2 => ?_
  refine At.region ?_
  refine op_move (nxlf rfl) rfl rfl ?_
  refine op_call (nxl rfl) (.cons rfl .nil) (FCopy_f hp Bx) (F := [Nr, R]) Tryd.func60 rfl rfl (.refl _) (by simp) rfl ?_
  rintro v6 L6 ⟨rfl, Nx, rfl, Bx⟩
  change At _ _ _ [Nx, Nr, R] _
  refine At.opsNil ?_
  refine At.norm (hk_2 ?_)
  refine At.seq fun K3 hk_3 => ?_
  refine At.region ?_
  refine op_move (nxlf rfl) rfl rfl ?_
  refine op_move (nxlf rfl) rfl rfl ?_
  refine op_nilChk (nxlf rfl) rfl rfl ?_
  refine op_fieldAddr (nxlf rfl) fl66_1 rfl rfl ?_
  refine op_loadB (nxlf rfl) sc22 rfl Bx (by first | rfl) mem0 rfl ?_
  refine op_move (nxlf rfl) rfl rfl ?_
  refine op_lit (nxla rfl) Tryd.underlying22 ze5 sz5 (.cons rfl .nil) rfl rfl (by simp [Value.cells]) rfl rfl rfl (fun N13 a13 r13 => ?_)
  simp only [flatV, List.flatMap_cons, List.flatMap_nil, Value.cells, List.append_nil, List.cons_append, List.nil_append] at r13
  have s13 := r13.rsl
  change Row N13 _ 1 a13 1 1 (u8s [x]) at r13
  have s13 := r13.rsl
  refine op_append (nxl rfl) Tryd.underlying22 Tryd.underlying22 te5 rfl rfl hr s13 (by first | exact mem0 | exact mem1 | exact mem2 | exact mem3 | exact mem4 | exact mem5 | exact mem6 | exact mem7 | exact mem8 | exact mem9) (by first | exact one_u8s _ | exact one_u64s _ | exact one_u32s _ | (intro u hu; simp at hu; subst hu; rfl)) (by omega) (by omega) sel2 rfl (fun N14 a14 p14 r14 => ?_)
  have s14 := r14.rsl
  refine op_nilChk (nxlf rfl) rfl rfl ?_
  refine op_fieldAddr (nxlf rfl) fl66_1 rfl rfl ?_
  refine op_store (nxl rfl) sz22 rfl rfl rfl rfl rfl Bx (by simp) sel2 (fun Nx Bx => ?_)
  simp only [setL, List.set] at Bx
  refine At.opsNil ?_
  refine At.norm (hk_3 ?_)
  refine At.seq fun K4 hk_4 => ?_
  refine At.region ?_
  refine op_assign (nxlf rfl) rfl rfl ?_
  refine At.opsNil ?_
  refine At.norm (hk_4 ?_)
  refine At.ret (?_)
  refine At.sub (L' := [Nx, N14, R]) (.cons_cons _ (.cons_cons _ (.cons _ (.cons_cons _ (.slnil))))) ?_
  refine At.ret1 (L1 := [Nx, N14]) rfl (.tmp rfl .nil) (.refl _) (.refl _) ?_
  exact ⟨rfl, Nx, N14, a14, p14, rfl, Bx, by rw [show u8s (l ++ [x]) = u8s l ++ u8s [x] by simp [u8s]]; exact r14⟩
theorem FWStr_f (hp : p = none ∨ p = some ⟨b, 0, none⟩) (Bx : Blk Nx b 66 [.pointer p, .slice a n c]) (hr : Row Nr 5 1 a n c (u8s l)) (xs : List UInt8) (hn : n + xs.length ≤ 35184372088832) : Fn Tryd.prog 29 #[.pointer (some ⟨b, 0, none⟩), str xs] [Nx, Nr] [] (fun v L => v = .tuple #[.int .i64 (xs.length : Int), .nilIface] ∧ BldP b (n + xs.length) (l ++ xs) L) := by
  obtain ⟨i, hi, hz, hsz, hby, _, _⟩ := te5
  refine Fn.enter (vs := [.pointer (some ⟨b, 0, none⟩), str xs]) Tryd.func29 rfl rfl rfl ?_
  intro E R hR
  change At _ _ E [Nx, Nr, R] _
  refine At.seq fun K1 hk_1 => ?_
  refine At.region ?_
  refine op_assign (nxlf rfl) rfl rfl ?_
  refine op_assign (nxlf rfl) rfl rfl ?_
  refine At.opsNil ?_
  refine At.norm (hk_1 ?_)
  refine At.seq fun K2 hk_2 => ?_
  refine At.region ?_
  refine op_move (nxlf rfl) rfl rfl ?_
  refine op_call (nxl rfl) (.cons rfl .nil) (FCopy_f hp Bx) (F := [Nr, R]) Tryd.func60 rfl rfl (.refl _) (by simp) rfl ?_
  rintro v7 L7 ⟨rfl, Nx, rfl, Bx⟩
  change At _ _ _ [Nx, Nr, R] _
  refine At.opsNil ?_
  refine At.norm (hk_2 ?_)
  refine At.seq fun K3 hk_3 => ?_
  refine At.region ?_
  refine op_move (nxlf rfl) rfl rfl ?_
  refine op_move (nxlf rfl) rfl rfl ?_
  refine op_nilChk (nxlf rfl) rfl rfl ?_
  refine op_fieldAddr (nxlf rfl) fl66_1 rfl rfl ?_
  refine op_loadB (nxlf rfl) sc22 rfl Bx (by first | rfl) mem0 rfl ?_
  refine op_move (nxlf rfl) rfl rfl ?_
  refine op_appendS (nxl rfl) Tryd.underlying22 Tryd.underlying9 hi hz hsz hby rfl rfl hr (by omega) sel1 rfl (fun N14 a14 p14 r14 => ?_)
  refine op_nilChk (nxlf rfl) rfl rfl ?_
  refine op_fieldAddr (nxlf rfl) fl66_1 rfl rfl ?_
  refine op_store (nxl rfl) sz22 rfl rfl rfl rfl rfl Bx (by simp) sel1 (fun Nx Bx => ?_)
  simp only [setL, List.set] at Bx
  refine At.opsNil ?_
  refine At.norm (hk_3 ?_)
  refine At.seq fun K4 hk_4 => ?_
  refine At.region ?_
  refine op_move (nxlf rfl) rfl rfl ?_
  refine op_lenStr (nxlf rfl) Tryd.underlying9 rfl rfl ?_
  refine op_assign (nxlf rfl) rfl rfl ?_
  refine op_assign (nxlf rfl) rfl rfl ?_
  refine At.opsNil ?_
  refine At.norm (hk_4 ?_)
  refine At.ret (?_)
  refine At.retN (L1 := [Nx, N14]) rfl (.tmp rfl (.tmp rfl .nil)) rfl (.refl _) (.refl _) ?_
  exact ⟨rfl, Nx, N14, a14, p14, rfl, Bx, by rw [show u8s (l ++ xs) = u8s l ++ u8s xs by simp [u8s]]; exact r14⟩
theorem FString_f (Bx : Blk Nx b 66 [q, .slice a n c]) (hr : Row Nr 5 1 a n c (u8s l)) (h0 : 0 < n) : Fn Tryd.prog 31 #[.pointer (some ⟨b, 0, none⟩)] [Nx, Nr] [] (fun v L => v = str l ∧ L = []) := by
  have hc1 := hr.2.1
  have hc2 : c ≤ 9223372036854775807 := hr.2.2.1
  obtain ⟨g, rfl⟩ : ∃ g, a = some ⟨g, 0, none⟩ := by
    rcases hr.2.2.2 with ⟨_, h, _⟩ | ⟨g, _, h, _⟩
    · omega
    · exact ⟨g, h⟩
  refine Fn.enter (vs := [.pointer (some ⟨b, 0, none⟩)]) Tryd.func31 rfl rfl rfl ?_
  intro E R hR
  change At _ _ E [Nx, Nr, R] _
  refine At.seq fun K1 hk_1 => ?_
  refine At.region ?_
  refine op_assign (nxlf rfl) rfl rfl ?_
  refine At.opsNil ?_
  refine At.norm (hk_1 ?_)
  refine At.seq fun K2 hk_2 => ?_
  refine At.drawn [10] [0,1,2,3,5,6,7,8,9,4,10,11] (by kernel_rfl) (by kernel_rfl) ?_
  refine op_move (nxof rfl rfl rfl (by kernel_rfl)) rfl rfl ?_
  refine op_nilChk (nxof rfl rfl rfl (by kernel_rfl)) rfl rfl ?_
  refine op_fieldAddr (nxof rfl rfl rfl (by kernel_rfl)) fl66_1 rfl rfl ?_
  refine op_loadB (nxof rfl rfl rfl (by kernel_rfl)) sc22 rfl Bx (by first | rfl) mem0 rfl ?_
  refine op_move (nxof rfl rfl rfl (by kernel_rfl)) rfl rfl ?_
  refine op_nilChk (nxof rfl rfl rfl (by kernel_rfl)) rfl rfl ?_
  refine op_fieldAddr (nxof rfl rfl rfl (by kernel_rfl)) fl66_1 rfl rfl ?_
  refine op_loadB (nxof rfl rfl rfl (by kernel_rfl)) sc22 rfl Bx (by first | rfl) mem0 rfl ?_
  refine op_lenS (nxof rfl rfl rfl (by kernel_rfl)) se22 rfl rfl ?_
  -- an operation that writes, not last
  refine op_sliceData (nxoa rfl rfl rfl) rfl (by omega) rfl ?_
  refine op_unsafeStr (nxos rfl rfl rfl rfl) Tryd.underlying100 (by kernel_rfl) rfl rfl hr h0 (by omega) sel1 rfl ?_
  refine op_assign (nxof rfl rfl rfl (by kernel_rfl)) rfl rfl ?_
  refine At.oneNil ?_
  refine At.norm (hk_2 ?_)
  refine At.ret (?_)
  refine At.sub (L' := [R]) (.cons _ (.cons_cons _ (.slnil))) ?_
  refine At.ret1 (L1 := []) rfl (.tmp rfl .nil) (.refl _) (.refl _) ?_
  exact ⟨rfl, rfl⟩
end
end Go.Proofs.YtlkjfbfenpkmhaaDoor
/- Helps: contracts out of the kit's form, strings joined, quarrykeep.Twin. No condition. -/
namespace Go.Proofs.YtlkjfbfenpkmhaaDoor
set_option linter.unusedVariables false
set_option linter.unusedSimpArgs false
open Go Go.RowKit
theorem Fn.of_val {P : Program} {f : FuncId} {args : Array Value} {Lr : List Heaplet} {X : Value} (h : ∀ w, (∀ N ∈ Lr, N.le (whole w)) → Calls P f args w (Ret w fun v _ => v = X)) : Fn P f args [] Lr (fun v L => v = X ∧ L = []) :=
  Fn.of_ret h fun _ _ _ hv _ => ⟨[], ⟨hv, rfl⟩, fun N hN => absurd hN List.not_mem_nil, .nil⟩
theorem Fn.of_same0 {P : Program} {f : FuncId} {args : Array Value} {X : Value} (h : ∀ w, Calls P f args w fun e w' => e = .returned X ∧ w' = w) : Fn P f args [] [] (fun v L => v = X ∧ L = []) :=
  Fn.of_val fun w _ => (h w).mono fun e w' ⟨he, hw⟩ => by subst he; subst hw; exact ⟨_, rfl, rfl, Below.refl _ _⟩
theorem Fn.of_alloc {P : Program} {f : FuncId} {args : Array Value} {Lr : List Heaplet} {X : Value} {o : Obj} (h : ∀ w, (∀ N ∈ Lr, N.le (whole w)) → Calls P f args w fun e w' => e = .returned X ∧ w' = w.alloc o) : Fn P f args [] Lr (fun v L => v = X ∧ L = []) :=
  Fn.of_val fun w hr => (h w hr).mono fun e w' ⟨he, hw⟩ => by subst he; subst hw; exact ⟨_, rfl, rfl, (Below.refl _ _).alloc (Nat.le_refl _) _⟩
section
variable {P : Program} {n : Nat} {l : List (Nat × Value)} {E : World} {L Ls : List Heaplet} {X Y : Act → World → Prop} {d : Nat} {t t' ty : TypeId} {x y : Operand}
theorem bytes_join (a b : List UInt8) : (⟨a.toArray⟩ ++ ⟨b.toArray⟩ : ByteArray) = ⟨(a ++ b).toArray⟩ := by
  apply ByteArray.ext
  simp
theorem op_addS {a b : List UInt8} {pos : _} {aft : _} {g : _} (s : NxF P n l E L Ls ⟨some d, .binOp .add t x y t', ty, pos, aft, g⟩ X Y) (hx : ev l x = some (str a)) (hy : ev l y = some (str b)) (hl : a.length + b.length ≤ 9223372036854775807) (hn : Nat.ble (d + 1) n = true) (h : At n ((d, str (a ++ b)) :: l) E L Y) : At n l E L X :=
  op_bin s hx hy (fun w => eqGuard_string w) (fun w => by
    have e : ¬ (((⟨a.toArray⟩ : ByteArray).size + (⟨b.toArray⟩ : ByteArray).size : Nat) : Int) > IntKind.i64.max := by
      have e1 : (⟨a.toArray⟩ : ByteArray).size = a.length := rfl
      have e2 : (⟨b.toArray⟩ : ByteArray).size = b.length := rfl
      have e3 : IntKind.i64.max = 9223372036854775807 := rfl
      rw [e1, e2, e3]; omega
    simp only [str, binOp, Op.stringOp]
    rw [if_neg e, bytes_join]; rfl) hn h
end
theorem KTwin_f {N : Heaplet} {ao : Option Addr} {n cap : Nat} {l : List UInt8} (h : RSl N 1 ao n cap (u8s l)) (m : Nat) (q : Int) (hq : q = (m : Int)) (hm : m ≤ 140737488351232) :
    Fn Tryd.prog 8 #[.slice ao n cap, .int .i64 q] [] [N] (fun v L => ∃ M a c, v = .slice a (l.take m).length c ∧ L = [M] ∧ Row M 5 1 a (l.take m).length c (u8s (l.take m))) := by
  have hlen := h.len8
  have hcap := h.cap63
  refine Fn.enter (vs := [.slice ao n cap, .int .i64 q]) Tryd.func8 rfl rfl rfl ?_
  intro E R hR
  have h := h.le (hR N (by simp))
  change At _ _ E [R] _
  refine At.seq fun K1 hk_1 => ?_
  refine At.region ?_
  refine op_assign (nxlf rfl) rfl rfl ?_
  refine At.opsNil ?_
  refine At.norm (hk_1 ?_)
  refine At.seq fun K2 hk_2 => ?_
  refine At.seq fun K3 hk_3 => ?_
  refine At.region ?_
  refine op_move (nxlf rfl) rfl rfl ?_
  refine op_lenS (nxlf rfl) se22 rfl rfl ?_
  refine op_move (nxlf rfl) rfl rfl ?_
  refine op_gtr (nxlf rfl) rfl rfl rfl ?_
  refine At.opsNil ?_
  refine At.norm (hk_3 ?_)
  refine At.condP rfl (fun c8 => ?_) (fun c8 => ?_)
  · refine At.region ?_
    refine op_move (nxlf rfl) rfl rfl ?_
    refine op_move (nxlf rfl) rfl rfl ?_
    refine op_slice0 (nxlf rfl) se22 rfl (.some rfl (show _ = (((m : Nat)) : Int) from by omega)) .none (by omega) (by omega) (by simp) rfl ?_
    have s11 := h.take8 (hi := m) (m := cap) (by omega) (by omega) (by omega)
    refine op_assign (nxlf rfl) rfl rfl ?_
    refine At.opsNil ?_
    refine At.norm (hk_2 ?_)
    refine At.seq fun K4 hk_4 => ?_
    refine At.region ?_
    refine op_lit (nxla rfl) Tryd.underlying22 ze5 sz5 .nil rfl rfl (by simp [Value.cells]) rfl rfl rfl (fun N12 a12 r12 => ?_)
    simp only [flatV, List.flatMap_cons, List.flatMap_nil, Value.cells, List.append_nil, List.cons_append, List.nil_append] at r12
    have s12 := r12.rsl
    refine op_move (nxlf rfl) rfl rfl ?_
    refine op_append (nxl rfl) Tryd.underlying22 Tryd.underlying22 te5 rfl rfl r12 (by assumption) (by first | exact mem0 | exact mem1 | exact mem2 | exact mem3 | exact mem4 | exact mem5 | exact mem6 | exact mem7 | exact mem8 | exact mem9) (by first | exact one_u8s _ | exact one_u64s _ | exact one_u32s _ | (intro u hu; simp at hu; subst hu; rfl)) (by omega) (by omega) sel0 rfl (fun N14 a14 p14 r14 => ?_)
    have s14 := r14.rsl
    refine op_assign (nxlf rfl) rfl rfl ?_
    refine At.opsNil ?_
    refine At.norm (hk_4 ?_)
    refine At.ret (?_)
    refine At.ret1 (L1 := [N14]) rfl (.tmp rfl .nil) (.refl _) (.refl _) ?_
    rw [List.nil_append, Nat.zero_add] at r14
    exact ⟨N14, a14, p14, by rw [List.length_take, hlen, Nat.min_eq_left (by omega), Nat.zero_add], rfl, by rw [List.length_take, hlen, Nat.min_eq_left (by omega)]; exact r14⟩
  · refine At.skip ?_
    refine At.norm (hk_2 ?_)
    refine At.seq fun K5 hk_5 => ?_
    refine At.region ?_
    refine op_lit (nxla rfl) Tryd.underlying22 ze5 sz5 .nil rfl rfl (by simp [Value.cells]) rfl rfl rfl (fun N12 a12 r12 => ?_)
    simp only [flatV, List.flatMap_cons, List.flatMap_nil, Value.cells, List.append_nil, List.cons_append, List.nil_append] at r12
    have s12 := r12.rsl
    refine op_move (nxlf rfl) rfl rfl ?_
    refine op_append (nxl rfl) Tryd.underlying22 Tryd.underlying22 te5 rfl rfl r12 (by assumption) (by first | exact mem0 | exact mem1 | exact mem2 | exact mem3 | exact mem4 | exact mem5 | exact mem6 | exact mem7 | exact mem8 | exact mem9) (by first | exact one_u8s _ | exact one_u64s _ | exact one_u32s _ | (intro u hu; simp at hu; subst hu; rfl)) (by omega) (by omega) sel0 rfl (fun N14 a14 p14 r14 => ?_)
    have s14 := r14.rsl
    refine op_assign (nxlf rfl) rfl rfl ?_
    refine At.opsNil ?_
    refine At.norm (hk_5 ?_)
    refine At.ret (?_)
    refine At.ret1 (L1 := [N14]) rfl (.tmp rfl .nil) (.refl _) (.refl _) ?_
    rw [List.nil_append, Nat.zero_add] at r14
    have e : l.take m = l := List.take_of_length_le (by omega)
    exact ⟨N14, a14, p14, by rw [e, hlen, Nat.zero_add], rfl, by rw [e, hlen]; exact r14⟩
end Go.Proofs.YtlkjfbfenpkmhaaDoor
/- hexa.Text and the reference's: bytes as hex digits. Condition: at most 2^40 bytes. -/
namespace Go.Proofs.YtlkjfbfenpkmhaaDoor
set_option linter.unusedVariables false
set_option linter.unusedSimpArgs false
open Go Go.RowKit
def hexD : List UInt8 := [48, 49, 50, 51, 52, 53, 54, 55, 56, 57, 97, 98, 99, 100, 101, 102]
/-- The two digits of a byte. -/
def hexB (b : UInt8) : List UInt8 := [hexD.getD (b.toNat / 16) 0, hexD.getD (b.toNat % 16) 0]
def hexL (l : List UInt8) : List UInt8 := l.flatMap hexB
def hexT (l : List UInt8) : List UInt8 := 48 :: 120 :: hexL l
theorem hexL_len (l : List UInt8) : (hexL l).length = 2 * l.length := by
  induction l with
  | nil => rfl
  | cons b t ih => rw [hexL, List.flatMap_cons, List.length_append]; change 2 + (hexL t).length = _; rw [ih, List.length_cons]; omega
theorem hexT_len (l : List UInt8) : (hexT l).length = 2 * l.length + 2 := by rw [hexT, List.length_cons, List.length_cons, hexL_len]
theorem hexL_take {l : List UInt8} {k : Nat} (h : k < l.length) : hexL (l.take (k + 1)) = hexL (l.take k) ++ hexB (l.getD k 0) := by
  have e : l.take (k + 1) = l.take k ++ [l.getD k 0] := by
    rw [List.take_add_one, List.getD_eq_getElem?_getD, List.getElem?_eq_getElem h]; rfl
  rw [e]
  simp [hexL, List.flatMap_append]
theorem shr4 : ∀ n : Nat, n < 256 → (n : Int) / 2 ^ (min (4 : Int).toNat IntKind.u8.bits) = ((n / 16 : Nat) : Int) := by
  intro n h
  show (n : Int) / 2 ^ 4 = _
  omega
theorem and15 : ∀ n : Nat, n < 256 → bits .and .u8 (n : Int) 15 = ((n % 16 : Nat) : Int) := by decide +kernel
theorem hexD_len : hexD.length = 16 := rfl
section
variable {N : Heaplet} {ao : Option Addr} {n cap : Nat} {l : List UInt8}
set_option maxRecDepth 100000 in
theorem FText_f (h : RSl N 1 ao n cap (u8s l)) (hn : n ≤ 1099511627776) : Fn Tryd.prog 9 #[.slice ao n cap] [] [N] (fun v L => v = str (hexT l) ∧ L = []) := by
  have hlen := h.len8
  refine Fn.enter (vs := [.slice ao n cap]) Tryd.func9 rfl rfl rfl ?_
  intro E R hR
  have h := h.le (hR N (by simp))
  change At _ _ E [R] _
  refine At.seq fun K1 hk_1 => ?_
  refine At.region ?_
  refine op_assign (nxlf rfl) rfl rfl ?_
  refine At.opsNil ?_
  refine At.norm (hk_1 ?_)
  refine At.seq fun K2 hk_2 => ?_
  refine At.region ?_
  refine op_alloc (nxla rfl) ze66 rfl (fun N3 b3 B3 => ?_)
  change Blk N3 b3 _ [.pointer none, .slice none 0 0] at B3
  refine At.opsNil ?_
  refine At.norm (hk_2 ?_)
  refine At.seq fun K3 hk_3 => ?_
  refine At.region ?_
  refine At.empty ?_
  refine At.perm sel2 ?_
  refine At.perm sel1 ?_
  refine At.perm sel2 ?_
  refine op_call (nxl rfl) (.cons rfl (.cons rfl .nil)) (FWStr_f (.inl rfl) B3 (show Row nilH 5 1 none 0 0 (u8s []) from Row.nil _ _ _) [48, 120] (by decide)) (F := [R]) Tryd.func29 rfl rfl (.refl _) (by simp) rfl ?_
  rintro v6 L6 ⟨rfl, N3, M6, a6, c6, rfl, B3, r6⟩
  change At _ _ _ [N3, M6, R] _
  refine At.opsNil ?_
  refine At.norm (hk_3 ?_)
  refine At.seq fun K4 hk_4 => ?_
  refine At.seq fun K5 hk_5 => ?_
  refine At.region ?_
  refine op_move (nxlf rfl) rfl rfl ?_
  refine op_lenS (nxlf rfl) se22 rfl rfl ?_
  refine op_move (nxlf rfl) rfl rfl ?_
  refine At.opsNil ?_
  refine At.norm (hk_5 ?_)
  refine At.block ?_
  refine At.loop (fun fr_ hp_ ms_ => ∃ (k m : Nat) (a : Option Addr) (c : Nat) (Na N3 : Heaplet), fr_ = [(3, .pointer (some ⟨b3, 0, none⟩)), (7, .slice ao n cap), (8, .int .i64 (n : Int)), (9, .int .i64 (k : Int))] ∧ hp_ = [N3, Na, R] ∧ n - k = ms_ ∧ (k ≤ n) ∧ (m = 2 * k + 2) ∧ (Blk N3 b3 66 [.pointer (some ⟨b3, 0, none⟩), .slice a m c]) ∧ (Row Na 5 1 a m c (u8s (hexT (l.take k))))) ?_ (.refl _) ⟨0, _, a6, c6, M6, N3, rfl, rfl, rfl, Nat.zero_le _, rfl, B3, r6⟩ ?_
  · exact .cons (by first | exact lkI rfl (by omega) | rfl) (.cons (by first | exact lkI rfl (by omega) | rfl) (.cons (by first | exact lkI rfl (by omega) | rfl) (.cons (by first | exact lkI rfl (by omega) | rfl) .nil)))
  rintro _ _ _ ⟨k, m, a, c, Na, N3, rfl, rfl, rfl, hk, hm, B3, ra⟩
  refine At.seq fun K6 hk_6 => ?_
  refine At.region ?_
  refine op_lss (nxlf rfl) rfl rfl rfl ?_
  refine At.opsNil ?_
  refine At.norm (hk_6 ?_)
  refine At.seq fun K7 hk_7 => ?_
  refine At.condP rfl (fun c10 => ?_) (fun c10 => ?_)
  · refine At.skip ?_
    refine At.norm (hk_7 ?_)
    refine At.seq fun K8 hk_8 => ?_
    refine At.block ?_
    refine At.seq fun K9 hk_9 => ?_
    refine At.region ?_
    refine op_idx1 (nxlf rfl) se22 rfl rfl h (show _ = (((k : Nat)) : Int) from by omega) (by omega) rfl ?_
    refine op_loadE (nxlf rfl) sc5 rfl h (by first | exact get8 (by omega) | exact get64 (by omega) | exact get32 (by omega)) (by first | exact mem0 | exact mem1 | exact mem2 | exact mem3 | exact mem4 | exact mem5 | exact mem6 | exact mem7 | exact mem8 | exact mem9) rfl ?_
    have hx := (l.getD k 0).toNat_lt
    refine op_assign (nxlf rfl) rfl rfl ?_
    refine At.opsNil ?_
    refine At.norm (hk_9 ?_)
    refine At.seq fun K10 hk_10 => ?_
    refine At.region ?_
    refine op_move (nxlf rfl) rfl rfl ?_
    refine op_shrW (nxlf rfl) rfl rfl (by omega) (by omega) rfl ?_
    rw [shr4 _ hx]
    refine op_idxS (bs := hexD) (nxlf rfl) Tryd.underlying9 rfl rfl (show _ = ((((l.getD k 0).toNat / 16 : Nat)) : Int) from by omega) (by rw [hexD_len]; omega) rfl ?_
    refine op_call (nxl rfl) (.cons rfl (.cons rfl .nil)) (FWByte_f (.inr rfl) B3 ra (by omega) (hexD.getD ((l.getD k 0).toNat / 16) 0)) (F := [R]) Tryd.func30 rfl rfl (.refl _) (by simp) rfl ?_
    rintro v16 L16 ⟨rfl, N3, N16, a16, c16, rfl, B3, r16⟩
    change At _ _ _ [N3, N16, R] _
    refine At.opsNil ?_
    refine At.norm (hk_10 ?_)
    refine At.region ?_
    refine op_move (nxlf rfl) rfl rfl ?_
    refine op_bits (by simp) (nxlf rfl) rfl rfl rfl ?_
    rw [and15 _ hx]
    refine op_idxS (bs := hexD) (nxlf rfl) Tryd.underlying9 rfl rfl (show _ = ((((l.getD k 0).toNat % 16 : Nat)) : Int) from by omega) (by rw [hexD_len]; omega) rfl ?_
    refine op_call (nxl rfl) (.cons rfl (.cons rfl .nil)) (FWByte_f (.inr rfl) B3 r16 (by omega) (hexD.getD ((l.getD k 0).toNat % 16) 0)) (F := [R]) Tryd.func30 rfl rfl (.refl _) (by simp) rfl ?_
    rintro v20 L20 ⟨rfl, N3, N20, a20, c20, rfl, B3, r20⟩
    change At _ _ _ [N3, N20, R] _
    refine At.opsNil ?_
    refine At.inNorm ?_
    refine At.norm (hk_8 ?_)
    refine At.region ?_
    refine op_addI (nxlf rfl) rfl rfl (by omega) (by omega) rfl ?_
    refine op_move (nxlf rfl) rfl rfl ?_
    refine At.opsNil ?_
    refine At.norm ?_
    refine At.back ?_ (.refl _) ⟨k + 1, m + 1 + 1, a20, c20, N20, N3, rfl, rfl, rfl, by omega, by omega, B3, by rw [hexT, hexL_take (by omega)]; have e := r20; simp only [hexT, List.cons_append, List.append_assoc] at e; exact e⟩ ?_
    · exact .cons (by first | exact lkI rfl (by omega) | rfl) (.cons (by first | exact lkI rfl (by omega) | rfl) (.cons (by first | exact lkI rfl (by omega) | rfl) (.cons (by first | exact lkI rfl (by omega) | rfl) .nil)))
    · omega
  · refine At.exit (At.thenExit (At.thenExit (At.inHit ?_)))
    refine At.norm (hk_4 ?_)
    refine At.seq fun K11 hk_11 => ?_
    refine At.region ?_
    refine op_call (nxl rfl) (.cons rfl .nil) (FString_f B3 ra (by omega)) (F := [R]) Tryd.func31 rfl rfl (.refl _) (by simp) rfl ?_
    rintro v22 L22 ⟨rfl, rfl⟩
    change At _ _ _ [R] _
    refine op_assign (nxlf rfl) rfl rfl ?_
    refine At.opsNil ?_
    refine At.norm (hk_11 ?_)
    refine At.ret (?_)
    refine At.ret1 (L1 := []) rfl (.tmp rfl .nil) (.refl _) (.refl _) ?_
    exact ⟨by rw [List.take_of_length_le (by omega)], rfl⟩
end
end Go.Proofs.YtlkjfbfenpkmhaaDoor
/- Contracts of Go's library at this program, in plain words (written by the kit's tool lay-plain). No condition. -/
namespace Go.Proofs
set_option linter.unusedVariables false
set_option linter.unusedSimpArgs false
open Go.Shelf
def Tryd.lays137_ren : Go.Shelf.Ren := ⟨fun | 137 => 90 | 217 => 102 | 266 => 108 | n => n, fun | 9 => 9 | 5 => 5 | 3 => 3 | n => n, fun | n => n⟩
theorem Tryd.lays137 : Go.Proofs.Lays.n137 Tryd.prog Tryd.lays137_ren := {
  mixed := by kernel_rfl
  f137 := Tryd.func90.trans (congrArg some (by kernel_rfl))
  f217 := Tryd.func102.trans (congrArg some (by kernel_rfl))
  f266 := Tryd.func108.trans (congrArg some (by kernel_rfl))
  t3 := Tryd.underlying3
  a3 := Tryd.isAgg3
  z3 := Tryd.sizeOf3
  v3 := Tryd.zeroValue3
  t5 := Tryd.underlying5
  a5 := Tryd.isAgg5
  z5 := Tryd.sizeOf5
  v5 := Tryd.zeroValue5
  t9 := Tryd.underlying9
  a9 := Tryd.isAgg9
  z9 := Tryd.sizeOf9
  v9 := Tryd.zeroValue9 }
open Go.RowKit in
theorem Tryd.strings_IndexByte (s : ByteArray) (c : Int) (w : World) :
    Calls Tryd.prog 90 #[.string s, .int .u8 c] w fun e w' => e = .returned (.int .i64 (Lib.indexByte s.data.toList c.toNat.toUInt8)) ∧ w' = w := Any.strings_IndexByte Tryd.lays137 s c w
def Tryd.lays203_ren : Go.Shelf.Ren := ⟨fun | 203 => 56 | 262 => 77 | 313 => 88 | 274 => 99 | 275 => 100 | n => n, fun | 21 => 21 | 4 => 4 | 3 => 3 | 162 => 143 | 203 => 141 | 160 => 151 | 46 => 72 | 0 => 0 | 208 => 165 | 51 => 107 | 206 => 163 | n => n, fun | 13 => 0 | n => n⟩
theorem Tryd.lays203 : Go.Proofs.Lays.n203 Tryd.prog Tryd.lays203_ren := {
  mixed := by kernel_rfl
  f203 := Tryd.func56.trans (congrArg some (by kernel_rfl))
  f262 := Tryd.func77.trans (congrArg some (by kernel_rfl))
  f274 := Tryd.func99.trans (congrArg some (by kernel_rfl))
  f275 := Tryd.func100.trans (congrArg some (by kernel_rfl))
  f313 := Tryd.func88.trans (congrArg some (by kernel_rfl))
  t0 := Tryd.underlying0
  a0 := Tryd.isAgg0
  z0 := Tryd.sizeOf0
  v0 := Tryd.zeroValue0
  t3 := Tryd.underlying3
  a3 := Tryd.isAgg3
  z3 := Tryd.sizeOf3
  v3 := Tryd.zeroValue3
  t4 := Tryd.underlying4
  a4 := Tryd.isAgg4
  z4 := Tryd.sizeOf4
  v4 := Tryd.zeroValue4
  t21 := Tryd.underlying21
  a21 := Tryd.isAgg21
  z21 := Tryd.sizeOf21
  v21 := Tryd.zeroValue21
  t46 := Tryd.underlying72
  a46 := Tryd.isAgg72
  z46 := Tryd.sizeOf72
  v46 := Tryd.zeroValue72
  t51 := Tryd.underlying107
  a51 := Tryd.isAgg107
  z51 := Tryd.sizeOf107
  v51 := Tryd.zeroValue107
  t160 := Tryd.underlying151
  a160 := Tryd.isAgg151
  z160 := Tryd.sizeOf151
  v160 := Tryd.zeroValue151
  t162 := Tryd.underlying143
  a162 := Tryd.isAgg143
  z162 := Tryd.sizeOf143
  v162 := Tryd.zeroValue143
  t203 := Tryd.underlying141
  a203 := Tryd.isAgg141
  z203 := Tryd.sizeOf141
  v203 := Tryd.zeroValue141
  t206 := Tryd.underlying163
  a206 := Tryd.isAgg163
  z206 := Tryd.sizeOf163
  v206 := Tryd.zeroValue163
  t208 := Tryd.underlying165
  a208 := Tryd.isAgg165
  z208 := Tryd.sizeOf165
  v208 := Tryd.zeroValue165
  g13 := by kernel_rfl }
open Go.RowKit Go.Lib in
theorem Tryd.unicode_ToUpper (r : Int) (w : World) (h : r ≤ 127) :
    Calls Tryd.prog 56 #[.int .i32 r] w fun e w' => e = .returned (.int .i32 (Lib.toUpperR r)) ∧ w' = w := Any.unicode_ToUpper Tryd.lays203 r w h
def Tryd.lays204_ren : Go.Shelf.Ren := ⟨fun | 204 => 80 | 262 => 77 | 313 => 88 | 274 => 99 | 275 => 100 | n => n, fun | 21 => 21 | 4 => 4 | 3 => 3 | 162 => 143 | 203 => 141 | 160 => 151 | 46 => 72 | 0 => 0 | 208 => 165 | 51 => 107 | 206 => 163 | n => n, fun | 13 => 0 | n => n⟩
theorem Tryd.lays204 : Go.Proofs.Lays.n204 Tryd.prog Tryd.lays204_ren := {
  mixed := by kernel_rfl
  f204 := Tryd.func80.trans (congrArg some (by kernel_rfl))
  f262 := Tryd.func77.trans (congrArg some (by kernel_rfl))
  f274 := Tryd.func99.trans (congrArg some (by kernel_rfl))
  f275 := Tryd.func100.trans (congrArg some (by kernel_rfl))
  f313 := Tryd.func88.trans (congrArg some (by kernel_rfl))
  t0 := Tryd.underlying0
  a0 := Tryd.isAgg0
  z0 := Tryd.sizeOf0
  v0 := Tryd.zeroValue0
  t3 := Tryd.underlying3
  a3 := Tryd.isAgg3
  z3 := Tryd.sizeOf3
  v3 := Tryd.zeroValue3
  t4 := Tryd.underlying4
  a4 := Tryd.isAgg4
  z4 := Tryd.sizeOf4
  v4 := Tryd.zeroValue4
  t21 := Tryd.underlying21
  a21 := Tryd.isAgg21
  z21 := Tryd.sizeOf21
  v21 := Tryd.zeroValue21
  t46 := Tryd.underlying72
  a46 := Tryd.isAgg72
  z46 := Tryd.sizeOf72
  v46 := Tryd.zeroValue72
  t51 := Tryd.underlying107
  a51 := Tryd.isAgg107
  z51 := Tryd.sizeOf107
  v51 := Tryd.zeroValue107
  t160 := Tryd.underlying151
  a160 := Tryd.isAgg151
  z160 := Tryd.sizeOf151
  v160 := Tryd.zeroValue151
  t162 := Tryd.underlying143
  a162 := Tryd.isAgg143
  z162 := Tryd.sizeOf143
  v162 := Tryd.zeroValue143
  t203 := Tryd.underlying141
  a203 := Tryd.isAgg141
  z203 := Tryd.sizeOf141
  v203 := Tryd.zeroValue141
  t206 := Tryd.underlying163
  a206 := Tryd.isAgg163
  z206 := Tryd.sizeOf163
  v206 := Tryd.zeroValue163
  t208 := Tryd.underlying165
  a208 := Tryd.isAgg165
  z208 := Tryd.sizeOf165
  v208 := Tryd.zeroValue165
  g13 := by kernel_rfl }
open Go.RowKit Go.Lib in
theorem Tryd.unicode_ToLower (r : Int) (w : World) (h : r ≤ 127) :
    Calls Tryd.prog 80 #[.int .i32 r] w fun e w' => e = .returned (.int .i32 (Lib.toLowerR r)) ∧ w' = w := Any.unicode_ToLower Tryd.lays204 r w h
def Tryd.lays152_ren : Go.Shelf.Ren := ⟨fun | 152 => 81 | 137 => 90 | 119 => 91 | 224 => 92 | 225 => 93 | 217 => 102 | 266 => 108 | n => n, fun | 9 => 9 | 21 => 21 | 3 => 3 | 4 => 4 | 5 => 5 | 0 => 0 | 46 => 72 | n => n, fun | n => n⟩
theorem Tryd.lays152 : Go.Proofs.Lays.n152 Tryd.prog Tryd.lays152_ren := {
  mixed := by kernel_rfl
  f119 := Tryd.func91.trans (congrArg some (by kernel_rfl))
  f137 := Tryd.func90.trans (congrArg some (by kernel_rfl))
  f152 := Tryd.func81.trans (congrArg some (by kernel_rfl))
  f217 := Tryd.func102.trans (congrArg some (by kernel_rfl))
  f224 := Tryd.func92.trans (congrArg some (by kernel_rfl))
  f225 := Tryd.func93.trans (congrArg some (by kernel_rfl))
  f266 := Tryd.func108.trans (congrArg some (by kernel_rfl))
  t0 := Tryd.underlying0
  a0 := Tryd.isAgg0
  z0 := Tryd.sizeOf0
  v0 := Tryd.zeroValue0
  t3 := Tryd.underlying3
  a3 := Tryd.isAgg3
  z3 := Tryd.sizeOf3
  v3 := Tryd.zeroValue3
  t4 := Tryd.underlying4
  a4 := Tryd.isAgg4
  z4 := Tryd.sizeOf4
  v4 := Tryd.zeroValue4
  t5 := Tryd.underlying5
  a5 := Tryd.isAgg5
  z5 := Tryd.sizeOf5
  v5 := Tryd.zeroValue5
  t9 := Tryd.underlying9
  a9 := Tryd.isAgg9
  z9 := Tryd.sizeOf9
  v9 := Tryd.zeroValue9
  t21 := Tryd.underlying21
  a21 := Tryd.isAgg21
  z21 := Tryd.sizeOf21
  v21 := Tryd.zeroValue21
  t46 := Tryd.underlying72
  a46 := Tryd.isAgg72
  z46 := Tryd.sizeOf72
  v46 := Tryd.zeroValue72 }
open Go.RowKit Go.Lib in
theorem Tryd.strings_IndexRune_ascii (s : ByteArray) (r : Int) (w : World) (h0 : 0 ≤ r) (h1 : r < 128) :
    Calls Tryd.prog 81 #[.string s, .int .i32 r] w fun e w' => e = .returned (.int .i64 (Lib.indexByte s.data.toList r.toNat.toUInt8)) ∧ w' = w := Any.strings_IndexRune_ascii Tryd.lays152 s r w h0 h1
end Go.Proofs
