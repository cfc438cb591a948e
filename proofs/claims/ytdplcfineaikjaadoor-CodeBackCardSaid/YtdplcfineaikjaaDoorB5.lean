/- Several texts in one: see the remarks ahead of each part. No condition but those told there. -/
import Derived.Lib.MapLaws
import Derived.Test.YtdplcfineaikjaaDoorB4
import Derived.Lib.Builder
import Derived.Lib.AppendStr
import Derived.Lib.UnsafeStr
import Derived.Test.YtdplcfineaikjaaDoorProg
import Derived.WalkKit
import Derived.Shelf.Unicode.Latin
import Derived.Shelf.Strings.Runes
/- Texts as runes; hex digits read: plain words. No condition. -/
namespace Go.Proofs.YtdplcfineaikjaaDoor
set_option linter.unusedVariables false
set_option linter.unusedSimpArgs false
open Go Go.Lib
/-- The runes of a text. -/
def runeF : Nat → List UInt8 → List Nat
  | 0, _ => []
  | k + 1, l => if l = [] then [] else (decodeL l).1 :: runeF k (l.drop (decodeL l).2)
theorem drop_less {l : List UInt8} (h : l ≠ []) : (l.drop (decodeL l).2).length < l.length := by
  have := decodeL_width l
  have := List.length_pos_iff.2 h
  rw [List.length_drop]; omega
theorem runeF_fuel : ∀ (k m : Nat) (l : List UInt8), l.length ≤ k → l.length ≤ m → runeF k l = runeF m l := by
  intro k
  induction k with
  | zero =>
    intro m l h1 h2
    have : l = [] := List.eq_nil_of_length_eq_zero (by omega)
    subst this
    cases m with
    | zero => rfl
    | succ m => rfl
  | succ k ih =>
    intro m l h1 h2
    cases m with
    | zero =>
      have : l = [] := List.eq_nil_of_length_eq_zero (by omega)
      subst this; rfl
    | succ m =>
      rw [runeF, runeF]
      by_cases h : l = []
      · rw [if_pos h, if_pos h]
      · have := drop_less h
        rw [if_neg h, if_neg h, ih m (l.drop (decodeL l).2) (by omega) (by omega)]
def runesOf (l : List UInt8) : List Nat := runeF l.length l
theorem runes_nil : runesOf [] = [] := rfl
theorem runes_step {l : List UInt8} (h : l ≠ []) : runesOf l = (decodeL l).1 :: runesOf (l.drop (decodeL l).2) := by
  have := drop_less h
  rw [runesOf, runeF_fuel l.length (l.length + 1) l (by omega) (by omega), runeF, if_neg h]
  rw [runesOf, runeF_fuel l.length (l.drop (decodeL l).2).length (l.drop (decodeL l).2) (by omega) (by omega)]
theorem runes_at {l : List UInt8} {p : Nat} (h : p < l.length) : runesOf (l.drop p) = (decodeL (l.drop p)).1 :: runesOf (l.drop (p + (decodeL (l.drop p)).2)) := by
  rw [runes_step (List.ne_nil_of_length_pos (by rw [List.length_drop]; omega)), List.drop_drop]
theorem runes_end {l : List UInt8} {p : Nat} (h : l.length ≤ p) : runesOf (l.drop p) = [] := by rw [List.drop_eq_nil_of_le h]; rfl
theorem runeF_len : ∀ (k : Nat) (l : List UInt8), (runeF k l).length ≤ l.length := by
  intro k
  induction k with
  | zero => intro l; exact Nat.zero_le _
  | succ k ih =>
    intro l
    rw [runeF]
    by_cases h : l = []
    · rw [if_pos h]; exact Nat.zero_le _
    · have := ih (l.drop (decodeL l).2)
      have := drop_less h
      rw [if_neg h, List.length_cons]; omega
theorem runes_len (l : List UInt8) : (runesOf l).length ≤ l.length := runeF_len _ _
/-- What a rune may be. -/
def RuneOk (r : Nat) : Prop := r < 55296 ∨ (57344 ≤ r ∧ r ≤ 1114111)
theorem decode_ok (l : List UInt8) : RuneOk (decodeL l).1 := by
  rw [decodeL_N]
  rcases decodeN_shape l.length (l.getD 0 0).toNat (l.getD 1 0).toNat (l.getD 2 0).toNat (l.getD 3 0).toNat with ⟨c, e⟩ | ⟨c1, c2, c3, cv, e⟩ | ⟨c1, c2, c3, c4, cv, cs, e⟩ | ⟨c1, c2, c3, c4, c5, cv, cw, e⟩ | e
  all_goals
    rw [e]
    unfold RuneOk
    simp only
    omega
/-- A hex digit's value. -/
def hexV (r : Nat) : Option Nat := if 48 ≤ r ∧ r ≤ 57 then some (r - 48) else if 97 ≤ r ∧ r ≤ 102 then some (r - 87) else if 65 ≤ r ∧ r ≤ 70 then some (r - 55) else none
theorem hexV_lt {r v : Nat} (h : hexV r = some v) : v < 16 := by
  unfold hexV at h
  split at h
  · injection h; omega
  · split at h
    · injection h; omega
    · split at h
      · injection h; omega
      · cases h
theorem hexV_high {r : Nat} (h : 128 ≤ r) : hexV r = none := by
  rw [hexV, if_neg (by omega), if_neg (by omega), if_neg (by omega)]
/-- 0x, rune by rune. -/
def ox (k : Nat) : Nat := if k = 0 then 48 else 120
/-- The digits that are read, how many runes, and what is wrong (0: nothing). -/
def readF (ask : List UInt8 → Nat) : Nat → List UInt8 → List Nat → List UInt8 × Nat × Nat
  | k, acc, [] => if k < 2 then ([], k, 2) else (acc, k, 0)
  | k, acc, r :: t => if k < 2 then (if r = ox k then readF ask (k + 1) acc t else ([], k, 2)) else match hexV r with
    | none => ([], k, 2)
    | some v => if ask acc = 0 then readF ask (k + 1) (acc ++ [UInt8.ofNat v]) t else ([], k, ask acc)
variable {ask : List UInt8 → Nat} {k r : Nat} {acc : List UInt8} {t : List Nat}
theorem readF_end0 (h : k < 2) : readF ask k acc [] = ([], k, 2) := if_pos h
theorem readF_end1 (h : ¬ k < 2) : readF ask k acc [] = (acc, k, 0) := if_neg h
theorem readF_ox (h : k < 2) (hr : r = ox k) : readF ask k acc (r :: t) = readF ask (k + 1) acc t := by rw [readF, if_pos h, if_pos hr]
theorem readF_no (h : k < 2) (hr : ¬ r = ox k) : readF ask k acc (r :: t) = ([], k, 2) := by rw [readF, if_pos h, if_neg hr]
theorem readF_none (h : ¬ k < 2) (hr : hexV r = none) : readF ask k acc (r :: t) = ([], k, 2) := by rw [readF, if_neg h, hr]
theorem readF_some {v : Nat} (h : ¬ k < 2) (hr : hexV r = some v) (ha : ask acc = 0) : readF ask k acc (r :: t) = readF ask (k + 1) (acc ++ [UInt8.ofNat v]) t := by rw [readF, if_neg h, hr]; exact if_pos ha
theorem readF_ask {v : Nat} (h : ¬ k < 2) (hr : hexV r = some v) (ha : ask acc ≠ 0) : readF ask k acc (r :: t) = ([], k, ask acc) := by rw [readF, if_neg h, hr]; exact if_neg ha
end Go.Proofs.YtdplcfineaikjaaDoor
/- The engine, what strings.Builder needs: pointers compared and turned, a string appended, bytes handed over as a string. For whatever program. No condition. -/
namespace Go.Proofs.YtdplcfineaikjaaDoor
set_option linter.unusedVariables false
set_option linter.unusedSimpArgs false
open Go Go.RowKit
section
variable {P : Program} {n : Nat} {l : List (Nat × Value)} {E : World} {L L1 Ls : List Heaplet} {X Y : Act → World → Prop} {d : Nat} {t t' ty : TypeId} {x y : Operand} {N : Heaplet}
theorem eqGuard_ptr {op : BinOp} {p q : Option Addr} (w : World) : (eqGuard op t x y (.pointer p) (.pointer q)).run P w = .ok () w := by
  unfold eqGuard
  by_cases h : (!(op matches .eql | .neq)) = true <;> simp [h]
theorem op_eqPN {te : TypeId} {p : Option Addr} {pos : _} {aft : _} {g : _} (s : NxF P n l E L Ls ⟨some d, .binOp .eql t x y t', ty, pos, aft, g⟩ X Y) (ht : P.underlying t = some (.pointer te)) (hx : ev l x = some (.pointer p)) (hy : ev l y = some (.pointer none)) (hn : Nat.ble (d + 1) n = true) (h : At n ((d, .bool p.isNone) :: l) E L Y) : At n l E L X :=
  op_bin s hx hy (fun w => eqGuard_ptr w) (fun w => by
    have h : ∀ d : Nat, (Op.equalIn (d + 1) t (.pointer p) (.pointer none)).run P w = .ok p.isNone w := fun d => by
      cases p <;> simp [Op.equalIn, run_underlying ht]
    simp only [binOp]
    simp [Op.equal, Op.maxDepth, h 9999]) hn h
theorem op_nePS {te : TypeId} {j : TypeInfo} {q : Addr} {pos : _} {aft : _} {g : _} (s : NxF P n l E L Ls ⟨some d, .binOp .neq t x y t', ty, pos, aft, g⟩ X Y) (ht : P.underlying t = some (.pointer te)) (hj : P.info? te = some j) (hx : ev l x = some (.pointer (some q))) (hy : ev l y = some (.pointer (some q))) (hn : Nat.ble (d + 1) n = true) (h : At n ((d, .bool false) :: l) E L Y) : At n l E L X :=
  op_bin s hx hy (fun w => eqGuard_ptr w) (fun w => Lib.run_neq_ptr_same w q ht hj) hn h
theorem shape_of {b : Nat} {e : TypeId} {cs : List Value} {w : World} (hN : N.le (whole w)) (hb : Blk N b e cs) : w.shape? b = some (e, cs.length) := by
  have h1 : w.heap[b]? = some (.cells cs.toArray e (0, 0)) := hN _ _ hb
  simp [World.shape?, h1]
theorem op_toU {b off : Nat} {e tt : TypeId} {cs : List Value} {j : TypeInfo} {pos : _} {aft : _} {g : _} (s : NxF P n l E L Ls ⟨some d, .convert t t' x, ty, pos, aft, g⟩ X Y) (ht : P.underlying t = some (.pointer tt)) (ht' : P.underlying t' = some .unsafePointer) (hj : P.info? tt = some j) (hz : j.size ≠ 0)
    (hx : ev l x = some (.pointer (some ⟨b, off, none⟩))) (hb : Blk N b e cs) (ho : off < cs.length) (hN : N ∈ Ls) (hn : Nat.ble (d + 1) n = true) (h : At n ((d, .pointer (some ⟨b, off, none⟩)) :: l) E L Y) : At n l E L X :=
  op_val s (fun a w hf hw => by
    have e1 : (execOp a.eval ⟨some d, .convert t t' x, ty, pos, aft, g⟩) = (do let v ← convert t t' (a.eval x); pure (.value v) : Sem Next) := rfl
    rw [e1, hf.eval hx, Sem.run_bind, Lib.run_to_unsafe w ⟨b, off, none⟩ ht ht' hj hz (shape_of (hw.sub N hN) hb) ho]
    rfl) rfl hn h
theorem op_fromU {b off : Nat} {e u : TypeId} {cs : List Value} {j : TypeInfo} {pos : _} {aft : _} {g : _} (s : NxF P n l E L Ls ⟨some d, .convert t t' x, ty, pos, aft, g⟩ X Y) (ht : P.underlying t = some .unsafePointer) (ht' : P.underlying t' = some (.pointer u)) (hj : P.info? u = some j)
    (hx : ev l x = some (.pointer (some ⟨b, off, none⟩))) (hb : Blk N b e cs) (hl : liesAt P P.depth e (cs.length / P.cellsOf e) off u 1 = true) (hN : N ∈ Ls) (hn : Nat.ble (d + 1) n = true) (h : At n ((d, .pointer (some ⟨b, off, none⟩)) :: l) E L Y) : At n l E L X :=
  op_val s (fun a w hf hw => by
    have e1 : (execOp a.eval ⟨some d, .convert t t' x, ty, pos, aft, g⟩) = (do let v ← convert t t' (a.eval x); pure (.value v) : Sem Next) := rfl
    rw [e1, hf.eval hx, Sem.run_bind, Lib.run_from_unsafe w ⟨b, off, none⟩ ht ht' hj (shape_of (hw.sub N hN) hb) hl]
    rfl) rfl hn h
theorem strCells_u8s (s : List UInt8) : Lib.strCells ⟨s.toArray⟩ = u8s s := by
  rw [Lib.strCells_eq]
  simp [Lib.byteCells, u8s, vb]
theorem owns_slice {w : World} {base : Nat} {e : TypeId} {size m : Nat} {v : Value} {ys : List Value} (h : w.ownsRow base e size v m ys) : ∃ ao cap, v = .slice ao m cap := by
  obtain ⟨_, ⟨rfl, rfl⟩ | ⟨g, cap, cur, rfl, _⟩⟩ := h
  · exact ⟨none, 0, rfl⟩
  · exact ⟨_, cap, rfl⟩
/-- append of a string's bytes. -/
theorem op_appendS {e : TypeId} {i : TypeInfo} {u : TypeId} {ao : Option Addr} {len cap : Nat} {xs : List Value} {bs : List UInt8} {pos : _} {aft : _} {g : _} (s : Nx P n l E L ⟨some d, .call ⟨.builtin .append, #[x, y], #[t, u]⟩, ty, pos, aft, g⟩ X Y) (ht : P.underlying t = some (.slice e)) (hu : P.underlying u = some .string)
    (hi : P.info? e = some i) (hz : i.zero = some (.int .u8 0)) (hs : i.size = 1) (hby : i.bytes = 1)
    (hx : ev l x = some (.slice ao len cap)) (hy : ev l y = some (str bs)) (hr : Row N e 1 ao len cap xs) (hb : len + bs.length ≤ 140737488355328) (sel : L.Perm (N :: L1)) (hn : Nat.ble (d + 1) n = true)
    (h : ∀ N ao cap, Row N e 1 ao (len + bs.length) cap (xs ++ u8s bs) → At n ((d, .slice ao (len + bs.length) cap) :: l) E (N :: L1) Y) : At n l E L X := by
  refine op_upd s (fun v L' => ∃ N ao cap, v = .slice ao (len + bs.length) cap ∧ L' = N :: L1 ∧ Row N e 1 ao (len + bs.length) cap (xs ++ u8s bs)) (fun a w hf hw => ?_) rfl hn (fun v L' ⟨N, ao, cap, hv, hL, hB⟩ => by subst hv; subst hL; exact h N ao cap hB)
  have hw2 := hw.perm sel
  obtain ⟨v', w', h4, h5, h6, h7⟩ := Lib.run_append_own_string (P := P) w 0 t u ty e i ht hu hi hz hs hby (.slice ao len cap) len xs (hr.owns (hw2.sub N (List.mem_cons_self ..))) ⟨bs.toArray⟩ (by show len + bs.length ≤ maxLen; unfold maxLen; omega) hb (Nat.zero_le _)
  rw [strCells_u8s] at h5
  have h5 : w'.ownsRow 0 e 1 v' (len + bs.length) (xs ++ u8s bs) := h5
  obtain ⟨ao2, cap2, rfl⟩ := owns_slice h5
  have hbk : Value.ownBlock (.slice ao2 (len + bs.length) cap2) = Value.ownBlock (.slice ao len cap) ∨ Value.ownBlock (.slice ao2 (len + bs.length) cap2) = some w.heap.size := by
    have hsz2 : (⟨bs.toArray⟩ : ByteArray).size = bs.length := rfl
    have hxl : xs.length = len := by have := hr.1; omega
    obtain ⟨_, ⟨hv, hz0⟩ | ⟨gg, cap', cur, hv, _, hg, hnc, hcm, hcs, htake⟩⟩ := hr.owns (hw2.sub N (List.mem_cons_self ..))
    · injection hv with e1 e2 e3
      subst e1; subst e2; subst e3
      by_cases hm : bs.length = 0
      · have := h7.2 ⟨rfl, hm⟩
        injection this with e1 e2 e3
        subst e1
        exact .inl rfl
      · have hrn := run_append_nil_string (P := P) w t u ty e i (.int .u8 0) ht hu hi hz ⟨bs.toArray⟩ (by rw [hsz2]; omega) (by rw [hsz2]; omega) (by rw [hby, hsz2]; omega)
        rw [hrn] at h4
        injection h4 with e1 e2
        injection e1 with e3
        exact .inr (by rw [← e3]; rfl)
    · injection hv with e1 e2 e3
      subst e1; subst e3
      by_cases hroom : len + bs.length ≤ cap
      · have hrn := Lib.run_append_room_string (P := P) w t u ty e i ht hu hi hs gg len cap cur hg ⟨bs.toArray⟩ hroom (by rw [hsz2]; omega)
        rw [hrn] at h4
        injection h4 with e1 e2
        injection e1 with e3
        exact .inl (by rw [← e3]; rfl)
      · have hown := hr.owns (hw2.sub N (List.mem_cons_self ..))
        have holds : ∀ j u, xs[j]? = some u → w.cell? ((⟨gg, 0, none⟩ : Addr).add j) = some u := hown.cells (g := gg) rfl
        have hrn := Lib.run_append_grow_string (P := P) w t u ty e i (.int .u8 0) ht hu hi hz ⟨gg, 0, none⟩ len cap xs (by rw [hs]; omega) holds ⟨bs.toArray⟩ (by rw [hsz2]; omega) (by rw [hsz2]; omega) (by rw [hby]; exact growslice_fits (by rw [hsz2]; omega) (by rw [hsz2]; omega))
        rw [hrn] at h4
        injection h4 with e1 e2
        injection e1 with e3
        exact .inr (by rw [← e3]; rfl)
  obtain ⟨N', h8, h9⟩ := hp_append hw2 hr h5 h6 hbk
  refine ⟨_, w', _, ?_, h9, N', ao2, cap2, rfl, rfl, h8⟩
  simp only [execOp, resolve, invoke, builtin, Sem.run_bind, Sem.run_pure, Result.andThen_ok, List.map_toArray, List.map_cons, List.map_nil, hf.eval hx, hf.eval hy, str, h4]
theorem op_sliceData {ad : Addr} {len cap : Nat} {ats : Array TypeId} {pos : _} {aft : _} {g : _} (s : NxA P n l E L ⟨some d, .call ⟨.builtin .unsafeSliceData, #[x], ats⟩, ty, pos, aft, g⟩ X Y) (hx : ev l x = some (.slice (some ad) len cap)) (hc : cap ≠ 0) (hn : Nat.ble (d + 1) n = true) (h : At n ((d, .pointer (some ad)) :: l) E L Y) : At n l E L X := fun a w hf hw => by
  refine s a w hf hw ?_
  unfold Oper.wp
  have hrun : (execOp a.eval ⟨some d, .call ⟨.builtin .unsafeSliceData, #[x], ats⟩, ty, pos, aft, g⟩).run P w = .ok (.value (.pointer (some ad))) w := by
    simp only [execOp, resolve, invoke, builtin, Sem.run_bind, Sem.run_pure, Result.andThen_ok, List.map_toArray, List.map_cons, List.map_nil, hf.eval hx, Lib.run_unsafeSliceData_row w ats ty ad len cap hc]
  rw [hrun]
  exact ⟨fun _ _ => rfl, h _ _ (hf.put (Nat.le_of_ble_eq_true hn)) hw⟩
/-- Bytes handed over as a string: they turn no more. -/
theorem op_unsafeStr {e : TypeId} {u : TypeId} {b len cap : Nat} {bs : List UInt8} {pos : _} {aft : _} {g : _} (s : Nx P n l E L ⟨some d, .call ⟨.builtin .unsafeString, #[x, y], #[t, u]⟩, ty, pos, aft, g⟩ X Y) (ht : P.underlying t = some (.pointer e)) (hc : P.cellsOf e = 1)
    (hx : ev l x = some (.pointer (some ⟨b, 0, none⟩))) (hy : ev l y = some (.int .i64 (len : Int))) (hr : Row N e 1 (some ⟨b, 0, none⟩) len cap (u8s bs)) (h0 : 0 < len) (hl : len ≤ 9223372036854775807) (sel : L.Perm (N :: L1)) (hn : Nat.ble (d + 1) n = true)
    (h : At n ((d, str bs) :: l) E L1 Y) : At n l E L X := by
  refine op_upd s (fun v L' => v = str bs ∧ L' = L1) (fun a w hf hw => ?_) rfl hn (fun v L' ⟨hv, hL⟩ => by subst hv; subst hL; exact h)
  have hw2 := hw.perm sel
  have hlen : bs.length = len := hr.rsl.len8
  obtain ⟨_, hlc, hcm, ⟨h1, _⟩ | ⟨b', cur, hb', hbk, hsz, htk⟩⟩ := hr
  · cases h1
  · obtain rfl : b = b' := by injection hb' with e1; injection e1
    have hheap : w.heap[b]? = some (.cells cur e (0, 0)) := hw2.sub N (List.mem_cons_self ..) _ _ hbk
    have hsh : w.shape? b = some (e, cur.size) := by simp [World.shape?, hheap]
    have hcell : ∀ j z, bs[j]? = some z → w.cell? ((⟨b, 0, none⟩ : Addr).add j) = some (.int .u8 z.toNat) := fun j z hz => by
      obtain ⟨hj, rfl⟩ := List.getElem?_eq_some_iff.1 hz
      have hs := (show Row N e 1 (some ⟨b, 0, none⟩) len cap (u8s bs) from ⟨by rw [u8s, List.length_map, Nat.mul_one, hlen], hlc, hcm, .inr ⟨b, cur, rfl, hbk, hsz, htk⟩⟩).rsl.sl (hw2.sub N (List.mem_cons_self ..))
      obtain ⟨b2, off2, e2, hc2⟩ := hs.cell (x := .int .u8 (bs[j].toNat : Int)) (i := j) (by simp [u8s, vb, hj])
      injection e2 with e3
      injection e3 with e4 e5
      subst e4; subst e5
      rw [addr_add]
      exact hc2
    have hrun := Lib.run_unsafeString_row (P := P) w t u ty e ht hc b cur.size hsh bs (by intro e; subst e; simp at hlen; omega) (by rw [hsz, hlen]; omega) (by omega) hcell
    rw [hlen] at hrun
    refine ⟨str bs, w.freeze ⟨b, 0, none⟩ len, L1, ?_, ?_, rfl, rfl⟩
    · simp only [execOp, resolve, invoke, builtin, Sem.run_bind, Sem.run_pure, Result.andThen_ok, List.map_toArray, List.map_cons, List.map_nil, hf.eval hx, hf.eval hy, hrun]; rfl
    · have hne : ¬ len = 0 := by omega
      have := hw2.put (o' := .cells cur e (0, 0 + len)) (w' := w.freeze ⟨b, 0, none⟩ len) hbk (by simp [World.freeze, hne]) (by simp [World.freeze, hne]) (by simp [World.freeze, hne]) (by
        simp [World.freeze, hne, Array.getElem?_modify, hheap]) (fun k hk _ => by
        simp [World.freeze, hne, Array.getElem?_modify, Ne.symm hk])
      exact this.drop (List.sublist_cons_self ..)
end
end Go.Proofs.YtdplcfineaikjaaDoor
/- Facts on the types of the program, by number. No condition. -/
namespace Go.Proofs.YtdplcfineaikjaaDoor
set_option linter.unusedVariables false
set_option linter.unusedSimpArgs false
open Go Go.RowKit
theorem sc2 : scal Tryd.prog 2 = true := by kernel_rfl
theorem sz2 : siz Tryd.prog 2 = some 1 := by kernel_rfl
theorem ze2 : zer Tryd.prog 2 = some (.int .i64 0) := by kernel_rfl
theorem sc3 : scal Tryd.prog 3 = true := by kernel_rfl
theorem sz3 : siz Tryd.prog 3 = some 1 := by kernel_rfl
theorem ze3 : zer Tryd.prog 3 = some (.int .i64 0) := by kernel_rfl
theorem sc4 : scal Tryd.prog 4 = true := by kernel_rfl
theorem sz4 : siz Tryd.prog 4 = some 1 := by kernel_rfl
theorem ze4 : zer Tryd.prog 4 = some (.bool false) := by kernel_rfl
theorem sc5 : scal Tryd.prog 5 = true := by kernel_rfl
theorem sz5 : siz Tryd.prog 5 = some 1 := by kernel_rfl
theorem ze5 : zer Tryd.prog 5 = some (.int .u8 0) := by kernel_rfl
theorem sc6 : scal Tryd.prog 6 = true := by kernel_rfl
theorem sz6 : siz Tryd.prog 6 = some 1 := by kernel_rfl
theorem ze6 : zer Tryd.prog 6 = some (.int .u8 0) := by kernel_rfl
theorem ag7 : aggOf Tryd.prog 7 = some 4 := by kernel_rfl
theorem sz7 : siz Tryd.prog 7 = some 4 := by kernel_rfl
theorem ze7 : zer Tryd.prog 7 = some (.agg #[.int .i64 0, .int .i64 0, .bool false, .int .u8 0]) := by kernel_rfl
theorem fl7_0 : fld Tryd.prog 7 0 = some 0 := by kernel_rfl
theorem fl7_1 : fld Tryd.prog 7 1 = some 1 := by kernel_rfl
theorem fl7_2 : fld Tryd.prog 7 2 = some 2 := by kernel_rfl
theorem fl7_3 : fld Tryd.prog 7 3 = some 3 := by kernel_rfl
theorem pl7 : places Tryd.prog 7 = some [(0, 1), (1, 1), (2, 1), (3, 1)] := by kernel_rfl
theorem ag8 : aggOf Tryd.prog 8 = some 4 := by kernel_rfl
theorem sz8 : siz Tryd.prog 8 = some 4 := by kernel_rfl
theorem ze8 : zer Tryd.prog 8 = some (.agg #[.int .i64 0, .int .i64 0, .bool false, .int .u8 0]) := by kernel_rfl
theorem fl8_0 : fld Tryd.prog 8 0 = some 0 := by kernel_rfl
theorem fl8_1 : fld Tryd.prog 8 1 = some 1 := by kernel_rfl
theorem fl8_2 : fld Tryd.prog 8 2 = some 2 := by kernel_rfl
theorem fl8_3 : fld Tryd.prog 8 3 = some 3 := by kernel_rfl
theorem pl8 : places Tryd.prog 8 = some [(0, 1), (1, 1), (2, 1), (3, 1)] := by kernel_rfl
theorem sc9 : scal Tryd.prog 9 = true := by kernel_rfl
theorem sz9 : siz Tryd.prog 9 = some 1 := by kernel_rfl
theorem ze9 : zer Tryd.prog 9 = some (str []) := by kernel_rfl
theorem sc10 : scal Tryd.prog 10 = true := by kernel_rfl
theorem sz10 : siz Tryd.prog 10 = some 1 := by kernel_rfl
theorem ze10 : zer Tryd.prog 10 = some (str []) := by kernel_rfl
theorem sc11 : scal Tryd.prog 11 = true := by kernel_rfl
theorem sz11 : siz Tryd.prog 11 = some 1 := by kernel_rfl
theorem ze11 : zer Tryd.prog 11 = some (str []) := by kernel_rfl
theorem sc12 : scal Tryd.prog 12 = true := by kernel_rfl
theorem sz12 : siz Tryd.prog 12 = some 1 := by kernel_rfl
theorem ze12 : zer Tryd.prog 12 = some (.int .u64 0) := by kernel_rfl
theorem ag13 : aggOf Tryd.prog 13 = some 2 := by kernel_rfl
theorem sz13 : siz Tryd.prog 13 = some 2 := by kernel_rfl
theorem ze13 : zer Tryd.prog 13 = some (.agg #[str [], .int .u64 0]) := by kernel_rfl
theorem fl13_0 : fld Tryd.prog 13 0 = some 0 := by kernel_rfl
theorem fl13_1 : fld Tryd.prog 13 1 = some 1 := by kernel_rfl
theorem pl13 : places Tryd.prog 13 = some [(0, 1), (1, 1)] := by kernel_rfl
theorem ag14 : aggOf Tryd.prog 14 = some 2 := by kernel_rfl
theorem sz14 : siz Tryd.prog 14 = some 2 := by kernel_rfl
theorem ze14 : zer Tryd.prog 14 = some (.agg #[str [], .int .u64 0]) := by kernel_rfl
theorem fl14_0 : fld Tryd.prog 14 0 = some 0 := by kernel_rfl
theorem fl14_1 : fld Tryd.prog 14 1 = some 1 := by kernel_rfl
theorem pl14 : places Tryd.prog 14 = some [(0, 1), (1, 1)] := by kernel_rfl
theorem sc15 : scal Tryd.prog 15 = true := by kernel_rfl
theorem sz15 : siz Tryd.prog 15 = some 1 := by kernel_rfl
theorem ze15 : zer Tryd.prog 15 = some (.pointer none) := by kernel_rfl
theorem sc16 : scal Tryd.prog 16 = true := by kernel_rfl
theorem sz16 : siz Tryd.prog 16 = some 1 := by kernel_rfl
theorem ze16 : zer Tryd.prog 16 = some (.pointer none) := by kernel_rfl
theorem sc17 : scal Tryd.prog 17 = true := by kernel_rfl
theorem sz17 : siz Tryd.prog 17 = some 1 := by kernel_rfl
theorem ze17 : zer Tryd.prog 17 = some (.pointer none) := by kernel_rfl
theorem ag18 : aggOf Tryd.prog 18 = some 1 := by kernel_rfl
theorem sz18 : siz Tryd.prog 18 = some 1 := by kernel_rfl
theorem ze18 : zer Tryd.prog 18 = some (.agg #[.pointer none]) := by kernel_rfl
theorem fl18_0 : fld Tryd.prog 18 0 = some 0 := by kernel_rfl
theorem pl18 : places Tryd.prog 18 = some [(0, 1)] := by kernel_rfl
theorem ag19 : aggOf Tryd.prog 19 = some 1 := by kernel_rfl
theorem sz19 : siz Tryd.prog 19 = some 1 := by kernel_rfl
theorem ze19 : zer Tryd.prog 19 = some (.agg #[.pointer none]) := by kernel_rfl
theorem fl19_0 : fld Tryd.prog 19 0 = some 0 := by kernel_rfl
theorem pl19 : places Tryd.prog 19 = some [(0, 1)] := by kernel_rfl
theorem sc20 : scal Tryd.prog 20 = true := by kernel_rfl
theorem sz20 : siz Tryd.prog 20 = some 1 := by kernel_rfl
theorem ze20 : zer Tryd.prog 20 = some (.nilIface) := by kernel_rfl
theorem sc21 : scal Tryd.prog 21 = true := by kernel_rfl
theorem sz21 : siz Tryd.prog 21 = some 1 := by kernel_rfl
theorem ze21 : zer Tryd.prog 21 = some (.int .i32 0) := by kernel_rfl
theorem sc22 : scal Tryd.prog 22 = true := by kernel_rfl
theorem sz22 : siz Tryd.prog 22 = some 1 := by kernel_rfl
theorem ze22 : zer Tryd.prog 22 = some (.slice none 0 0) := by kernel_rfl
theorem se22 : selt Tryd.prog 22 = some (5, 1) := by kernel_rfl
theorem sc23 : scal Tryd.prog 23 = true := by kernel_rfl
theorem sz23 : siz Tryd.prog 23 = some 1 := by kernel_rfl
theorem ze23 : zer Tryd.prog 23 = some (.int .u64 0) := by kernel_rfl
theorem ag24 : aggOf Tryd.prog 24 = some 4 := by kernel_rfl
theorem sz24 : siz Tryd.prog 24 = some 4 := by kernel_rfl
theorem ze24 : zer Tryd.prog 24 = some (.agg #[.int .u64 0, .int .u64 0, .int .u64 0, .int .u64 0]) := by kernel_rfl
theorem ae24 : aelt Tryd.prog 24 = some (4, 23, 1) := by kernel_rfl
theorem ag25 : aggOf Tryd.prog 25 = some 4 := by kernel_rfl
theorem sz25 : siz Tryd.prog 25 = some 4 := by kernel_rfl
theorem ze25 : zer Tryd.prog 25 = some (.agg #[.int .u64 0, .int .u64 0, .int .u64 0, .int .u64 0]) := by kernel_rfl
theorem ae25 : aelt Tryd.prog 25 = some (4, 23, 1) := by kernel_rfl
theorem sc27 : scal Tryd.prog 27 = true := by kernel_rfl
theorem sz27 : siz Tryd.prog 27 = some 1 := by kernel_rfl
theorem ze27 : zer Tryd.prog 27 = some (.slice none 0 0) := by kernel_rfl
theorem se27 : selt Tryd.prog 27 = some (3, 1) := by kernel_rfl
theorem sc31 : scal Tryd.prog 31 = true := by kernel_rfl
theorem sz31 : siz Tryd.prog 31 = some 1 := by kernel_rfl
theorem ze31 : zer Tryd.prog 31 = some (.slice none 0 0) := by kernel_rfl
theorem se31 : selt Tryd.prog 31 = some (9, 1) := by kernel_rfl
theorem sc42 : scal Tryd.prog 42 = true := by kernel_rfl
theorem sz42 : siz Tryd.prog 42 = some 1 := by kernel_rfl
theorem ze42 : zer Tryd.prog 42 = some (.pointer none) := by kernel_rfl
theorem sc43 : scal Tryd.prog 43 = true := by kernel_rfl
theorem sz43 : siz Tryd.prog 43 = some 1 := by kernel_rfl
theorem ze43 : zer Tryd.prog 43 = some (.slice none 0 0) := by kernel_rfl
theorem se43 : selt Tryd.prog 43 = some (22, 1) := by kernel_rfl
theorem ag44 : aggOf Tryd.prog 44 = some 2 := by kernel_rfl
theorem sz44 : siz Tryd.prog 44 = some 2 := by kernel_rfl
theorem ze44 : zer Tryd.prog 44 = some (.agg #[.slice none 0 0, .slice none 0 0]) := by kernel_rfl
theorem fl44_0 : fld Tryd.prog 44 0 = some 0 := by kernel_rfl
theorem fl44_1 : fld Tryd.prog 44 1 = some 1 := by kernel_rfl
theorem pl44 : places Tryd.prog 44 = some [(0, 1), (1, 1)] := by kernel_rfl
theorem ag45 : aggOf Tryd.prog 45 = some 2 := by kernel_rfl
theorem sz45 : siz Tryd.prog 45 = some 2 := by kernel_rfl
theorem ze45 : zer Tryd.prog 45 = some (.agg #[.slice none 0 0, .slice none 0 0]) := by kernel_rfl
theorem fl45_0 : fld Tryd.prog 45 0 = some 0 := by kernel_rfl
theorem fl45_1 : fld Tryd.prog 45 1 = some 1 := by kernel_rfl
theorem pl45 : places Tryd.prog 45 = some [(0, 1), (1, 1)] := by kernel_rfl
theorem sc46 : scal Tryd.prog 46 = true := by kernel_rfl
theorem sz46 : siz Tryd.prog 46 = some 1 := by kernel_rfl
theorem ze46 : zer Tryd.prog 46 = some (.int .i64 0) := by kernel_rfl
theorem ag47 : aggOf Tryd.prog 47 = some 2 := by kernel_rfl
theorem sz47 : siz Tryd.prog 47 = some 2 := by kernel_rfl
theorem ze47 : zer Tryd.prog 47 = some (.agg #[.int .i64 0, .int .i64 0]) := by kernel_rfl
theorem fl47_0 : fld Tryd.prog 47 0 = some 0 := by kernel_rfl
theorem fl47_1 : fld Tryd.prog 47 1 = some 1 := by kernel_rfl
theorem pl47 : places Tryd.prog 47 = some [(0, 1), (1, 1)] := by kernel_rfl
theorem ag48 : aggOf Tryd.prog 48 = some 2 := by kernel_rfl
theorem sz48 : siz Tryd.prog 48 = some 2 := by kernel_rfl
theorem ze48 : zer Tryd.prog 48 = some (.agg #[.int .i64 0, .int .i64 0]) := by kernel_rfl
theorem fl48_0 : fld Tryd.prog 48 0 = some 0 := by kernel_rfl
theorem fl48_1 : fld Tryd.prog 48 1 = some 1 := by kernel_rfl
theorem pl48 : places Tryd.prog 48 = some [(0, 1), (1, 1)] := by kernel_rfl
theorem sc59 : scal Tryd.prog 59 = true := by kernel_rfl
theorem sz59 : siz Tryd.prog 59 = some 1 := by kernel_rfl
theorem ze59 : zer Tryd.prog 59 = some (.slice none 0 0) := by kernel_rfl
theorem se59 : selt Tryd.prog 59 = some (62, 4) := by kernel_rfl
theorem ag61 : aggOf Tryd.prog 61 = some 4 := by kernel_rfl
theorem sz61 : siz Tryd.prog 61 = some 4 := by kernel_rfl
theorem ze61 : zer Tryd.prog 61 = some (.agg #[.int .i64 0, str [], .int .i64 0, .int .i64 0]) := by kernel_rfl
theorem fl61_0 : fld Tryd.prog 61 0 = some 0 := by kernel_rfl
theorem fl61_1 : fld Tryd.prog 61 1 = some 1 := by kernel_rfl
theorem fl61_2 : fld Tryd.prog 61 2 = some 2 := by kernel_rfl
theorem fl61_3 : fld Tryd.prog 61 3 = some 3 := by kernel_rfl
theorem pl61 : places Tryd.prog 61 = some [(0, 1), (1, 1), (2, 1), (3, 1)] := by kernel_rfl
theorem ag62 : aggOf Tryd.prog 62 = some 4 := by kernel_rfl
theorem sz62 : siz Tryd.prog 62 = some 4 := by kernel_rfl
theorem ze62 : zer Tryd.prog 62 = some (.agg #[.int .i64 0, str [], .int .i64 0, .int .i64 0]) := by kernel_rfl
theorem fl62_0 : fld Tryd.prog 62 0 = some 0 := by kernel_rfl
theorem fl62_1 : fld Tryd.prog 62 1 = some 1 := by kernel_rfl
theorem fl62_2 : fld Tryd.prog 62 2 = some 2 := by kernel_rfl
theorem fl62_3 : fld Tryd.prog 62 3 = some 3 := by kernel_rfl
theorem pl62 : places Tryd.prog 62 = some [(0, 1), (1, 1), (2, 1), (3, 1)] := by kernel_rfl
theorem sc69 : scal Tryd.prog 69 = true := by kernel_rfl
theorem sz69 : siz Tryd.prog 69 = some 1 := by kernel_rfl
theorem ze69 : zer Tryd.prog 69 = some (.int .u64 0) := by kernel_rfl
theorem sc71 : scal Tryd.prog 71 = true := by kernel_rfl
theorem sz71 : siz Tryd.prog 71 = some 1 := by kernel_rfl
theorem ze71 : zer Tryd.prog 71 = some (.pointer none) := by kernel_rfl
theorem ag72 : aggOf Tryd.prog 72 = some 2 := by kernel_rfl
theorem sz72 : siz Tryd.prog 72 = some 2 := by kernel_rfl
theorem ze72 : zer Tryd.prog 72 = some (.agg #[.pointer none, .slice none 0 0]) := by kernel_rfl
theorem fl72_0 : fld Tryd.prog 72 0 = some 0 := by kernel_rfl
theorem fl72_1 : fld Tryd.prog 72 1 = some 1 := by kernel_rfl
theorem pl72 : places Tryd.prog 72 = some [(0, 1), (1, 1)] := by kernel_rfl
theorem ag73 : aggOf Tryd.prog 73 = some 2 := by kernel_rfl
theorem sz73 : siz Tryd.prog 73 = some 2 := by kernel_rfl
theorem ze73 : zer Tryd.prog 73 = some (.agg #[.pointer none, .slice none 0 0]) := by kernel_rfl
theorem fl73_0 : fld Tryd.prog 73 0 = some 0 := by kernel_rfl
theorem fl73_1 : fld Tryd.prog 73 1 = some 1 := by kernel_rfl
theorem pl73 : places Tryd.prog 73 = some [(0, 1), (1, 1)] := by kernel_rfl
theorem sc74 : scal Tryd.prog 74 = true := by kernel_rfl
theorem sz74 : siz Tryd.prog 74 = some 1 := by kernel_rfl
theorem ze74 : zer Tryd.prog 74 = some (.nilIface) := by kernel_rfl
theorem sc75 : scal Tryd.prog 75 = true := by kernel_rfl
theorem sz75 : siz Tryd.prog 75 = some 1 := by kernel_rfl
theorem ze75 : zer Tryd.prog 75 = some (.nilIface) := by kernel_rfl
theorem ag81 : aggOf Tryd.prog 81 = some 256 := by kernel_rfl
theorem sz81 : siz Tryd.prog 81 = some 256 := by kernel_rfl
theorem ae81 : aelt Tryd.prog 81 = some (256, 5, 1) := by kernel_rfl
theorem sc87 : scal Tryd.prog 87 = true := by kernel_rfl
theorem sz87 : siz Tryd.prog 87 = some 1 := by kernel_rfl
theorem ze87 : zer Tryd.prog 87 = some (.pointer none) := by kernel_rfl
theorem sc89 : scal Tryd.prog 89 = true := by kernel_rfl
theorem sz89 : siz Tryd.prog 89 = some 1 := by kernel_rfl
theorem ze89 : zer Tryd.prog 89 = some (.slice none 0 0) := by kernel_rfl
theorem se89 : selt Tryd.prog 89 = some (91, 2) := by kernel_rfl
theorem ag90 : aggOf Tryd.prog 90 = some 2 := by kernel_rfl
theorem sz90 : siz Tryd.prog 90 = some 2 := by kernel_rfl
theorem ze90 : zer Tryd.prog 90 = some (.agg #[.int .i64 0, .int .i64 0]) := by kernel_rfl
theorem fl90_0 : fld Tryd.prog 90 0 = some 0 := by kernel_rfl
theorem fl90_1 : fld Tryd.prog 90 1 = some 1 := by kernel_rfl
theorem pl90 : places Tryd.prog 90 = some [(0, 1), (1, 1)] := by kernel_rfl
theorem ag91 : aggOf Tryd.prog 91 = some 2 := by kernel_rfl
theorem sz91 : siz Tryd.prog 91 = some 2 := by kernel_rfl
theorem ze91 : zer Tryd.prog 91 = some (.agg #[.int .i64 0, .int .i64 0]) := by kernel_rfl
theorem fl91_0 : fld Tryd.prog 91 0 = some 0 := by kernel_rfl
theorem fl91_1 : fld Tryd.prog 91 1 = some 1 := by kernel_rfl
theorem pl91 : places Tryd.prog 91 = some [(0, 1), (1, 1)] := by kernel_rfl
theorem sc92 : scal Tryd.prog 92 = true := by kernel_rfl
theorem sz92 : siz Tryd.prog 92 = some 1 := by kernel_rfl
theorem ze92 : zer Tryd.prog 92 = some (.int .u32 0) := by kernel_rfl
theorem sc94 : scal Tryd.prog 94 = true := by kernel_rfl
theorem sz94 : siz Tryd.prog 94 = some 1 := by kernel_rfl
theorem ze94 : zer Tryd.prog 94 = some (.pointer none) := by kernel_rfl
theorem sc101 : scal Tryd.prog 101 = true := by kernel_rfl
theorem sz101 : siz Tryd.prog 101 = some 1 := by kernel_rfl
theorem ag103 : aggOf Tryd.prog 103 = some 24 := by kernel_rfl
theorem sz103 : siz Tryd.prog 103 = some 24 := by kernel_rfl
theorem ze103 : zer Tryd.prog 103 = some (.agg #[.int .u8 0, .int .u8 0, .int .u8 0, .int .u8 0, .int .u8 0, .int .u8 0, .int .u8 0, .int .u8 0, .int .u8 0, .int .u8 0, .int .u8 0, .int .u8 0, .int .u8 0, .int .u8 0, .int .u8 0, .int .u8 0, .int .u8 0, .int .u8 0, .int .u8 0, .int .u8 0, .int .u8 0, .int .u8 0, .int .u8 0, .int .u8 0]) := by kernel_rfl
theorem ae103 : aelt Tryd.prog 103 = some (24, 5, 1) := by kernel_rfl
theorem sc108 : scal Tryd.prog 108 = true := by kernel_rfl
theorem sz108 : siz Tryd.prog 108 = some 1 := by kernel_rfl
theorem ze108 : zer Tryd.prog 108 = some (.slice none 0 0) := by kernel_rfl
theorem se108 : selt Tryd.prog 108 = some (114, 3) := by kernel_rfl
theorem sc109 : scal Tryd.prog 109 = true := by kernel_rfl
theorem sz109 : siz Tryd.prog 109 = some 1 := by kernel_rfl
theorem ze109 : zer Tryd.prog 109 = some (.slice none 0 0) := by kernel_rfl
theorem se109 : selt Tryd.prog 109 = some (117, 3) := by kernel_rfl
theorem ag110 : aggOf Tryd.prog 110 = some 3 := by kernel_rfl
theorem sz110 : siz Tryd.prog 110 = some 3 := by kernel_rfl
theorem ze110 : zer Tryd.prog 110 = some (.agg #[.slice none 0 0, .slice none 0 0, .int .i64 0]) := by kernel_rfl
theorem fl110_0 : fld Tryd.prog 110 0 = some 0 := by kernel_rfl
theorem fl110_1 : fld Tryd.prog 110 1 = some 1 := by kernel_rfl
theorem fl110_2 : fld Tryd.prog 110 2 = some 2 := by kernel_rfl
theorem pl110 : places Tryd.prog 110 = some [(0, 1), (1, 1), (2, 1)] := by kernel_rfl
theorem ag111 : aggOf Tryd.prog 111 = some 3 := by kernel_rfl
theorem sz111 : siz Tryd.prog 111 = some 3 := by kernel_rfl
theorem ze111 : zer Tryd.prog 111 = some (.agg #[.slice none 0 0, .slice none 0 0, .int .i64 0]) := by kernel_rfl
theorem fl111_0 : fld Tryd.prog 111 0 = some 0 := by kernel_rfl
theorem fl111_1 : fld Tryd.prog 111 1 = some 1 := by kernel_rfl
theorem fl111_2 : fld Tryd.prog 111 2 = some 2 := by kernel_rfl
theorem pl111 : places Tryd.prog 111 = some [(0, 1), (1, 1), (2, 1)] := by kernel_rfl
theorem sc112 : scal Tryd.prog 112 = true := by kernel_rfl
theorem sz112 : siz Tryd.prog 112 = some 1 := by kernel_rfl
theorem ze112 : zer Tryd.prog 112 = some (.int .u16 0) := by kernel_rfl
theorem ag113 : aggOf Tryd.prog 113 = some 3 := by kernel_rfl
theorem sz113 : siz Tryd.prog 113 = some 3 := by kernel_rfl
theorem ze113 : zer Tryd.prog 113 = some (.agg #[.int .u16 0, .int .u16 0, .int .u16 0]) := by kernel_rfl
theorem fl113_0 : fld Tryd.prog 113 0 = some 0 := by kernel_rfl
theorem fl113_1 : fld Tryd.prog 113 1 = some 1 := by kernel_rfl
theorem fl113_2 : fld Tryd.prog 113 2 = some 2 := by kernel_rfl
theorem pl113 : places Tryd.prog 113 = some [(0, 1), (1, 1), (2, 1)] := by kernel_rfl
theorem ag114 : aggOf Tryd.prog 114 = some 3 := by kernel_rfl
theorem sz114 : siz Tryd.prog 114 = some 3 := by kernel_rfl
theorem ze114 : zer Tryd.prog 114 = some (.agg #[.int .u16 0, .int .u16 0, .int .u16 0]) := by kernel_rfl
theorem fl114_0 : fld Tryd.prog 114 0 = some 0 := by kernel_rfl
theorem fl114_1 : fld Tryd.prog 114 1 = some 1 := by kernel_rfl
theorem fl114_2 : fld Tryd.prog 114 2 = some 2 := by kernel_rfl
theorem pl114 : places Tryd.prog 114 = some [(0, 1), (1, 1), (2, 1)] := by kernel_rfl
theorem ag116 : aggOf Tryd.prog 116 = some 3 := by kernel_rfl
theorem sz116 : siz Tryd.prog 116 = some 3 := by kernel_rfl
theorem ze116 : zer Tryd.prog 116 = some (.agg #[.int .u32 0, .int .u32 0, .int .u32 0]) := by kernel_rfl
theorem fl116_0 : fld Tryd.prog 116 0 = some 0 := by kernel_rfl
theorem fl116_1 : fld Tryd.prog 116 1 = some 1 := by kernel_rfl
theorem fl116_2 : fld Tryd.prog 116 2 = some 2 := by kernel_rfl
theorem pl116 : places Tryd.prog 116 = some [(0, 1), (1, 1), (2, 1)] := by kernel_rfl
theorem ag117 : aggOf Tryd.prog 117 = some 3 := by kernel_rfl
theorem sz117 : siz Tryd.prog 117 = some 3 := by kernel_rfl
theorem ze117 : zer Tryd.prog 117 = some (.agg #[.int .u32 0, .int .u32 0, .int .u32 0]) := by kernel_rfl
theorem fl117_0 : fld Tryd.prog 117 0 = some 0 := by kernel_rfl
theorem fl117_1 : fld Tryd.prog 117 1 = some 1 := by kernel_rfl
theorem fl117_2 : fld Tryd.prog 117 2 = some 2 := by kernel_rfl
theorem pl117 : places Tryd.prog 117 = some [(0, 1), (1, 1), (2, 1)] := by kernel_rfl
theorem ag126 : aggOf Tryd.prog 126 = some 20 := by kernel_rfl
theorem sz126 : siz Tryd.prog 126 = some 20 := by kernel_rfl
theorem ze126 : zer Tryd.prog 126 = some (.agg #[.int .u64 0, .int .u64 0, .int .u64 0, .int .u64 0, .int .u64 0, .int .u64 0, .int .u64 0, .int .u64 0, .int .u64 0, .int .u64 0, .int .u64 0, .int .u64 0, .int .u64 0, .int .u64 0, .int .u64 0, .int .u64 0, .int .u64 0, .int .u64 0, .int .u64 0, .int .u64 0]) := by kernel_rfl
theorem ae126 : aelt Tryd.prog 126 = some (20, 23, 1) := by kernel_rfl
theorem ag127 : aggOf Tryd.prog 127 = some 65 := by kernel_rfl
theorem sz127 : siz Tryd.prog 127 = some 65 := by kernel_rfl
theorem ae127 : aelt Tryd.prog 127 = some (65, 5, 1) := by kernel_rfl
theorem sc129 : scal Tryd.prog 129 = true := by kernel_rfl
theorem sz129 : siz Tryd.prog 129 = some 1 := by kernel_rfl
theorem ze129 : zer Tryd.prog 129 = some (.pointer none) := by kernel_rfl
theorem sc130 : scal Tryd.prog 130 = true := by kernel_rfl
theorem sz130 : siz Tryd.prog 130 = some 1 := by kernel_rfl
theorem ze130 : zer Tryd.prog 130 = some (.pointer none) := by kernel_rfl
theorem ag134 : aggOf Tryd.prog 134 = some 2 := by kernel_rfl
theorem sz134 : siz Tryd.prog 134 = some 2 := by kernel_rfl
theorem ze134 : zer Tryd.prog 134 = some (.agg #[.int .u8 0, .int .u8 0]) := by kernel_rfl
theorem fl134_0 : fld Tryd.prog 134 0 = some 0 := by kernel_rfl
theorem fl134_1 : fld Tryd.prog 134 1 = some 1 := by kernel_rfl
theorem pl134 : places Tryd.prog 134 = some [(0, 1), (1, 1)] := by kernel_rfl
theorem ag135 : aggOf Tryd.prog 135 = some 2 := by kernel_rfl
theorem sz135 : siz Tryd.prog 135 = some 2 := by kernel_rfl
theorem ze135 : zer Tryd.prog 135 = some (.agg #[.int .u8 0, .int .u8 0]) := by kernel_rfl
theorem fl135_0 : fld Tryd.prog 135 0 = some 0 := by kernel_rfl
theorem fl135_1 : fld Tryd.prog 135 1 = some 1 := by kernel_rfl
theorem pl135 : places Tryd.prog 135 = some [(0, 1), (1, 1)] := by kernel_rfl
theorem ag136 : aggOf Tryd.prog 136 = some 32 := by kernel_rfl
theorem sz136 : siz Tryd.prog 136 = some 32 := by kernel_rfl
theorem ze136 : zer Tryd.prog 136 = some (.agg #[.int .u8 0, .int .u8 0, .int .u8 0, .int .u8 0, .int .u8 0, .int .u8 0, .int .u8 0, .int .u8 0, .int .u8 0, .int .u8 0, .int .u8 0, .int .u8 0, .int .u8 0, .int .u8 0, .int .u8 0, .int .u8 0, .int .u8 0, .int .u8 0, .int .u8 0, .int .u8 0, .int .u8 0, .int .u8 0, .int .u8 0, .int .u8 0, .int .u8 0, .int .u8 0, .int .u8 0, .int .u8 0, .int .u8 0, .int .u8 0, .int .u8 0, .int .u8 0]) := by kernel_rfl
theorem ae136 : aelt Tryd.prog 136 = some (16, 135, 2) := by kernel_rfl
theorem ag140 : aggOf Tryd.prog 140 = some 32 := by kernel_rfl
theorem sz140 : siz Tryd.prog 140 = some 32 := by kernel_rfl
theorem ze140 : zer Tryd.prog 140 = some (.agg #[.int .u8 0, .int .u8 0, .int .u8 0, .int .u8 0, .int .u8 0, .int .u8 0, .int .u8 0, .int .u8 0, .int .u8 0, .int .u8 0, .int .u8 0, .int .u8 0, .int .u8 0, .int .u8 0, .int .u8 0, .int .u8 0, .int .u8 0, .int .u8 0, .int .u8 0, .int .u8 0, .int .u8 0, .int .u8 0, .int .u8 0, .int .u8 0, .int .u8 0, .int .u8 0, .int .u8 0, .int .u8 0, .int .u8 0, .int .u8 0, .int .u8 0, .int .u8 0]) := by kernel_rfl
theorem ae140 : aelt Tryd.prog 140 = some (32, 5, 1) := by kernel_rfl
theorem ag141 : aggOf Tryd.prog 141 = some 64 := by kernel_rfl
theorem sz141 : siz Tryd.prog 141 = some 64 := by kernel_rfl
theorem ae141 : aelt Tryd.prog 141 = some (64, 5, 1) := by kernel_rfl
theorem sc144 : scal Tryd.prog 144 = true := by kernel_rfl
theorem sz144 : siz Tryd.prog 144 = some 1 := by kernel_rfl
theorem ze144 : zer Tryd.prog 144 = some (.slice none 0 0) := by kernel_rfl
theorem se144 : selt Tryd.prog 144 = some (151, 5) := by kernel_rfl
theorem sc145 : scal Tryd.prog 145 = true := by kernel_rfl
theorem sz145 : siz Tryd.prog 145 = some 1 := by kernel_rfl
theorem ze145 : zer Tryd.prog 145 = some (.pointer none) := by kernel_rfl
theorem ag148 : aggOf Tryd.prog 148 = some 3 := by kernel_rfl
theorem sz148 : siz Tryd.prog 148 = some 3 := by kernel_rfl
theorem ze148 : zer Tryd.prog 148 = some (.agg #[.int .i32 0, .int .i32 0, .int .i32 0]) := by kernel_rfl
theorem ae148 : aelt Tryd.prog 148 = some (3, 21, 1) := by kernel_rfl
theorem ag149 : aggOf Tryd.prog 149 = some 3 := by kernel_rfl
theorem sz149 : siz Tryd.prog 149 = some 3 := by kernel_rfl
theorem ze149 : zer Tryd.prog 149 = some (.agg #[.int .i32 0, .int .i32 0, .int .i32 0]) := by kernel_rfl
theorem ae149 : aelt Tryd.prog 149 = some (3, 21, 1) := by kernel_rfl
theorem ag150 : aggOf Tryd.prog 150 = some 5 := by kernel_rfl
theorem sz150 : siz Tryd.prog 150 = some 5 := by kernel_rfl
theorem ze150 : zer Tryd.prog 150 = some (.agg #[.int .u32 0, .int .u32 0, .int .i32 0, .int .i32 0, .int .i32 0]) := by kernel_rfl
theorem fl150_0 : fld Tryd.prog 150 0 = some 0 := by kernel_rfl
theorem fl150_1 : fld Tryd.prog 150 1 = some 1 := by kernel_rfl
theorem fl150_2 : fld Tryd.prog 150 2 = some 2 := by kernel_rfl
theorem pl150 : places Tryd.prog 150 = some [(0, 1), (1, 1), (2, 3)] := by kernel_rfl
theorem ag151 : aggOf Tryd.prog 151 = some 5 := by kernel_rfl
theorem sz151 : siz Tryd.prog 151 = some 5 := by kernel_rfl
theorem ze151 : zer Tryd.prog 151 = some (.agg #[.int .u32 0, .int .u32 0, .int .i32 0, .int .i32 0, .int .i32 0]) := by kernel_rfl
theorem fl151_0 : fld Tryd.prog 151 0 = some 0 := by kernel_rfl
theorem fl151_1 : fld Tryd.prog 151 1 = some 1 := by kernel_rfl
theorem fl151_2 : fld Tryd.prog 151 2 = some 2 := by kernel_rfl
theorem pl151 : places Tryd.prog 151 = some [(0, 1), (1, 1), (2, 3)] := by kernel_rfl
theorem ag152 : aggOf Tryd.prog 152 = some 4 := by kernel_rfl
theorem sz152 : siz Tryd.prog 152 = some 4 := by kernel_rfl
theorem ze152 : zer Tryd.prog 152 = some (.agg #[.pointer none, .pointer none, .pointer none, str []]) := by kernel_rfl
theorem fl152_0 : fld Tryd.prog 152 0 = some 0 := by kernel_rfl
theorem fl152_1 : fld Tryd.prog 152 1 = some 1 := by kernel_rfl
theorem fl152_2 : fld Tryd.prog 152 2 = some 2 := by kernel_rfl
theorem fl152_3 : fld Tryd.prog 152 3 = some 3 := by kernel_rfl
theorem pl152 : places Tryd.prog 152 = some [(0, 1), (1, 1), (2, 1), (3, 1)] := by kernel_rfl
theorem ag153 : aggOf Tryd.prog 153 = some 4 := by kernel_rfl
theorem sz153 : siz Tryd.prog 153 = some 4 := by kernel_rfl
theorem ze153 : zer Tryd.prog 153 = some (.agg #[.pointer none, .pointer none, .pointer none, str []]) := by kernel_rfl
theorem fl153_0 : fld Tryd.prog 153 0 = some 0 := by kernel_rfl
theorem fl153_1 : fld Tryd.prog 153 1 = some 1 := by kernel_rfl
theorem fl153_2 : fld Tryd.prog 153 2 = some 2 := by kernel_rfl
theorem fl153_3 : fld Tryd.prog 153 3 = some 3 := by kernel_rfl
theorem pl153 : places Tryd.prog 153 = some [(0, 1), (1, 1), (2, 1), (3, 1)] := by kernel_rfl
theorem ag154 : aggOf Tryd.prog 154 = some 0 := by kernel_rfl
theorem sz154 : siz Tryd.prog 154 = some 0 := by kernel_rfl
theorem ze154 : zer Tryd.prog 154 = some (.agg #[]) := by kernel_rfl
theorem ae154 : aelt Tryd.prog 154 = some (0, 16, 1) := by kernel_rfl
theorem ag155 : aggOf Tryd.prog 155 = some 0 := by kernel_rfl
theorem sz155 : siz Tryd.prog 155 = some 0 := by kernel_rfl
theorem ze155 : zer Tryd.prog 155 = some (.agg #[]) := by kernel_rfl
theorem pl155 : places Tryd.prog 155 = some [(0, 0)] := by kernel_rfl
theorem ag156 : aggOf Tryd.prog 156 = some 0 := by kernel_rfl
theorem sz156 : siz Tryd.prog 156 = some 0 := by kernel_rfl
theorem ze156 : zer Tryd.prog 156 = some (.agg #[]) := by kernel_rfl
theorem pl156 : places Tryd.prog 156 = some [(0, 0)] := by kernel_rfl
theorem sc158 : scal Tryd.prog 158 = true := by kernel_rfl
theorem sz158 : siz Tryd.prog 158 = some 1 := by kernel_rfl
theorem ze158 : zer Tryd.prog 158 = some (.int .u8 0) := by kernel_rfl
theorem sc159 : scal Tryd.prog 159 = true := by kernel_rfl
theorem sz159 : siz Tryd.prog 159 = some 1 := by kernel_rfl
theorem ze159 : zer Tryd.prog 159 = some (.int .u8 0) := by kernel_rfl
theorem sc161 : scal Tryd.prog 161 = true := by kernel_rfl
theorem sz161 : siz Tryd.prog 161 = some 1 := by kernel_rfl
theorem ze161 : zer Tryd.prog 161 = some (.int .i32 0) := by kernel_rfl
theorem sc162 : scal Tryd.prog 162 = true := by kernel_rfl
theorem sz162 : siz Tryd.prog 162 = some 1 := by kernel_rfl
theorem ze162 : zer Tryd.prog 162 = some (.int .i32 0) := by kernel_rfl
theorem ag163 : aggOf Tryd.prog 163 = some 11 := by kernel_rfl
theorem sz163 : siz Tryd.prog 163 = some 11 := by kernel_rfl
theorem ze163 : zer Tryd.prog 163 = some (.agg #[.int .u64 0, .int .u64 0, .int .u32 0, .int .u8 0, .int .u8 0, .int .u8 0, .int .u8 0, .nilFunc, .pointer none, .int .i32 0, .int .i32 0]) := by kernel_rfl
theorem fl163_0 : fld Tryd.prog 163 0 = some 0 := by kernel_rfl
theorem fl163_1 : fld Tryd.prog 163 1 = some 1 := by kernel_rfl
theorem fl163_2 : fld Tryd.prog 163 2 = some 2 := by kernel_rfl
theorem fl163_3 : fld Tryd.prog 163 3 = some 3 := by kernel_rfl
theorem fl163_4 : fld Tryd.prog 163 4 = some 4 := by kernel_rfl
theorem fl163_5 : fld Tryd.prog 163 5 = some 5 := by kernel_rfl
theorem fl163_6 : fld Tryd.prog 163 6 = some 6 := by kernel_rfl
theorem fl163_7 : fld Tryd.prog 163 7 = some 7 := by kernel_rfl
theorem fl163_8 : fld Tryd.prog 163 8 = some 8 := by kernel_rfl
theorem fl163_9 : fld Tryd.prog 163 9 = some 9 := by kernel_rfl
theorem fl163_10 : fld Tryd.prog 163 10 = some 10 := by kernel_rfl
theorem pl163 : places Tryd.prog 163 = some [(0, 1), (1, 1), (2, 1), (3, 1), (4, 1), (5, 1), (6, 1), (7, 1), (8, 1), (9, 1), (10, 1)] := by kernel_rfl
theorem ag164 : aggOf Tryd.prog 164 = some 11 := by kernel_rfl
theorem sz164 : siz Tryd.prog 164 = some 11 := by kernel_rfl
theorem ze164 : zer Tryd.prog 164 = some (.agg #[.int .u64 0, .int .u64 0, .int .u32 0, .int .u8 0, .int .u8 0, .int .u8 0, .int .u8 0, .nilFunc, .pointer none, .int .i32 0, .int .i32 0]) := by kernel_rfl
theorem fl164_0 : fld Tryd.prog 164 0 = some 0 := by kernel_rfl
theorem fl164_1 : fld Tryd.prog 164 1 = some 1 := by kernel_rfl
theorem fl164_2 : fld Tryd.prog 164 2 = some 2 := by kernel_rfl
theorem fl164_3 : fld Tryd.prog 164 3 = some 3 := by kernel_rfl
theorem fl164_4 : fld Tryd.prog 164 4 = some 4 := by kernel_rfl
theorem fl164_5 : fld Tryd.prog 164 5 = some 5 := by kernel_rfl
theorem fl164_6 : fld Tryd.prog 164 6 = some 6 := by kernel_rfl
theorem fl164_7 : fld Tryd.prog 164 7 = some 7 := by kernel_rfl
theorem fl164_8 : fld Tryd.prog 164 8 = some 8 := by kernel_rfl
theorem fl164_9 : fld Tryd.prog 164 9 = some 9 := by kernel_rfl
theorem fl164_10 : fld Tryd.prog 164 10 = some 10 := by kernel_rfl
theorem pl164 : places Tryd.prog 164 = some [(0, 1), (1, 1), (2, 1), (3, 1), (4, 1), (5, 1), (6, 1), (7, 1), (8, 1), (9, 1), (10, 1)] := by kernel_rfl
theorem te3 : ElemInfo Tryd.prog 3 (.int .i64 0) 1 8 := elem_of (by kernel_rfl) rfl (by decide)
theorem te5 : ElemInfo Tryd.prog 5 (.int .u8 0) 1 1 := elem_of (by kernel_rfl) rfl (by decide)
theorem te9 : ElemInfo Tryd.prog 9 (str []) 1 16 := elem_of (by kernel_rfl) rfl (by decide)
theorem te22 : ElemInfo Tryd.prog 22 (.slice none 0 0) 1 24 := elem_of (by kernel_rfl) rfl (by decide)
theorem te62 : ElemInfo Tryd.prog 62 (.agg #[.int .i64 0, str [], .int .i64 0, .int .i64 0]) 4 40 := elem_of (by kernel_rfl) rfl (by decide)
theorem te91 : ElemInfo Tryd.prog 91 (.agg #[.int .i64 0, .int .i64 0]) 2 16 := elem_of (by kernel_rfl) rfl (by decide)
theorem te114 : ElemInfo Tryd.prog 114 (.agg #[.int .u16 0, .int .u16 0, .int .u16 0]) 3 6 := elem_of (by kernel_rfl) rfl (by decide)
theorem te117 : ElemInfo Tryd.prog 117 (.agg #[.int .u32 0, .int .u32 0, .int .u32 0]) 3 12 := elem_of (by kernel_rfl) rfl (by decide)
theorem te151 : ElemInfo Tryd.prog 151 (.agg #[.int .u32 0, .int .u32 0, .int .i32 0, .int .i32 0, .int .i32 0]) 5 20 := elem_of (by kernel_rfl) rfl (by decide)
end Go.Proofs.YtdplcfineaikjaaDoor
/- strings.Builder: its methods at a builder of the caller's own. No condition but the room that Go gives. -/
namespace Go.Proofs.YtdplcfineaikjaaDoor
set_option linter.unusedVariables false
set_option linter.unusedSimpArgs false
open Go Go.RowKit
theorem info_of_siz {P : Program} {t : TypeId} {k : Nat} (h : siz P t = some k) : ∃ j, P.info? t = some j ∧ j.size = k := by
  unfold siz at h
  cases e : P.info? t with
  | none => rw [e] at h; cases h
  | some j => rw [e] at h; exact ⟨j, rfl, by injection h⟩
section
variable {Nx Nr : Heaplet} {b n c : Nat} {a : Option Addr} {p : Option Addr} {sl q : Value} {l : List UInt8}
theorem FCopy_n (Bx : Blk Nx b 73 [.pointer none, sl]) : Fn Tryd.prog 60 #[.pointer (some ⟨b, 0, none⟩)] [Nx] [] (fun v L => v = .tuple #[] ∧ ∃ M, L = [M] ∧ Blk M b 73 [.pointer (some ⟨b, 0, none⟩), sl]) := by
  obtain ⟨j, hj, hjs⟩ := info_of_siz sz73
  have hE : ∀ w, (callFunc 69 #[.pointer (some ⟨b, 0, none⟩)]).run Tryd.prog w = .ok (.value (.pointer (some ⟨b, 0, none⟩))) w := fun w => by
    rw [run_callFunc_extern Tryd.func69 (by kernel_rfl) (by kernel_rfl) (by kernel_rfl) (e := Extern.AbiNoEscape.same) (by kernel_rfl)]
    rfl
  refine Fn.enter (vs := [.pointer (some ⟨b, 0, none⟩)]) Tryd.func60 rfl rfl rfl ?_
  intro E R hR
  change At _ _ E [Nx, R] _
  refine At.seq fun K1 hk_1 => ?_
  refine At.region ?_
  refine op_move (nxlf rfl) rfl rfl ?_
  refine op_nilChk (nxlf rfl) rfl rfl ?_
  refine op_fieldAddr (nxlf rfl) fl73_0 rfl rfl ?_
  refine op_loadB (nxlf rfl) sc71 rfl Bx (by first | rfl) mem0 rfl ?_
  refine op_eqPN (nxlf rfl) Tryd.underlying71 rfl rfl rfl ?_
  refine At.opsNil ?_
  refine At.norm (hk_1 ?_)
  refine At.condT rfl ?_
  refine At.region ?_
  refine op_move (nxlf rfl) rfl rfl ?_
  refine op_move (nxlf rfl) rfl rfl ?_
  refine op_toU (nxlf rfl) Tryd.underlying71 Tryd.underlying101 hj (by rw [hjs]; decide) rfl Bx (by simp) mem0 rfl ?_
  refine op_ext (nxla rfl) (.cons rfl .nil) (hE) rfl ?_
  refine op_fromU (nxlf rfl) Tryd.underlying101 Tryd.underlying71 hj rfl Bx (by kernel_rfl) mem0 rfl ?_
  refine op_nilChk (nxlf rfl) rfl rfl ?_
  refine op_fieldAddr (nxlf rfl) fl73_0 rfl rfl ?_
  refine op_store (nxl rfl) sz71 rfl rfl rfl rfl rfl Bx (by simp) sel0 (fun Nx Bx => ?_)
  simp only [setL, List.set] at Bx
  refine At.opsNil ?_
  refine At.retNE (L1 := [Nx]) rfl .nil rfl (.refl _) (.refl _) ?_
  exact ⟨rfl, Nx, rfl, Bx⟩
theorem FCopy_s (Bx : Blk Nx b 73 [.pointer (some ⟨b, 0, none⟩), sl]) : Fn Tryd.prog 60 #[.pointer (some ⟨b, 0, none⟩)] [Nx] [] (fun v L => v = .tuple #[] ∧ ∃ M, L = [M] ∧ Blk M b 73 [.pointer (some ⟨b, 0, none⟩), sl]) := by
  obtain ⟨j, hj, hjs⟩ := info_of_siz sz73
  refine Fn.enter (vs := [.pointer (some ⟨b, 0, none⟩)]) Tryd.func60 rfl rfl rfl ?_
  intro E R hR
  change At _ _ E [Nx, R] _
  refine At.seq fun K1 hk_1 => ?_
  refine At.region ?_
  refine op_move (nxlf rfl) rfl rfl ?_
  refine op_nilChk (nxlf rfl) rfl rfl ?_
  refine op_fieldAddr (nxlf rfl) fl73_0 rfl rfl ?_
  refine op_loadB (nxlf rfl) sc71 rfl Bx (by first | rfl) mem0 rfl ?_
  refine op_eqPN (nxlf rfl) Tryd.underlying71 rfl rfl rfl ?_
  refine At.opsNil ?_
  refine At.norm (hk_1 ?_)
  refine At.condF rfl ?_
  refine At.seq fun K2 hk_2 => ?_
  refine At.region ?_
  refine op_move (nxlf rfl) rfl rfl ?_
  refine op_nilChk (nxlf rfl) rfl rfl ?_
  refine op_fieldAddr (nxlf rfl) fl73_0 rfl rfl ?_
  refine op_loadB (nxlf rfl) sc71 rfl Bx (by first | rfl) mem0 rfl ?_
  refine op_move (nxlf rfl) rfl rfl ?_
  refine op_nePS (nxlf rfl) Tryd.underlying71 hj rfl rfl rfl ?_
  refine At.opsNil ?_
  refine At.norm (hk_2 ?_)
  refine At.condF rfl ?_
  refine At.skip ?_
  refine At.retNE (L1 := [Nx]) rfl .nil rfl (.refl _) (.refl _) ?_
  exact ⟨rfl, Nx, rfl, Bx⟩
theorem FCopy_f (hp : p = none ∨ p = some ⟨b, 0, none⟩) (Bx : Blk Nx b 73 [.pointer p, sl]) : Fn Tryd.prog 60 #[.pointer (some ⟨b, 0, none⟩)] [Nx] [] (fun v L => v = .tuple #[] ∧ ∃ M, L = [M] ∧ Blk M b 73 [.pointer (some ⟨b, 0, none⟩), sl]) := by
  rcases hp with rfl | rfl
  · exact FCopy_n Bx
  · exact FCopy_s Bx
/-- What a writing method leaves: the builder, and its bytes. -/
def BldP (b m : Nat) (l : List UInt8) (L : List Heaplet) : Prop := ∃ M K a c, L = [M, K] ∧ Blk M b 73 [.pointer (some ⟨b, 0, none⟩), .slice a m c] ∧ Row K 5 1 a m c (u8s l)
theorem FWByte_f (hp : p = none ∨ p = some ⟨b, 0, none⟩) (Bx : Blk Nx b 73 [.pointer p, .slice a n c]) (hr : Row Nr 5 1 a n c (u8s l)) (hn : n ≤ 35184372088832) (x : UInt8) : Fn Tryd.prog 48 #[.pointer (some ⟨b, 0, none⟩), .int .u8 (x.toNat : Int)] [Nx, Nr] [] (fun v L => v = .nilIface ∧ BldP b (n + 1) (l ++ [x]) L) := by
  refine Fn.enter (vs := [.pointer (some ⟨b, 0, none⟩), .int .u8 (x.toNat : Int)]) Tryd.func48 rfl rfl rfl ?_
  intro E R hR
  change At _ _ E [Nx, Nr, R] _
  refine At.seq fun K1 hk_1 => ?_
  refine At.region ?_
  refine op_assign (nxlf rfl) rfl rfl ?_
  refine At.opsNil ?_
  refine At.norm (hk_1 ?_)
  refine At.seq fun K2 hk_2 => ?_
  refine At.region ?_
  refine op_move (nxlf rfl) rfl rfl ?_
  refine op_call (nxl rfl) (.cons rfl .nil) (FCopy_f hp Bx) (F := [Nr, R]) Tryd.func60 rfl rfl (.refl _) (by simp) rfl ?_
  rintro v6 L6 ⟨rfl, Nx, rfl, Bx⟩
  change At _ _ _ [Nx, Nr, R] _
  refine At.opsNil ?_
  refine At.norm (hk_2 ?_)
  refine At.seq fun K3 hk_3 => ?_
  refine At.region ?_
  refine op_move (nxlf rfl) rfl rfl ?_
  refine op_move (nxlf rfl) rfl rfl ?_
  refine op_nilChk (nxlf rfl) rfl rfl ?_
  refine op_fieldAddr (nxlf rfl) fl73_1 rfl rfl ?_
  refine op_loadB (nxlf rfl) sc22 rfl Bx (by first | rfl) mem0 rfl ?_
  refine op_move (nxlf rfl) rfl rfl ?_
  refine op_lit (nxla rfl) Tryd.underlying22 ze5 sz5 (.cons rfl .nil) rfl rfl (by simp [Value.cells]) rfl rfl rfl (fun N13 a13 r13 => ?_)
  simp only [flatV, List.flatMap_cons, List.flatMap_nil, Value.cells, List.append_nil, List.cons_append, List.nil_append] at r13
  have s13 := r13.rsl
  change Row N13 _ 1 a13 1 1 (u8s [x]) at r13
  have s13 := r13.rsl
  refine op_append (nxl rfl) Tryd.underlying22 Tryd.underlying22 te5 rfl rfl hr s13 (by first | exact mem0 | exact mem1 | exact mem2 | exact mem3 | exact mem4 | exact mem5 | exact mem6 | exact mem7 | exact mem8 | exact mem9) (by first | exact one_u8s _ | exact one_u64s _ | exact one_u32s _ | (intro u hu; simp at hu; subst hu; rfl)) (by omega) (by omega) sel2 rfl (fun N14 a14 p14 r14 => ?_)
  have s14 := r14.rsl
  refine op_nilChk (nxlf rfl) rfl rfl ?_
  refine op_fieldAddr (nxlf rfl) fl73_1 rfl rfl ?_
  refine op_store (nxl rfl) sz22 rfl rfl rfl rfl rfl Bx (by simp) sel2 (fun Nx Bx => ?_)
  simp only [setL, List.set] at Bx
  refine At.opsNil ?_
  refine At.norm (hk_3 ?_)
  refine At.seq fun K4 hk_4 => ?_
  refine At.region ?_
  refine op_assign (nxlf rfl) rfl rfl ?_
  refine At.opsNil ?_
  refine At.norm (hk_4 ?_)
  refine At.ret (?_)
  refine At.sub (L' := [Nx, N14, R]) (.cons_cons _ (.cons_cons _ (.cons _ (.cons_cons _ (.slnil))))) ?_
  refine At.ret1 (L1 := [Nx, N14]) rfl (.tmp rfl .nil) (.refl _) (.refl _) ?_
  exact ⟨rfl, Nx, N14, a14, p14, rfl, Bx, by rw [show u8s (l ++ [x]) = u8s l ++ u8s [x] by simp [u8s]]; exact r14⟩
theorem FWStr_f (hp : p = none ∨ p = some ⟨b, 0, none⟩) (Bx : Blk Nx b 73 [.pointer p, .slice a n c]) (hr : Row Nr 5 1 a n c (u8s l)) (xs : List UInt8) (hn : n + xs.length ≤ 35184372088832) : Fn Tryd.prog 47 #[.pointer (some ⟨b, 0, none⟩), str xs] [Nx, Nr] [] (fun v L => v = .tuple #[.int .i64 (xs.length : Int), .nilIface] ∧ BldP b (n + xs.length) (l ++ xs) L) := by
  obtain ⟨i, hi, hz, hsz, hby, _, _⟩ := te5
  refine Fn.enter (vs := [.pointer (some ⟨b, 0, none⟩), str xs]) Tryd.func47 rfl rfl rfl ?_
  intro E R hR
  change At _ _ E [Nx, Nr, R] _
  refine At.seq fun K1 hk_1 => ?_
  refine At.region ?_
  refine op_assign (nxlf rfl) rfl rfl ?_
  refine op_assign (nxlf rfl) rfl rfl ?_
  refine At.opsNil ?_
  refine At.norm (hk_1 ?_)
  refine At.seq fun K2 hk_2 => ?_
  refine At.region ?_
  refine op_move (nxlf rfl) rfl rfl ?_
  refine op_call (nxl rfl) (.cons rfl .nil) (FCopy_f hp Bx) (F := [Nr, R]) Tryd.func60 rfl rfl (.refl _) (by simp) rfl ?_
  rintro v7 L7 ⟨rfl, Nx, rfl, Bx⟩
  change At _ _ _ [Nx, Nr, R] _
  refine At.opsNil ?_
  refine At.norm (hk_2 ?_)
  refine At.seq fun K3 hk_3 => ?_
  refine At.region ?_
  refine op_move (nxlf rfl) rfl rfl ?_
  refine op_move (nxlf rfl) rfl rfl ?_
  refine op_nilChk (nxlf rfl) rfl rfl ?_
  refine op_fieldAddr (nxlf rfl) fl73_1 rfl rfl ?_
  refine op_loadB (nxlf rfl) sc22 rfl Bx (by first | rfl) mem0 rfl ?_
  refine op_move (nxlf rfl) rfl rfl ?_
  refine op_appendS (nxl rfl) Tryd.underlying22 Tryd.underlying9 hi hz hsz hby rfl rfl hr (by omega) sel1 rfl (fun N14 a14 p14 r14 => ?_)
  refine op_nilChk (nxlf rfl) rfl rfl ?_
  refine op_fieldAddr (nxlf rfl) fl73_1 rfl rfl ?_
  refine op_store (nxl rfl) sz22 rfl rfl rfl rfl rfl Bx (by simp) sel1 (fun Nx Bx => ?_)
  simp only [setL, List.set] at Bx
  refine At.opsNil ?_
  refine At.norm (hk_3 ?_)
  refine At.seq fun K4 hk_4 => ?_
  refine At.region ?_
  refine op_move (nxlf rfl) rfl rfl ?_
  refine op_lenStr (nxlf rfl) Tryd.underlying9 rfl rfl ?_
  refine op_assign (nxlf rfl) rfl rfl ?_
  refine op_assign (nxlf rfl) rfl rfl ?_
  refine At.opsNil ?_
  refine At.norm (hk_4 ?_)
  refine At.ret (?_)
  refine At.retN (L1 := [Nx, N14]) rfl (.tmp rfl (.tmp rfl .nil)) rfl (.refl _) (.refl _) ?_
  exact ⟨rfl, Nx, N14, a14, p14, rfl, Bx, by rw [show u8s (l ++ xs) = u8s l ++ u8s xs by simp [u8s]]; exact r14⟩
theorem FString_f (Bx : Blk Nx b 73 [q, .slice a n c]) (hr : Row Nr 5 1 a n c (u8s l)) (h0 : 0 < n) : Fn Tryd.prog 49 #[.pointer (some ⟨b, 0, none⟩)] [Nx, Nr] [] (fun v L => v = str l ∧ L = []) := by
  have hc1 := hr.2.1
  have hc2 : c ≤ 9223372036854775807 := hr.2.2.1
  obtain ⟨g, rfl⟩ : ∃ g, a = some ⟨g, 0, none⟩ := by
    rcases hr.2.2.2 with ⟨_, h, _⟩ | ⟨g, _, h, _⟩
    · omega
    · exact ⟨g, h⟩
  refine Fn.enter (vs := [.pointer (some ⟨b, 0, none⟩)]) Tryd.func49 rfl rfl rfl ?_
  intro E R hR
  change At _ _ E [Nx, Nr, R] _
  refine At.seq fun K1 hk_1 => ?_
  refine At.region ?_
  refine op_assign (nxlf rfl) rfl rfl ?_
  refine At.opsNil ?_
  refine At.norm (hk_1 ?_)
  refine At.seq fun K2 hk_2 => ?_
  refine At.drawn [10] [0,1,2,3,5,6,7,8,9,4,10,11] (by kernel_rfl) (by kernel_rfl) ?_
  refine op_move (nxof rfl rfl rfl (by kernel_rfl)) rfl rfl ?_
  refine op_nilChk (nxof rfl rfl rfl (by kernel_rfl)) rfl rfl ?_
  refine op_fieldAddr (nxof rfl rfl rfl (by kernel_rfl)) fl73_1 rfl rfl ?_
  refine op_loadB (nxof rfl rfl rfl (by kernel_rfl)) sc22 rfl Bx (by first | rfl) mem0 rfl ?_
  refine op_move (nxof rfl rfl rfl (by kernel_rfl)) rfl rfl ?_
  refine op_nilChk (nxof rfl rfl rfl (by kernel_rfl)) rfl rfl ?_
  refine op_fieldAddr (nxof rfl rfl rfl (by kernel_rfl)) fl73_1 rfl rfl ?_
  refine op_loadB (nxof rfl rfl rfl (by kernel_rfl)) sc22 rfl Bx (by first | rfl) mem0 rfl ?_
  refine op_lenS (nxof rfl rfl rfl (by kernel_rfl)) se22 rfl rfl ?_
  -- an operation that writes, not last
  refine op_sliceData (nxoa rfl rfl rfl) rfl (by omega) rfl ?_
  refine op_unsafeStr (nxos rfl rfl rfl rfl) Tryd.underlying87 (by kernel_rfl) rfl rfl hr h0 (by omega) sel1 rfl ?_
  refine op_assign (nxof rfl rfl rfl (by kernel_rfl)) rfl rfl ?_
  refine At.oneNil ?_
  refine At.norm (hk_2 ?_)
  refine At.ret (?_)
  refine At.sub (L' := [R]) (.cons _ (.cons_cons _ (.slnil))) ?_
  refine At.ret1 (L1 := []) rfl (.tmp rfl .nil) (.refl _) (.refl _) ?_
  exact ⟨rfl, rfl⟩
end
end Go.Proofs.YtdplcfineaikjaaDoor
/- Helps: contracts out of the kit's form, strings joined, quarrykeep.Twin. No condition. -/
namespace Go.Proofs.YtdplcfineaikjaaDoor
set_option linter.unusedVariables false
set_option linter.unusedSimpArgs false
open Go Go.RowKit
theorem Fn.of_val {P : Program} {f : FuncId} {args : Array Value} {Lr : List Heaplet} {X : Value} (h : ∀ w, (∀ N ∈ Lr, N.le (whole w)) → Calls P f args w (Ret w fun v _ => v = X)) : Fn P f args [] Lr (fun v L => v = X ∧ L = []) :=
  Fn.of_ret h fun _ _ _ hv _ => ⟨[], ⟨hv, rfl⟩, fun N hN => absurd hN List.not_mem_nil, .nil⟩
theorem Fn.of_same0 {P : Program} {f : FuncId} {args : Array Value} {X : Value} (h : ∀ w, Calls P f args w fun e w' => e = .returned X ∧ w' = w) : Fn P f args [] [] (fun v L => v = X ∧ L = []) :=
  Fn.of_val fun w _ => (h w).mono fun e w' ⟨he, hw⟩ => by subst he; subst hw; exact ⟨_, rfl, rfl, Below.refl _ _⟩
theorem Fn.of_alloc {P : Program} {f : FuncId} {args : Array Value} {Lr : List Heaplet} {X : Value} {o : Obj} (h : ∀ w, (∀ N ∈ Lr, N.le (whole w)) → Calls P f args w fun e w' => e = .returned X ∧ w' = w.alloc o) : Fn P f args [] Lr (fun v L => v = X ∧ L = []) :=
  Fn.of_val fun w hr => (h w hr).mono fun e w' ⟨he, hw⟩ => by subst he; subst hw; exact ⟨_, rfl, rfl, (Below.refl _ _).alloc (Nat.le_refl _) _⟩
section
variable {P : Program} {n : Nat} {l : List (Nat × Value)} {E : World} {L Ls : List Heaplet} {X Y : Act → World → Prop} {d : Nat} {t t' ty : TypeId} {x y : Operand}
theorem bytes_join (a b : List UInt8) : (⟨a.toArray⟩ ++ ⟨b.toArray⟩ : ByteArray) = ⟨(a ++ b).toArray⟩ := by
  apply ByteArray.ext
  simp
theorem op_addS {a b : List UInt8} {pos : _} {aft : _} {g : _} (s : NxF P n l E L Ls ⟨some d, .binOp .add t x y t', ty, pos, aft, g⟩ X Y) (hx : ev l x = some (str a)) (hy : ev l y = some (str b)) (hl : a.length + b.length ≤ 9223372036854775807) (hn : Nat.ble (d + 1) n = true) (h : At n ((d, str (a ++ b)) :: l) E L Y) : At n l E L X :=
  op_bin s hx hy (fun w => eqGuard_string w) (fun w => by
    have e : ¬ (((⟨a.toArray⟩ : ByteArray).size + (⟨b.toArray⟩ : ByteArray).size : Nat) : Int) > IntKind.i64.max := by
      have e1 : (⟨a.toArray⟩ : ByteArray).size = a.length := rfl
      have e2 : (⟨b.toArray⟩ : ByteArray).size = b.length := rfl
      have e3 : IntKind.i64.max = 9223372036854775807 := rfl
      rw [e1, e2, e3]; omega
    simp only [str, binOp, Op.stringOp]
    rw [if_neg e, bytes_join]; rfl) hn h
end
theorem KTwin_f {N : Heaplet} {ao : Option Addr} {n cap : Nat} {l : List UInt8} (h : RSl N 1 ao n cap (u8s l)) (m : Nat) (q : Int) (hq : q = (m : Int)) (hm : m ≤ 140737488351232) :
    Fn Tryd.prog 25 #[.slice ao n cap, .int .i64 q] [] [N] (fun v L => ∃ M a c, v = .slice a (l.take m).length c ∧ L = [M] ∧ Row M 5 1 a (l.take m).length c (u8s (l.take m))) := by
  have hlen := h.len8
  have hcap := h.cap63
  refine Fn.enter (vs := [.slice ao n cap, .int .i64 q]) Tryd.func25 rfl rfl rfl ?_
  intro E R hR
  have h := h.le (hR N (by simp))
  change At _ _ E [R] _
  refine At.seq fun K1 hk_1 => ?_
  refine At.region ?_
  refine op_assign (nxlf rfl) rfl rfl ?_
  refine At.opsNil ?_
  refine At.norm (hk_1 ?_)
  refine At.seq fun K2 hk_2 => ?_
  refine At.seq fun K3 hk_3 => ?_
  refine At.region ?_
  refine op_move (nxlf rfl) rfl rfl ?_
  refine op_lenS (nxlf rfl) se22 rfl rfl ?_
  refine op_move (nxlf rfl) rfl rfl ?_
  refine op_gtr (nxlf rfl) rfl rfl rfl ?_
  refine At.opsNil ?_
  refine At.norm (hk_3 ?_)
  refine At.condP rfl (fun c8 => ?_) (fun c8 => ?_)
  · refine At.region ?_
    refine op_move (nxlf rfl) rfl rfl ?_
    refine op_move (nxlf rfl) rfl rfl ?_
    refine op_slice0 (nxlf rfl) se22 rfl (.some rfl (show _ = (((m : Nat)) : Int) from by omega)) .none (by omega) (by omega) (by simp) rfl ?_
    have s11 := h.take8 (hi := m) (m := cap) (by omega) (by omega) (by omega)
    refine op_assign (nxlf rfl) rfl rfl ?_
    refine At.opsNil ?_
    refine At.norm (hk_2 ?_)
    refine At.seq fun K4 hk_4 => ?_
    refine At.region ?_
    refine op_lit (nxla rfl) Tryd.underlying22 ze5 sz5 .nil rfl rfl (by simp [Value.cells]) rfl rfl rfl (fun N12 a12 r12 => ?_)
    simp only [flatV, List.flatMap_cons, List.flatMap_nil, Value.cells, List.append_nil, List.cons_append, List.nil_append] at r12
    have s12 := r12.rsl
    refine op_move (nxlf rfl) rfl rfl ?_
    refine op_append (nxl rfl) Tryd.underlying22 Tryd.underlying22 te5 rfl rfl r12 (by assumption) (by first | exact mem0 | exact mem1 | exact mem2 | exact mem3 | exact mem4 | exact mem5 | exact mem6 | exact mem7 | exact mem8 | exact mem9) (by first | exact one_u8s _ | exact one_u64s _ | exact one_u32s _ | (intro u hu; simp at hu; subst hu; rfl)) (by omega) (by omega) sel0 rfl (fun N14 a14 p14 r14 => ?_)
    have s14 := r14.rsl
    refine op_assign (nxlf rfl) rfl rfl ?_
    refine At.opsNil ?_
    refine At.norm (hk_4 ?_)
    refine At.ret (?_)
    refine At.ret1 (L1 := [N14]) rfl (.tmp rfl .nil) (.refl _) (.refl _) ?_
    rw [List.nil_append, Nat.zero_add] at r14
    exact ⟨N14, a14, p14, by rw [List.length_take, hlen, Nat.min_eq_left (by omega), Nat.zero_add], rfl, by rw [List.length_take, hlen, Nat.min_eq_left (by omega)]; exact r14⟩
  · refine At.skip ?_
    refine At.norm (hk_2 ?_)
    refine At.seq fun K5 hk_5 => ?_
    refine At.region ?_
    refine op_lit (nxla rfl) Tryd.underlying22 ze5 sz5 .nil rfl rfl (by simp [Value.cells]) rfl rfl rfl (fun N12 a12 r12 => ?_)
    simp only [flatV, List.flatMap_cons, List.flatMap_nil, Value.cells, List.append_nil, List.cons_append, List.nil_append] at r12
    have s12 := r12.rsl
    refine op_move (nxlf rfl) rfl rfl ?_
    refine op_append (nxl rfl) Tryd.underlying22 Tryd.underlying22 te5 rfl rfl r12 (by assumption) (by first | exact mem0 | exact mem1 | exact mem2 | exact mem3 | exact mem4 | exact mem5 | exact mem6 | exact mem7 | exact mem8 | exact mem9) (by first | exact one_u8s _ | exact one_u64s _ | exact one_u32s _ | (intro u hu; simp at hu; subst hu; rfl)) (by omega) (by omega) sel0 rfl (fun N14 a14 p14 r14 => ?_)
    have s14 := r14.rsl
    refine op_assign (nxlf rfl) rfl rfl ?_
    refine At.opsNil ?_
    refine At.norm (hk_5 ?_)
    refine At.ret (?_)
    refine At.ret1 (L1 := [N14]) rfl (.tmp rfl .nil) (.refl _) (.refl _) ?_
    rw [List.nil_append, Nat.zero_add] at r14
    have e : l.take m = l := List.take_of_length_le (by omega)
    exact ⟨N14, a14, p14, by rw [e, hlen, Nat.zero_add], rfl, by rw [e, hlen]; exact r14⟩
end Go.Proofs.YtdplcfineaikjaaDoor
/- hexa.Text and the reference's: bytes as hex digits. Condition: at most 2^40 bytes. -/
namespace Go.Proofs.YtdplcfineaikjaaDoor
set_option linter.unusedVariables false
set_option linter.unusedSimpArgs false
open Go Go.RowKit
def hexD : List UInt8 := [48, 49, 50, 51, 52, 53, 54, 55, 56, 57, 97, 98, 99, 100, 101, 102]
/-- The two digits of a byte. -/
def hexB (b : UInt8) : List UInt8 := [hexD.getD (b.toNat / 16) 0, hexD.getD (b.toNat % 16) 0]
def hexL (l : List UInt8) : List UInt8 := l.flatMap hexB
def hexT (l : List UInt8) : List UInt8 := 48 :: 120 :: hexL l
theorem hexL_len (l : List UInt8) : (hexL l).length = 2 * l.length := by
  induction l with
  | nil => rfl
  | cons b t ih => rw [hexL, List.flatMap_cons, List.length_append]; change 2 + (hexL t).length = _; rw [ih, List.length_cons]; omega
theorem hexT_len (l : List UInt8) : (hexT l).length = 2 * l.length + 2 := by rw [hexT, List.length_cons, List.length_cons, hexL_len]
theorem hexL_take {l : List UInt8} {k : Nat} (h : k < l.length) : hexL (l.take (k + 1)) = hexL (l.take k) ++ hexB (l.getD k 0) := by
  have e : l.take (k + 1) = l.take k ++ [l.getD k 0] := by
    rw [List.take_add_one, List.getD_eq_getElem?_getD, List.getElem?_eq_getElem h]; rfl
  rw [e]
  simp [hexL, List.flatMap_append]
theorem shr4 : ∀ n : Nat, n < 256 → (n : Int) / 2 ^ (min (4 : Int).toNat IntKind.u8.bits) = ((n / 16 : Nat) : Int) := by
  intro n h
  show (n : Int) / 2 ^ 4 = _
  omega
theorem and15 : ∀ n : Nat, n < 256 → bits .and .u8 (n : Int) 15 = ((n % 16 : Nat) : Int) := by decide +kernel
theorem hexD_len : hexD.length = 16 := rfl
section
variable {N : Heaplet} {ao : Option Addr} {n cap : Nat} {l : List UInt8}
set_option maxRecDepth 100000 in
theorem FText_f (h : RSl N 1 ao n cap (u8s l)) (hn : n ≤ 1099511627776) : Fn Tryd.prog 31 #[.slice ao n cap] [] [N] (fun v L => v = str (hexT l) ∧ L = []) := by
  have hlen := h.len8
  refine Fn.enter (vs := [.slice ao n cap]) Tryd.func31 rfl rfl rfl ?_
  intro E R hR
  have h := h.le (hR N (by simp))
  change At _ _ E [R] _
  refine At.seq fun K1 hk_1 => ?_
  refine At.region ?_
  refine op_assign (nxlf rfl) rfl rfl ?_
  refine At.opsNil ?_
  refine At.norm (hk_1 ?_)
  refine At.seq fun K2 hk_2 => ?_
  refine At.region ?_
  refine op_alloc (nxla rfl) ze73 rfl (fun N3 b3 B3 => ?_)
  change Blk N3 b3 _ [.pointer none, .slice none 0 0] at B3
  refine At.opsNil ?_
  refine At.norm (hk_2 ?_)
  refine At.seq fun K3 hk_3 => ?_
  refine At.region ?_
  refine At.empty ?_
  refine At.perm sel2 ?_
  refine At.perm sel1 ?_
  refine At.perm sel2 ?_
  refine op_call (nxl rfl) (.cons rfl (.cons rfl .nil)) (FWStr_f (.inl rfl) B3 (show Row nilH 5 1 none 0 0 (u8s []) from Row.nil _ _ _) [48, 120] (by decide)) (F := [R]) Tryd.func47 rfl rfl (.refl _) (by simp) rfl ?_
  rintro v6 L6 ⟨rfl, N3, M6, a6, c6, rfl, B3, r6⟩
  change At _ _ _ [N3, M6, R] _
  refine At.opsNil ?_
  refine At.norm (hk_3 ?_)
  refine At.seq fun K4 hk_4 => ?_
  refine At.seq fun K5 hk_5 => ?_
  refine At.region ?_
  refine op_move (nxlf rfl) rfl rfl ?_
  refine op_lenS (nxlf rfl) se22 rfl rfl ?_
  refine op_move (nxlf rfl) rfl rfl ?_
  refine At.opsNil ?_
  refine At.norm (hk_5 ?_)
  refine At.block ?_
  refine At.loop (fun fr_ hp_ ms_ => ∃ (k m : Nat) (a : Option Addr) (c : Nat) (Na N3 : Heaplet), fr_ = [(3, .pointer (some ⟨b3, 0, none⟩)), (7, .slice ao n cap), (8, .int .i64 (n : Int)), (9, .int .i64 (k : Int))] ∧ hp_ = [N3, Na, R] ∧ n - k = ms_ ∧ (k ≤ n) ∧ (m = 2 * k + 2) ∧ (Blk N3 b3 73 [.pointer (some ⟨b3, 0, none⟩), .slice a m c]) ∧ (Row Na 5 1 a m c (u8s (hexT (l.take k))))) ?_ (.refl _) ⟨0, _, a6, c6, M6, N3, rfl, rfl, rfl, Nat.zero_le _, rfl, B3, r6⟩ ?_
  · exact .cons (by first | exact lkI rfl (by omega) | rfl) (.cons (by first | exact lkI rfl (by omega) | rfl) (.cons (by first | exact lkI rfl (by omega) | rfl) (.cons (by first | exact lkI rfl (by omega) | rfl) .nil)))
  rintro _ _ _ ⟨k, m, a, c, Na, N3, rfl, rfl, rfl, hk, hm, B3, ra⟩
  refine At.seq fun K6 hk_6 => ?_
  refine At.region ?_
  refine op_lss (nxlf rfl) rfl rfl rfl ?_
  refine At.opsNil ?_
  refine At.norm (hk_6 ?_)
  refine At.seq fun K7 hk_7 => ?_
  refine At.condP rfl (fun c10 => ?_) (fun c10 => ?_)
  · refine At.skip ?_
    refine At.norm (hk_7 ?_)
    refine At.seq fun K8 hk_8 => ?_
    refine At.block ?_
    refine At.seq fun K9 hk_9 => ?_
    refine At.region ?_
    refine op_idx1 (nxlf rfl) se22 rfl rfl h (show _ = (((k : Nat)) : Int) from by omega) (by omega) rfl ?_
    refine op_loadE (nxlf rfl) sc5 rfl h (by first | exact get8 (by omega) | exact get64 (by omega) | exact get32 (by omega)) (by first | exact mem0 | exact mem1 | exact mem2 | exact mem3 | exact mem4 | exact mem5 | exact mem6 | exact mem7 | exact mem8 | exact mem9) rfl ?_
    have hx := (l.getD k 0).toNat_lt
    refine op_assign (nxlf rfl) rfl rfl ?_
    refine At.opsNil ?_
    refine At.norm (hk_9 ?_)
    refine At.seq fun K10 hk_10 => ?_
    refine At.region ?_
    refine op_move (nxlf rfl) rfl rfl ?_
    refine op_shrW (nxlf rfl) rfl rfl (by omega) (by omega) rfl ?_
    rw [shr4 _ hx]
    refine op_idxS (bs := hexD) (nxlf rfl) Tryd.underlying9 rfl rfl (show _ = ((((l.getD k 0).toNat / 16 : Nat)) : Int) from by omega) (by rw [hexD_len]; omega) rfl ?_
    refine op_call (nxl rfl) (.cons rfl (.cons rfl .nil)) (FWByte_f (.inr rfl) B3 ra (by omega) (hexD.getD ((l.getD k 0).toNat / 16) 0)) (F := [R]) Tryd.func48 rfl rfl (.refl _) (by simp) rfl ?_
    rintro v16 L16 ⟨rfl, N3, N16, a16, c16, rfl, B3, r16⟩
    change At _ _ _ [N3, N16, R] _
    refine At.opsNil ?_
    refine At.norm (hk_10 ?_)
    refine At.region ?_
    refine op_move (nxlf rfl) rfl rfl ?_
    refine op_bits (by simp) (nxlf rfl) rfl rfl rfl ?_
    rw [and15 _ hx]
    refine op_idxS (bs := hexD) (nxlf rfl) Tryd.underlying9 rfl rfl (show _ = ((((l.getD k 0).toNat % 16 : Nat)) : Int) from by omega) (by rw [hexD_len]; omega) rfl ?_
    refine op_call (nxl rfl) (.cons rfl (.cons rfl .nil)) (FWByte_f (.inr rfl) B3 r16 (by omega) (hexD.getD ((l.getD k 0).toNat % 16) 0)) (F := [R]) Tryd.func48 rfl rfl (.refl _) (by simp) rfl ?_
    rintro v20 L20 ⟨rfl, N3, N20, a20, c20, rfl, B3, r20⟩
    change At _ _ _ [N3, N20, R] _
    refine At.opsNil ?_
    refine At.inNorm ?_
    refine At.norm (hk_8 ?_)
    refine At.region ?_
    refine op_addI (nxlf rfl) rfl rfl (by omega) (by omega) rfl ?_
    refine op_move (nxlf rfl) rfl rfl ?_
    refine At.opsNil ?_
    refine At.norm ?_
    refine At.back ?_ (.refl _) ⟨k + 1, m + 1 + 1, a20, c20, N20, N3, rfl, rfl, rfl, by omega, by omega, B3, by rw [hexT, hexL_take (by omega)]; have e := r20; simp only [hexT, List.cons_append, List.append_assoc] at e; exact e⟩ ?_
    · exact .cons (by first | exact lkI rfl (by omega) | rfl) (.cons (by first | exact lkI rfl (by omega) | rfl) (.cons (by first | exact lkI rfl (by omega) | rfl) (.cons (by first | exact lkI rfl (by omega) | rfl) .nil)))
    · omega
  · refine At.exit (At.thenExit (At.thenExit (At.inHit ?_)))
    refine At.norm (hk_4 ?_)
    refine At.seq fun K11 hk_11 => ?_
    refine At.region ?_
    refine op_call (nxl rfl) (.cons rfl .nil) (FString_f B3 ra (by omega)) (F := [R]) Tryd.func49 rfl rfl (.refl _) (by simp) rfl ?_
    rintro v22 L22 ⟨rfl, rfl⟩
    change At _ _ _ [R] _
    refine op_assign (nxlf rfl) rfl rfl ?_
    refine At.opsNil ?_
    refine At.norm (hk_11 ?_)
    refine At.ret (?_)
    refine At.ret1 (L1 := []) rfl (.tmp rfl .nil) (.refl _) (.refl _) ?_
    exact ⟨by rw [List.take_of_length_le (by omega)], rfl⟩
set_option maxRecDepth 100000 in
theorem rHexes_f (h : RSl N 1 ao n cap (u8s l)) (hn : n ≤ 1099511627776) : Fn Tryd.prog 51 #[.slice ao n cap] [] [N] (fun v L => v = str (hexL l) ∧ L = []) := by
  have hlen := h.len8
  refine Fn.enter (vs := [.slice ao n cap]) Tryd.func51 rfl rfl rfl ?_
  intro E R hR
  have h := h.le (hR N (by simp))
  change At _ _ E [R] _
  refine At.seq fun K1 hk_1 => ?_
  refine At.region ?_
  refine op_assign (nxlf rfl) rfl rfl ?_
  refine At.opsNil ?_
  refine At.norm (hk_1 ?_)
  refine At.seq fun K2 hk_2 => ?_
  refine At.region ?_
  refine op_assign (nxlf rfl) rfl rfl ?_
  refine At.opsNil ?_
  refine At.norm (hk_2 ?_)
  refine At.seq fun K3 hk_3 => ?_
  refine At.seq fun K4 hk_4 => ?_
  refine At.region ?_
  refine op_assign (nxlf rfl) rfl rfl ?_
  refine At.opsNil ?_
  refine At.norm (hk_4 ?_)
  refine At.block ?_
  refine At.empty ?_
  refine At.loop (fun fr_ hp_ ms_ => ∃ (k m : Nat) (a : Option Addr) (c : Nat) (Na : Heaplet), fr_ = [(0, .slice ao n cap), (3, .slice a m c), (4, .int .i64 (k : Int))] ∧ hp_ = [Na, R] ∧ n - k = ms_ ∧ (k ≤ n) ∧ (m = 2 * k) ∧ (Row Na 5 1 a m c (u8s (hexL (l.take k))))) ?_ (.refl _) ⟨0, 0, none, 0, nilH, rfl, rfl, rfl, Nat.zero_le _, rfl, Row.nil _ _ _⟩ ?_
  · exact .cons (by first | exact lkI rfl (by omega) | rfl) (.cons (by first | exact lkI rfl (by omega) | rfl) (.cons (by first | exact lkI rfl (by omega) | rfl) .nil))
  rintro _ _ _ ⟨k, m, a, c, Na, rfl, rfl, rfl, hk, hm, ra⟩
  refine At.seq fun K5 hk_5 => ?_
  refine At.seq fun K6 hk_6 => ?_
  refine At.region ?_
  refine op_move (nxlf rfl) rfl rfl ?_
  refine op_move (nxlf rfl) rfl rfl ?_
  refine op_lenS (nxlf rfl) se22 rfl rfl ?_
  refine op_lss (nxlf rfl) rfl rfl rfl ?_
  refine At.opsNil ?_
  refine At.norm (hk_6 ?_)
  refine At.condP rfl (fun c8 => ?_) (fun c8 => ?_)
  · have hx := (l.getD k 0).toNat_lt
    refine At.skip ?_
    refine At.norm (hk_5 ?_)
    refine At.seq fun K7 hk_7 => ?_
    refine At.block ?_
    refine At.drawn [14] [0,1,2,3,4,5,6,7,8,9,10,11,12,13,14,15] (by kernel_rfl) (by kernel_rfl) ?_
    refine op_move (nxof rfl rfl rfl (by kernel_rfl)) rfl rfl ?_
    refine op_move (nxof rfl rfl rfl (by kernel_rfl)) rfl rfl ?_
    refine op_move (nxof rfl rfl rfl (by kernel_rfl)) rfl rfl ?_
    refine op_idx1 (nxof rfl rfl rfl (by kernel_rfl)) se22 rfl rfl h (show _ = (((k : Nat)) : Int) from by omega) (by omega) rfl ?_
    refine op_loadE (nxof rfl rfl rfl (by kernel_rfl)) sc5 rfl h (by first | exact get8 (by omega) | exact get64 (by omega) | exact get32 (by omega)) (by first | exact mem0 | exact mem1 | exact mem2 | exact mem3 | exact mem4 | exact mem5 | exact mem6 | exact mem7 | exact mem8 | exact mem9) rfl ?_
    refine op_quo8 (nxof rfl rfl rfl (by kernel_rfl)) rfl rfl (by omega) (by omega) (by omega) rfl ?_
    rw [show ((l.getD k 0).toNat : Int) / 16 = (((l.getD k 0).toNat / 16 : Nat) : Int) by omega]
    refine op_idxS (bs := hexD) (nxof rfl rfl rfl (by kernel_rfl)) Tryd.underlying9 rfl rfl (show _ = ((((l.getD k 0).toNat / 16 : Nat)) : Int) from by omega) (by rw [hexD_len]; omega) rfl ?_
    refine op_move (nxof rfl rfl rfl (by kernel_rfl)) rfl rfl ?_
    refine op_move (nxof rfl rfl rfl (by kernel_rfl)) rfl rfl ?_
    refine op_idx1 (nxof rfl rfl rfl (by kernel_rfl)) se22 rfl rfl h (show _ = (((k : Nat)) : Int) from by omega) (by omega) rfl ?_
    refine op_loadE (nxof rfl rfl rfl (by kernel_rfl)) sc5 rfl h (by first | exact get8 (by omega) | exact get64 (by omega) | exact get32 (by omega)) (by first | exact mem0 | exact mem1 | exact mem2 | exact mem3 | exact mem4 | exact mem5 | exact mem6 | exact mem7 | exact mem8 | exact mem9) rfl ?_
    refine op_rem (nxof rfl rfl rfl (by kernel_rfl)) rfl rfl (by omega) (by omega) rfl ?_
    refine op_idxS (bs := hexD) (nxof rfl rfl rfl (by kernel_rfl)) Tryd.underlying9 rfl rfl (show _ = ((((l.getD k 0).toNat % 16 : Nat)) : Int) from by omega) (by rw [hexD_len]; omega) rfl ?_
    refine op_lit (nxoa rfl rfl rfl) Tryd.underlying22 ze5 sz5 (.cons rfl (.cons rfl .nil)) rfl rfl (by simp [Value.cells]) rfl rfl rfl (fun N24 a24 r24 => ?_)
    simp only [flatV, List.flatMap_cons, List.flatMap_nil, Value.cells, List.append_nil, List.cons_append, List.nil_append] at r24
    have s24 := r24.rsl
    change Row N24 _ 1 a24 2 2 (u8s (hexB (l.getD k 0))) at r24
    have s24 := r24.rsl
    refine op_append (nxos rfl rfl rfl rfl) Tryd.underlying22 Tryd.underlying22 te5 rfl rfl ra s24 (by first | exact mem0 | exact mem1 | exact mem2 | exact mem3 | exact mem4 | exact mem5 | exact mem6 | exact mem7 | exact mem8 | exact mem9) (by first | exact one_u8s _ | exact one_u64s _ | exact one_u32s _ | (intro u hu; simp at hu; subst hu; rfl)) (by omega) (by omega) sel1 rfl (fun N25 a25 p25 r25 => ?_)
    have s25 := r25.rsl
    refine op_assign (nxof rfl rfl rfl (by kernel_rfl)) rfl rfl ?_
    refine At.oneNil ?_
    refine At.inNorm ?_
    refine At.norm (hk_7 ?_)
    refine At.region ?_
    refine op_move (nxlf rfl) rfl rfl ?_
    refine op_addI (nxlf rfl) rfl rfl (by omega) (by omega) rfl ?_
    refine op_assign (nxlf rfl) rfl rfl ?_
    refine At.opsNil ?_
    refine At.norm ?_
    refine At.sub (L' := [N25, R]) (.cons_cons _ (.cons _ (.cons_cons _ (.slnil)))) ?_
    refine At.back ?_ (.refl _) ⟨k + 1, m + 2, a25, p25, N25, rfl, rfl, rfl, by omega, by omega, by rw [hexL_take (by omega), show u8s (hexL (l.take k) ++ hexB (l.getD k 0)) = u8s (hexL (l.take k)) ++ u8s (hexB (l.getD k 0)) by simp [u8s]]; exact r25⟩ ?_
    · exact .cons (by first | exact lkI rfl (by omega) | rfl) (.cons (by first | exact lkI rfl (by omega) | rfl) (.cons (by first | exact lkI rfl (by omega) | rfl) .nil))
    · omega
  · refine At.exit (At.thenExit (At.thenExit (At.inHit ?_)))
    refine At.norm (hk_3 ?_)
    refine At.seq fun K8 hk_8 => ?_
    refine At.region ?_
    refine op_move (nxlf rfl) rfl rfl ?_
    have sa := ra.rsl
    refine op_str (nxlf rfl) Tryd.underlying22 Tryd.underlying5 Tryd.underlying9 rfl (by assumption) (by first | exact mem0 | exact mem1 | exact mem2 | exact mem3 | exact mem4 | exact mem5 | exact mem6 | exact mem7 | exact mem8 | exact mem9) rfl ?_
    refine op_assign (nxlf rfl) rfl rfl ?_
    refine At.opsNil ?_
    refine At.norm (hk_8 ?_)
    refine At.ret (?_)
    refine At.sub (L' := [R]) (.cons _ (.cons_cons _ (.slnil))) ?_
    refine At.ret1 (L1 := []) rfl (.tmp rfl .nil) (.refl _) (.refl _) ?_
    exact ⟨by rw [List.take_of_length_le (by omega)], rfl⟩
theorem rText_f (h : RSl N 1 ao n cap (u8s l)) (hn : n ≤ 1099511627776) : Fn Tryd.prog 35 #[.slice ao n cap] [] [N] (fun v L => v = str (hexT l) ∧ L = []) := by
  have hlen := h.len8
  have hl2 := hexL_len l
  refine Fn.enter (vs := [.slice ao n cap]) Tryd.func35 rfl rfl rfl ?_
  intro E R hR
  have h := h.le (hR N (by simp))
  change At _ _ E [R] _
  refine At.seq fun K1 hk_1 => ?_
  refine At.region ?_
  refine op_assign (nxlf rfl) rfl rfl ?_
  refine At.opsNil ?_
  refine At.norm (hk_1 ?_)
  refine At.seq fun K2 hk_2 => ?_
  refine At.region ?_
  refine op_move (nxlf rfl) rfl rfl ?_
  refine op_callA (nxla rfl) (.cons rfl .nil) (rHexes_f h hn) Tryd.func51 rfl rfl (by simp) rfl ?_
  rintro v4 L4 ⟨rfl, rfl⟩
  change At _ _ _ [R] _
  refine op_addS (a := [48, 120]) (nxlf rfl) rfl rfl (by simp; omega) rfl ?_
  refine op_assign (nxlf rfl) rfl rfl ?_
  refine At.opsNil ?_
  refine At.norm (hk_2 ?_)
  refine At.ret (?_)
  refine At.ret1 (L1 := []) rfl (.tmp rfl .nil) (.refl _) (.refl _) ?_
  exact ⟨rfl, rfl⟩
end
end Go.Proofs.YtdplcfineaikjaaDoor
/- Contracts of Go's library at this program, in plain words (written by the kit's tool lay-plain). No condition. -/
namespace Go.Proofs
set_option linter.unusedVariables false
set_option linter.unusedSimpArgs false
open Go.Shelf
def Tryd.lays137_ren : Go.Shelf.Ren := ⟨fun | 137 => 98 | 217 => 87 | 266 => 95 | n => n, fun | 9 => 9 | 5 => 5 | 3 => 3 | n => n, fun | n => n⟩
theorem Tryd.lays137 : Go.Proofs.Lays.n137 Tryd.prog Tryd.lays137_ren := {
  mixed := by kernel_rfl
  f137 := Tryd.func98.trans (congrArg some (by kernel_rfl))
  f217 := Tryd.func87.trans (congrArg some (by kernel_rfl))
  f266 := Tryd.func95.trans (congrArg some (by kernel_rfl))
  t3 := Tryd.underlying3
  a3 := Tryd.isAgg3
  z3 := Tryd.sizeOf3
  v3 := Tryd.zeroValue3
  t5 := Tryd.underlying5
  a5 := Tryd.isAgg5
  z5 := Tryd.sizeOf5
  v5 := Tryd.zeroValue5
  t9 := Tryd.underlying9
  a9 := Tryd.isAgg9
  z9 := Tryd.sizeOf9
  v9 := Tryd.zeroValue9 }
open Go.RowKit in
theorem Tryd.strings_IndexByte (s : ByteArray) (c : Int) (w : World) :
    Calls Tryd.prog 98 #[.string s, .int .u8 c] w fun e w' => e = .returned (.int .i64 (Lib.indexByte s.data.toList c.toNat.toUInt8)) ∧ w' = w := Any.strings_IndexByte Tryd.lays137 s c w
def Tryd.lays204_ren : Go.Shelf.Ren := ⟨fun | 204 => 91 | 262 => 97 | 313 => 100 | 274 => 101 | 275 => 102 | n => n, fun | 21 => 21 | 4 => 4 | 3 => 3 | 162 => 144 | 203 => 142 | 160 => 145 | 46 => 69 | 0 => 0 | 208 => 151 | 51 => 92 | 206 => 149 | n => n, fun | 13 => 8 | n => n⟩
theorem Tryd.lays204 : Go.Proofs.Lays.n204 Tryd.prog Tryd.lays204_ren := {
  mixed := by kernel_rfl
  f204 := Tryd.func91.trans (congrArg some (by kernel_rfl))
  f262 := Tryd.func97.trans (congrArg some (by kernel_rfl))
  f274 := Tryd.func101.trans (congrArg some (by kernel_rfl))
  f275 := Tryd.func102.trans (congrArg some (by kernel_rfl))
  f313 := Tryd.func100.trans (congrArg some (by kernel_rfl))
  t0 := Tryd.underlying0
  a0 := Tryd.isAgg0
  z0 := Tryd.sizeOf0
  v0 := Tryd.zeroValue0
  t3 := Tryd.underlying3
  a3 := Tryd.isAgg3
  z3 := Tryd.sizeOf3
  v3 := Tryd.zeroValue3
  t4 := Tryd.underlying4
  a4 := Tryd.isAgg4
  z4 := Tryd.sizeOf4
  v4 := Tryd.zeroValue4
  t21 := Tryd.underlying21
  a21 := Tryd.isAgg21
  z21 := Tryd.sizeOf21
  v21 := Tryd.zeroValue21
  t46 := Tryd.underlying69
  a46 := Tryd.isAgg69
  z46 := Tryd.sizeOf69
  v46 := Tryd.zeroValue69
  t51 := Tryd.underlying92
  a51 := Tryd.isAgg92
  z51 := Tryd.sizeOf92
  v51 := Tryd.zeroValue92
  t160 := Tryd.underlying145
  a160 := Tryd.isAgg145
  z160 := Tryd.sizeOf145
  v160 := Tryd.zeroValue145
  t162 := Tryd.underlying144
  a162 := Tryd.isAgg144
  z162 := Tryd.sizeOf144
  v162 := Tryd.zeroValue144
  t203 := Tryd.underlying142
  a203 := Tryd.isAgg142
  z203 := Tryd.sizeOf142
  v203 := Tryd.zeroValue142
  t206 := Tryd.underlying149
  a206 := Tryd.isAgg149
  z206 := Tryd.sizeOf149
  v206 := Tryd.zeroValue149
  t208 := Tryd.underlying151
  a208 := Tryd.isAgg151
  z208 := Tryd.sizeOf151
  v208 := Tryd.zeroValue151
  g13 := by kernel_rfl }
open Go.RowKit Go.Lib in
theorem Tryd.unicode_ToLower (r : Int) (w : World) (h : r ≤ 127) :
    Calls Tryd.prog 91 #[.int .i32 r] w fun e w' => e = .returned (.int .i32 (Lib.toLowerR r)) ∧ w' = w := Any.unicode_ToLower Tryd.lays204 r w h
def Tryd.lays152_ren : Go.Shelf.Ren := ⟨fun | 152 => 92 | 137 => 98 | 119 => 99 | 224 => 89 | 225 => 88 | 217 => 87 | 266 => 95 | n => n, fun | 9 => 9 | 21 => 21 | 3 => 3 | 4 => 4 | 5 => 5 | 0 => 0 | 46 => 69 | n => n, fun | n => n⟩
theorem Tryd.lays152 : Go.Proofs.Lays.n152 Tryd.prog Tryd.lays152_ren := {
  mixed := by kernel_rfl
  f119 := Tryd.func99.trans (congrArg some (by kernel_rfl))
  f137 := Tryd.func98.trans (congrArg some (by kernel_rfl))
  f152 := Tryd.func92.trans (congrArg some (by kernel_rfl))
  f217 := Tryd.func87.trans (congrArg some (by kernel_rfl))
  f224 := Tryd.func89.trans (congrArg some (by kernel_rfl))
  f225 := Tryd.func88.trans (congrArg some (by kernel_rfl))
  f266 := Tryd.func95.trans (congrArg some (by kernel_rfl))
  t0 := Tryd.underlying0
  a0 := Tryd.isAgg0
  z0 := Tryd.sizeOf0
  v0 := Tryd.zeroValue0
  t3 := Tryd.underlying3
  a3 := Tryd.isAgg3
  z3 := Tryd.sizeOf3
  v3 := Tryd.zeroValue3
  t4 := Tryd.underlying4
  a4 := Tryd.isAgg4
  z4 := Tryd.sizeOf4
  v4 := Tryd.zeroValue4
  t5 := Tryd.underlying5
  a5 := Tryd.isAgg5
  z5 := Tryd.sizeOf5
  v5 := Tryd.zeroValue5
  t9 := Tryd.underlying9
  a9 := Tryd.isAgg9
  z9 := Tryd.sizeOf9
  v9 := Tryd.zeroValue9
  t21 := Tryd.underlying21
  a21 := Tryd.isAgg21
  z21 := Tryd.sizeOf21
  v21 := Tryd.zeroValue21
  t46 := Tryd.underlying69
  a46 := Tryd.isAgg69
  z46 := Tryd.sizeOf69
  v46 := Tryd.zeroValue69 }
open Go.RowKit Go.Lib in
theorem Tryd.strings_IndexRune_ascii (s : ByteArray) (r : Int) (w : World) (h0 : 0 ≤ r) (h1 : r < 128) :
    Calls Tryd.prog 92 #[.string s, .int .i32 r] w fun e w' => e = .returned (.int .i64 (Lib.indexByte s.data.toList r.toNat.toUInt8)) ∧ w' = w := Any.strings_IndexRune_ascii Tryd.lays152 s r w h0 h1
end Go.Proofs
