/- Several texts in one: see the remarks ahead of each part. No condition but those told there. -/
import Derived.Lib.MapLaws
import Derived.Test.YtnpcaplgkmlmoaaGreatDoorR4
import Derived.Lib.Builder
import Derived.Lib.AppendStr
import Derived.Lib.UnsafeStr
import Derived.Test.YtnpcaplgkmlmoaaGreatDoorProg
import Derived.WalkKit
import Derived.Shelf.Unicode.Latin
import Derived.Shelf.Strings.Runes
/- Texts as runes; hex digits read: plain words. No condition. -/
namespace Go.Proofs.YtnpcaplgkmlmoaaGreatDoor
set_option linter.unusedVariables false
set_option linter.unusedSimpArgs false
open Go Go.Lib
/-- The runes of a text. -/
def runeF : Nat → List UInt8 → List Nat
  | 0, _ => []
  | k + 1, l => if l = [] then [] else (decodeL l).1 :: runeF k (l.drop (decodeL l).2)
theorem drop_less {l : List UInt8} (h : l ≠ []) : (l.drop (decodeL l).2).length < l.length := by
  have := decodeL_width l
  have := List.length_pos_iff.2 h
  rw [List.length_drop]; omega
theorem runeF_fuel : ∀ (k m : Nat) (l : List UInt8), l.length ≤ k → l.length ≤ m → runeF k l = runeF m l := by
  intro k
  induction k with
  | zero =>
    intro m l h1 h2
    have : l = [] := List.eq_nil_of_length_eq_zero (by omega)
    subst this
    cases m with
    | zero => rfl
    | succ m => rfl
  | succ k ih =>
    intro m l h1 h2
    cases m with
    | zero =>
      have : l = [] := List.eq_nil_of_length_eq_zero (by omega)
      subst this; rfl
    | succ m =>
      rw [runeF, runeF]
      by_cases h : l = []
      · rw [if_pos h, if_pos h]
      · have := drop_less h
        rw [if_neg h, if_neg h, ih m (l.drop (decodeL l).2) (by omega) (by omega)]
def runesOf (l : List UInt8) : List Nat := runeF l.length l
theorem runes_nil : runesOf [] = [] := rfl
theorem runes_step {l : List UInt8} (h : l ≠ []) : runesOf l = (decodeL l).1 :: runesOf (l.drop (decodeL l).2) := by
  have := drop_less h
  rw [runesOf, runeF_fuel l.length (l.length + 1) l (by omega) (by omega), runeF, if_neg h]
  rw [runesOf, runeF_fuel l.length (l.drop (decodeL l).2).length (l.drop (decodeL l).2) (by omega) (by omega)]
theorem runes_at {l : List UInt8} {p : Nat} (h : p < l.length) : runesOf (l.drop p) = (decodeL (l.drop p)).1 :: runesOf (l.drop (p + (decodeL (l.drop p)).2)) := by
  rw [runes_step (List.ne_nil_of_length_pos (by rw [List.length_drop]; omega)), List.drop_drop]
theorem runes_end {l : List UInt8} {p : Nat} (h : l.length ≤ p) : runesOf (l.drop p) = [] := by rw [List.drop_eq_nil_of_le h]; rfl
theorem runeF_len : ∀ (k : Nat) (l : List UInt8), (runeF k l).length ≤ l.length := by
  intro k
  induction k with
  | zero => intro l; exact Nat.zero_le _
  | succ k ih =>
    intro l
    rw [runeF]
    by_cases h : l = []
    · rw [if_pos h]; exact Nat.zero_le _
    · have := ih (l.drop (decodeL l).2)
      have := drop_less h
      rw [if_neg h, List.length_cons]; omega
theorem runes_len (l : List UInt8) : (runesOf l).length ≤ l.length := runeF_len _ _
/-- What a rune may be. -/
def RuneOk (r : Nat) : Prop := r < 55296 ∨ (57344 ≤ r ∧ r ≤ 1114111)
theorem decode_ok (l : List UInt8) : RuneOk (decodeL l).1 := by
  rw [decodeL_N]
  rcases decodeN_shape l.length (l.getD 0 0).toNat (l.getD 1 0).toNat (l.getD 2 0).toNat (l.getD 3 0).toNat with ⟨c, e⟩ | ⟨c1, c2, c3, cv, e⟩ | ⟨c1, c2, c3, c4, cv, cs, e⟩ | ⟨c1, c2, c3, c4, c5, cv, cw, e⟩ | e
  all_goals
    rw [e]
    unfold RuneOk
    simp only
    omega
/-- A hex digit's value. -/
def hexV (r : Nat) : Option Nat := if 48 ≤ r ∧ r ≤ 57 then some (r - 48) else if 97 ≤ r ∧ r ≤ 102 then some (r - 87) else if 65 ≤ r ∧ r ≤ 70 then some (r - 55) else none
theorem hexV_lt {r v : Nat} (h : hexV r = some v) : v < 16 := by
  unfold hexV at h
  split at h
  · injection h; omega
  · split at h
    · injection h; omega
    · split at h
      · injection h; omega
      · cases h
theorem hexV_high {r : Nat} (h : 128 ≤ r) : hexV r = none := by
  rw [hexV, if_neg (by omega), if_neg (by omega), if_neg (by omega)]
/-- 0x, rune by rune. -/
def ox (k : Nat) : Nat := if k = 0 then 48 else 120
/-- The digits that are read, how many runes, and what is wrong (0: nothing). -/
def readF (ask : List UInt8 → Nat) : Nat → List UInt8 → List Nat → List UInt8 × Nat × Nat
  | k, acc, [] => if k < 2 then ([], k, 2) else (acc, k, 0)
  | k, acc, r :: t => if k < 2 then (if r = ox k then readF ask (k + 1) acc t else ([], k, 2)) else match hexV r with
    | none => ([], k, 2)
    | some v => if ask acc = 0 then readF ask (k + 1) (acc ++ [UInt8.ofNat v]) t else ([], k, ask acc)
variable {ask : List UInt8 → Nat} {k r : Nat} {acc : List UInt8} {t : List Nat}
theorem readF_end0 (h : k < 2) : readF ask k acc [] = ([], k, 2) := if_pos h
theorem readF_end1 (h : ¬ k < 2) : readF ask k acc [] = (acc, k, 0) := if_neg h
theorem readF_ox (h : k < 2) (hr : r = ox k) : readF ask k acc (r :: t) = readF ask (k + 1) acc t := by rw [readF, if_pos h, if_pos hr]
theorem readF_no (h : k < 2) (hr : ¬ r = ox k) : readF ask k acc (r :: t) = ([], k, 2) := by rw [readF, if_pos h, if_neg hr]
theorem readF_none (h : ¬ k < 2) (hr : hexV r = none) : readF ask k acc (r :: t) = ([], k, 2) := by rw [readF, if_neg h, hr]
theorem readF_some {v : Nat} (h : ¬ k < 2) (hr : hexV r = some v) (ha : ask acc = 0) : readF ask k acc (r :: t) = readF ask (k + 1) (acc ++ [UInt8.ofNat v]) t := by rw [readF, if_neg h, hr]; exact if_pos ha
theorem readF_ask {v : Nat} (h : ¬ k < 2) (hr : hexV r = some v) (ha : ask acc ≠ 0) : readF ask k acc (r :: t) = ([], k, ask acc) := by rw [readF, if_neg h, hr]; exact if_neg ha
end Go.Proofs.YtnpcaplgkmlmoaaGreatDoor
/- The engine, what strings.Builder needs: pointers compared and turned, a string appended, bytes handed over as a string. For whatever program. No condition. -/
namespace Go.Proofs.YtnpcaplgkmlmoaaGreatDoor
set_option linter.unusedVariables false
set_option linter.unusedSimpArgs false
open Go Go.RowKit
section
variable {P : Program} {n : Nat} {l : List (Nat × Value)} {E : World} {L L1 Ls : List Heaplet} {X Y : Act → World → Prop} {d : Nat} {t t' ty : TypeId} {x y : Operand} {N : Heaplet}
theorem eqGuard_ptr {op : BinOp} {p q : Option Addr} (w : World) : (eqGuard op t x y (.pointer p) (.pointer q)).run P w = .ok () w := by
  unfold eqGuard
  by_cases h : (!(op matches .eql | .neq)) = true <;> simp [h]
theorem op_eqPN {te : TypeId} {p : Option Addr} {pos : _} {aft : _} {g : _} (s : NxF P n l E L Ls ⟨some d, .binOp .eql t x y t', ty, pos, aft, g⟩ X Y) (ht : P.underlying t = some (.pointer te)) (hx : ev l x = some (.pointer p)) (hy : ev l y = some (.pointer none)) (hn : Nat.ble (d + 1) n = true) (h : At n ((d, .bool p.isNone) :: l) E L Y) : At n l E L X :=
  op_bin s hx hy (fun w => eqGuard_ptr w) (fun w => by
    have h : ∀ d : Nat, (Op.equalIn (d + 1) t (.pointer p) (.pointer none)).run P w = .ok p.isNone w := fun d => by
      cases p <;> simp [Op.equalIn, run_underlying ht]
    simp only [binOp]
    simp [Op.equal, Op.maxDepth, h 9999]) hn h
theorem op_nePS {te : TypeId} {j : TypeInfo} {q : Addr} {pos : _} {aft : _} {g : _} (s : NxF P n l E L Ls ⟨some d, .binOp .neq t x y t', ty, pos, aft, g⟩ X Y) (ht : P.underlying t = some (.pointer te)) (hj : P.info? te = some j) (hx : ev l x = some (.pointer (some q))) (hy : ev l y = some (.pointer (some q))) (hn : Nat.ble (d + 1) n = true) (h : At n ((d, .bool false) :: l) E L Y) : At n l E L X :=
  op_bin s hx hy (fun w => eqGuard_ptr w) (fun w => Lib.run_neq_ptr_same w q ht hj) hn h
theorem shape_of {b : Nat} {e : TypeId} {cs : List Value} {w : World} (hN : N.le (whole w)) (hb : Blk N b e cs) : w.shape? b = some (e, cs.length) := by
  have h1 : w.heap[b]? = some (.cells cs.toArray e (0, 0)) := hN _ _ hb
  simp [World.shape?, h1]
theorem op_toU {b off : Nat} {e tt : TypeId} {cs : List Value} {j : TypeInfo} {pos : _} {aft : _} {g : _} (s : NxF P n l E L Ls ⟨some d, .convert t t' x, ty, pos, aft, g⟩ X Y) (ht : P.underlying t = some (.pointer tt)) (ht' : P.underlying t' = some .unsafePointer) (hj : P.info? tt = some j) (hz : j.size ≠ 0)
    (hx : ev l x = some (.pointer (some ⟨b, off, none⟩))) (hb : Blk N b e cs) (ho : off < cs.length) (hN : N ∈ Ls) (hn : Nat.ble (d + 1) n = true) (h : At n ((d, .pointer (some ⟨b, off, none⟩)) :: l) E L Y) : At n l E L X :=
  op_val s (fun a w hf hw => by
    have e1 : (execOp a.eval ⟨some d, .convert t t' x, ty, pos, aft, g⟩) = (do let v ← convert t t' (a.eval x); pure (.value v) : Sem Next) := rfl
    rw [e1, hf.eval hx, Sem.run_bind, Lib.run_to_unsafe w ⟨b, off, none⟩ ht ht' hj hz (shape_of (hw.sub N hN) hb) ho]
    rfl) rfl hn h
theorem op_fromU {b off : Nat} {e u : TypeId} {cs : List Value} {j : TypeInfo} {pos : _} {aft : _} {g : _} (s : NxF P n l E L Ls ⟨some d, .convert t t' x, ty, pos, aft, g⟩ X Y) (ht : P.underlying t = some .unsafePointer) (ht' : P.underlying t' = some (.pointer u)) (hj : P.info? u = some j)
    (hx : ev l x = some (.pointer (some ⟨b, off, none⟩))) (hb : Blk N b e cs) (hl : liesAt P P.depth e (cs.length / P.cellsOf e) off u 1 = true) (hN : N ∈ Ls) (hn : Nat.ble (d + 1) n = true) (h : At n ((d, .pointer (some ⟨b, off, none⟩)) :: l) E L Y) : At n l E L X :=
  op_val s (fun a w hf hw => by
    have e1 : (execOp a.eval ⟨some d, .convert t t' x, ty, pos, aft, g⟩) = (do let v ← convert t t' (a.eval x); pure (.value v) : Sem Next) := rfl
    rw [e1, hf.eval hx, Sem.run_bind, Lib.run_from_unsafe w ⟨b, off, none⟩ ht ht' hj (shape_of (hw.sub N hN) hb) hl]
    rfl) rfl hn h
theorem strCells_u8s (s : List UInt8) : Lib.strCells ⟨s.toArray⟩ = u8s s := by
  rw [Lib.strCells_eq]
  simp [Lib.byteCells, u8s, vb]
theorem owns_slice {w : World} {base : Nat} {e : TypeId} {size m : Nat} {v : Value} {ys : List Value} (h : w.ownsRow base e size v m ys) : ∃ ao cap, v = .slice ao m cap := by
  obtain ⟨_, ⟨rfl, rfl⟩ | ⟨g, cap, cur, rfl, _⟩⟩ := h
  · exact ⟨none, 0, rfl⟩
  · exact ⟨_, cap, rfl⟩
/-- append of a string's bytes. -/
theorem op_appendS {e : TypeId} {i : TypeInfo} {u : TypeId} {ao : Option Addr} {len cap : Nat} {xs : List Value} {bs : List UInt8} {pos : _} {aft : _} {g : _} (s : Nx P n l E L ⟨some d, .call ⟨.builtin .append, #[x, y], #[t, u]⟩, ty, pos, aft, g⟩ X Y) (ht : P.underlying t = some (.slice e)) (hu : P.underlying u = some .string)
    (hi : P.info? e = some i) (hz : i.zero = some (.int .u8 0)) (hs : i.size = 1) (hby : i.bytes = 1)
    (hx : ev l x = some (.slice ao len cap)) (hy : ev l y = some (str bs)) (hr : Row N e 1 ao len cap xs) (hb : len + bs.length ≤ 140737488355328) (sel : L.Perm (N :: L1)) (hn : Nat.ble (d + 1) n = true)
    (h : ∀ N ao cap, Row N e 1 ao (len + bs.length) cap (xs ++ u8s bs) → At n ((d, .slice ao (len + bs.length) cap) :: l) E (N :: L1) Y) : At n l E L X := by
  refine op_upd s (fun v L' => ∃ N ao cap, v = .slice ao (len + bs.length) cap ∧ L' = N :: L1 ∧ Row N e 1 ao (len + bs.length) cap (xs ++ u8s bs)) (fun a w hf hw => ?_) rfl hn (fun v L' ⟨N, ao, cap, hv, hL, hB⟩ => by subst hv; subst hL; exact h N ao cap hB)
  have hw2 := hw.perm sel
  obtain ⟨v', w', h4, h5, h6, h7⟩ := Lib.run_append_own_string (P := P) w 0 t u ty e i ht hu hi hz hs hby (.slice ao len cap) len xs (hr.owns (hw2.sub N (List.mem_cons_self ..))) ⟨bs.toArray⟩ (by show len + bs.length ≤ maxLen; unfold maxLen; omega) hb (Nat.zero_le _)
  rw [strCells_u8s] at h5
  have h5 : w'.ownsRow 0 e 1 v' (len + bs.length) (xs ++ u8s bs) := h5
  obtain ⟨ao2, cap2, rfl⟩ := owns_slice h5
  have hbk : Value.ownBlock (.slice ao2 (len + bs.length) cap2) = Value.ownBlock (.slice ao len cap) ∨ Value.ownBlock (.slice ao2 (len + bs.length) cap2) = some w.heap.size := by
    have hsz2 : (⟨bs.toArray⟩ : ByteArray).size = bs.length := rfl
    have hxl : xs.length = len := by have := hr.1; omega
    obtain ⟨_, ⟨hv, hz0⟩ | ⟨gg, cap', cur, hv, _, hg, hnc, hcm, hcs, htake⟩⟩ := hr.owns (hw2.sub N (List.mem_cons_self ..))
    · injection hv with e1 e2 e3
      subst e1; subst e2; subst e3
      by_cases hm : bs.length = 0
      · have := h7.2 ⟨rfl, hm⟩
        injection this with e1 e2 e3
        subst e1
        exact .inl rfl
      · have hrn := run_append_nil_string (P := P) w t u ty e i (.int .u8 0) ht hu hi hz ⟨bs.toArray⟩ (by rw [hsz2]; omega) (by rw [hsz2]; omega) (by rw [hby, hsz2]; omega)
        rw [hrn] at h4
        injection h4 with e1 e2
        injection e1 with e3
        exact .inr (by rw [← e3]; rfl)
    · injection hv with e1 e2 e3
      subst e1; subst e3
      by_cases hroom : len + bs.length ≤ cap
      · have hrn := Lib.run_append_room_string (P := P) w t u ty e i ht hu hi hs gg len cap cur hg ⟨bs.toArray⟩ hroom (by rw [hsz2]; omega)
        rw [hrn] at h4
        injection h4 with e1 e2
        injection e1 with e3
        exact .inl (by rw [← e3]; rfl)
      · have hown := hr.owns (hw2.sub N (List.mem_cons_self ..))
        have holds : ∀ j u, xs[j]? = some u → w.cell? ((⟨gg, 0, none⟩ : Addr).add j) = some u := hown.cells (g := gg) rfl
        have hrn := Lib.run_append_grow_string (P := P) w t u ty e i (.int .u8 0) ht hu hi hz ⟨gg, 0, none⟩ len cap xs (by rw [hs]; omega) holds ⟨bs.toArray⟩ (by rw [hsz2]; omega) (by rw [hsz2]; omega) (by rw [hby]; exact growslice_fits (by rw [hsz2]; omega) (by rw [hsz2]; omega))
        rw [hrn] at h4
        injection h4 with e1 e2
        injection e1 with e3
        exact .inr (by rw [← e3]; rfl)
  obtain ⟨N', h8, h9⟩ := hp_append hw2 hr h5 h6 hbk
  refine ⟨_, w', _, ?_, h9, N', ao2, cap2, rfl, rfl, h8⟩
  simp only [execOp, resolve, invoke, builtin, Sem.run_bind, Sem.run_pure, Result.andThen_ok, List.map_toArray, List.map_cons, List.map_nil, hf.eval hx, hf.eval hy, str, h4]
theorem op_sliceData {ad : Addr} {len cap : Nat} {ats : Array TypeId} {pos : _} {aft : _} {g : _} (s : NxA P n l E L ⟨some d, .call ⟨.builtin .unsafeSliceData, #[x], ats⟩, ty, pos, aft, g⟩ X Y) (hx : ev l x = some (.slice (some ad) len cap)) (hc : cap ≠ 0) (hn : Nat.ble (d + 1) n = true) (h : At n ((d, .pointer (some ad)) :: l) E L Y) : At n l E L X := fun a w hf hw => by
  refine s a w hf hw ?_
  unfold Oper.wp
  have hrun : (execOp a.eval ⟨some d, .call ⟨.builtin .unsafeSliceData, #[x], ats⟩, ty, pos, aft, g⟩).run P w = .ok (.value (.pointer (some ad))) w := by
    simp only [execOp, resolve, invoke, builtin, Sem.run_bind, Sem.run_pure, Result.andThen_ok, List.map_toArray, List.map_cons, List.map_nil, hf.eval hx, Lib.run_unsafeSliceData_row w ats ty ad len cap hc]
  rw [hrun]
  exact ⟨fun _ _ => rfl, h _ _ (hf.put (Nat.le_of_ble_eq_true hn)) hw⟩
/-- Bytes handed over as a string: they turn no more. -/
theorem op_unsafeStr {e : TypeId} {u : TypeId} {b len cap : Nat} {bs : List UInt8} {pos : _} {aft : _} {g : _} (s : Nx P n l E L ⟨some d, .call ⟨.builtin .unsafeString, #[x, y], #[t, u]⟩, ty, pos, aft, g⟩ X Y) (ht : P.underlying t = some (.pointer e)) (hc : P.cellsOf e = 1)
    (hx : ev l x = some (.pointer (some ⟨b, 0, none⟩))) (hy : ev l y = some (.int .i64 (len : Int))) (hr : Row N e 1 (some ⟨b, 0, none⟩) len cap (u8s bs)) (h0 : 0 < len) (hl : len ≤ 9223372036854775807) (sel : L.Perm (N :: L1)) (hn : Nat.ble (d + 1) n = true)
    (h : At n ((d, str bs) :: l) E L1 Y) : At n l E L X := by
  refine op_upd s (fun v L' => v = str bs ∧ L' = L1) (fun a w hf hw => ?_) rfl hn (fun v L' ⟨hv, hL⟩ => by subst hv; subst hL; exact h)
  have hw2 := hw.perm sel
  have hlen : bs.length = len := hr.rsl.len8
  obtain ⟨_, hlc, hcm, ⟨h1, _⟩ | ⟨b', cur, hb', hbk, hsz, htk⟩⟩ := hr
  · cases h1
  · obtain rfl : b = b' := by injection hb' with e1; injection e1
    have hheap : w.heap[b]? = some (.cells cur e (0, 0)) := hw2.sub N (List.mem_cons_self ..) _ _ hbk
    have hsh : w.shape? b = some (e, cur.size) := by simp [World.shape?, hheap]
    have hcell : ∀ j z, bs[j]? = some z → w.cell? ((⟨b, 0, none⟩ : Addr).add j) = some (.int .u8 z.toNat) := fun j z hz => by
      obtain ⟨hj, rfl⟩ := List.getElem?_eq_some_iff.1 hz
      have hs := (show Row N e 1 (some ⟨b, 0, none⟩) len cap (u8s bs) from ⟨by rw [u8s, List.length_map, Nat.mul_one, hlen], hlc, hcm, .inr ⟨b, cur, rfl, hbk, hsz, htk⟩⟩).rsl.sl (hw2.sub N (List.mem_cons_self ..))
      obtain ⟨b2, off2, e2, hc2⟩ := hs.cell (x := .int .u8 (bs[j].toNat : Int)) (i := j) (by simp [u8s, vb, hj])
      injection e2 with e3
      injection e3 with e4 e5
      subst e4; subst e5
      rw [addr_add]
      exact hc2
    have hrun := Lib.run_unsafeString_row (P := P) w t u ty e ht hc b cur.size hsh bs (by intro e; subst e; simp at hlen; omega) (by rw [hsz, hlen]; omega) (by omega) hcell
    rw [hlen] at hrun
    refine ⟨str bs, w.freeze ⟨b, 0, none⟩ len, L1, ?_, ?_, rfl, rfl⟩
    · simp only [execOp, resolve, invoke, builtin, Sem.run_bind, Sem.run_pure, Result.andThen_ok, List.map_toArray, List.map_cons, List.map_nil, hf.eval hx, hf.eval hy, hrun]; rfl
    · have hne : ¬ len = 0 := by omega
      have := hw2.put (o' := .cells cur e (0, 0 + len)) (w' := w.freeze ⟨b, 0, none⟩ len) hbk (by simp [World.freeze, hne]) (by simp [World.freeze, hne]) (by simp [World.freeze, hne]) (by
        simp [World.freeze, hne, Array.getElem?_modify, hheap]) (fun k hk _ => by
        simp [World.freeze, hne, Array.getElem?_modify, Ne.symm hk])
      exact this.drop (List.sublist_cons_self ..)
end
end Go.Proofs.YtnpcaplgkmlmoaaGreatDoor
/- Facts on the types of the program, by number. No condition. -/
namespace Go.Proofs.YtnpcaplgkmlmoaaGreatDoor
set_option linter.unusedVariables false
set_option linter.unusedSimpArgs false
open Go Go.RowKit
theorem sc2 : scal Tryz.prog 2 = true := by kernel_rfl
theorem sz2 : siz Tryz.prog 2 = some 1 := by kernel_rfl
theorem ze2 : zer Tryz.prog 2 = some (.int .i64 0) := by kernel_rfl
theorem sc3 : scal Tryz.prog 3 = true := by kernel_rfl
theorem sz3 : siz Tryz.prog 3 = some 1 := by kernel_rfl
theorem ze3 : zer Tryz.prog 3 = some (.int .i64 0) := by kernel_rfl
theorem sc4 : scal Tryz.prog 4 = true := by kernel_rfl
theorem sz4 : siz Tryz.prog 4 = some 1 := by kernel_rfl
theorem ze4 : zer Tryz.prog 4 = some (.bool false) := by kernel_rfl
theorem sc5 : scal Tryz.prog 5 = true := by kernel_rfl
theorem sz5 : siz Tryz.prog 5 = some 1 := by kernel_rfl
theorem ze5 : zer Tryz.prog 5 = some (.int .u8 0) := by kernel_rfl
theorem sc6 : scal Tryz.prog 6 = true := by kernel_rfl
theorem sz6 : siz Tryz.prog 6 = some 1 := by kernel_rfl
theorem ze6 : zer Tryz.prog 6 = some (.int .u8 0) := by kernel_rfl
theorem ag7 : aggOf Tryz.prog 7 = some 4 := by kernel_rfl
theorem sz7 : siz Tryz.prog 7 = some 4 := by kernel_rfl
theorem ze7 : zer Tryz.prog 7 = some (.agg #[.int .i64 0, .int .i64 0, .bool false, .int .u8 0]) := by kernel_rfl
theorem fl7_0 : fld Tryz.prog 7 0 = some 0 := by kernel_rfl
theorem fl7_1 : fld Tryz.prog 7 1 = some 1 := by kernel_rfl
theorem fl7_2 : fld Tryz.prog 7 2 = some 2 := by kernel_rfl
theorem fl7_3 : fld Tryz.prog 7 3 = some 3 := by kernel_rfl
theorem pl7 : places Tryz.prog 7 = some [(0, 1), (1, 1), (2, 1), (3, 1)] := by kernel_rfl
theorem ag8 : aggOf Tryz.prog 8 = some 4 := by kernel_rfl
theorem sz8 : siz Tryz.prog 8 = some 4 := by kernel_rfl
theorem ze8 : zer Tryz.prog 8 = some (.agg #[.int .i64 0, .int .i64 0, .bool false, .int .u8 0]) := by kernel_rfl
theorem fl8_0 : fld Tryz.prog 8 0 = some 0 := by kernel_rfl
theorem fl8_1 : fld Tryz.prog 8 1 = some 1 := by kernel_rfl
theorem fl8_2 : fld Tryz.prog 8 2 = some 2 := by kernel_rfl
theorem fl8_3 : fld Tryz.prog 8 3 = some 3 := by kernel_rfl
theorem pl8 : places Tryz.prog 8 = some [(0, 1), (1, 1), (2, 1), (3, 1)] := by kernel_rfl
theorem sc9 : scal Tryz.prog 9 = true := by kernel_rfl
theorem sz9 : siz Tryz.prog 9 = some 1 := by kernel_rfl
theorem ze9 : zer Tryz.prog 9 = some (str []) := by kernel_rfl
theorem sc10 : scal Tryz.prog 10 = true := by kernel_rfl
theorem sz10 : siz Tryz.prog 10 = some 1 := by kernel_rfl
theorem ze10 : zer Tryz.prog 10 = some (str []) := by kernel_rfl
theorem sc11 : scal Tryz.prog 11 = true := by kernel_rfl
theorem sz11 : siz Tryz.prog 11 = some 1 := by kernel_rfl
theorem ze11 : zer Tryz.prog 11 = some (str []) := by kernel_rfl
theorem sc12 : scal Tryz.prog 12 = true := by kernel_rfl
theorem sz12 : siz Tryz.prog 12 = some 1 := by kernel_rfl
theorem ze12 : zer Tryz.prog 12 = some (.int .u64 0) := by kernel_rfl
theorem ag13 : aggOf Tryz.prog 13 = some 2 := by kernel_rfl
theorem sz13 : siz Tryz.prog 13 = some 2 := by kernel_rfl
theorem ze13 : zer Tryz.prog 13 = some (.agg #[str [], .int .u64 0]) := by kernel_rfl
theorem fl13_0 : fld Tryz.prog 13 0 = some 0 := by kernel_rfl
theorem fl13_1 : fld Tryz.prog 13 1 = some 1 := by kernel_rfl
theorem pl13 : places Tryz.prog 13 = some [(0, 1), (1, 1)] := by kernel_rfl
theorem ag14 : aggOf Tryz.prog 14 = some 2 := by kernel_rfl
theorem sz14 : siz Tryz.prog 14 = some 2 := by kernel_rfl
theorem ze14 : zer Tryz.prog 14 = some (.agg #[str [], .int .u64 0]) := by kernel_rfl
theorem fl14_0 : fld Tryz.prog 14 0 = some 0 := by kernel_rfl
theorem fl14_1 : fld Tryz.prog 14 1 = some 1 := by kernel_rfl
theorem pl14 : places Tryz.prog 14 = some [(0, 1), (1, 1)] := by kernel_rfl
theorem sc15 : scal Tryz.prog 15 = true := by kernel_rfl
theorem sz15 : siz Tryz.prog 15 = some 1 := by kernel_rfl
theorem ze15 : zer Tryz.prog 15 = some (.pointer none) := by kernel_rfl
theorem sc16 : scal Tryz.prog 16 = true := by kernel_rfl
theorem sz16 : siz Tryz.prog 16 = some 1 := by kernel_rfl
theorem ze16 : zer Tryz.prog 16 = some (.pointer none) := by kernel_rfl
theorem sc17 : scal Tryz.prog 17 = true := by kernel_rfl
theorem sz17 : siz Tryz.prog 17 = some 1 := by kernel_rfl
theorem ze17 : zer Tryz.prog 17 = some (.pointer none) := by kernel_rfl
theorem ag18 : aggOf Tryz.prog 18 = some 1 := by kernel_rfl
theorem sz18 : siz Tryz.prog 18 = some 1 := by kernel_rfl
theorem ze18 : zer Tryz.prog 18 = some (.agg #[.pointer none]) := by kernel_rfl
theorem fl18_0 : fld Tryz.prog 18 0 = some 0 := by kernel_rfl
theorem pl18 : places Tryz.prog 18 = some [(0, 1)] := by kernel_rfl
theorem ag19 : aggOf Tryz.prog 19 = some 1 := by kernel_rfl
theorem sz19 : siz Tryz.prog 19 = some 1 := by kernel_rfl
theorem ze19 : zer Tryz.prog 19 = some (.agg #[.pointer none]) := by kernel_rfl
theorem fl19_0 : fld Tryz.prog 19 0 = some 0 := by kernel_rfl
theorem pl19 : places Tryz.prog 19 = some [(0, 1)] := by kernel_rfl
theorem sc20 : scal Tryz.prog 20 = true := by kernel_rfl
theorem sz20 : siz Tryz.prog 20 = some 1 := by kernel_rfl
theorem ze20 : zer Tryz.prog 20 = some (.nilIface) := by kernel_rfl
theorem sc21 : scal Tryz.prog 21 = true := by kernel_rfl
theorem sz21 : siz Tryz.prog 21 = some 1 := by kernel_rfl
theorem ze21 : zer Tryz.prog 21 = some (.int .i32 0) := by kernel_rfl
theorem sc22 : scal Tryz.prog 22 = true := by kernel_rfl
theorem sz22 : siz Tryz.prog 22 = some 1 := by kernel_rfl
theorem ze22 : zer Tryz.prog 22 = some (.slice none 0 0) := by kernel_rfl
theorem se22 : selt Tryz.prog 22 = some (5, 1) := by kernel_rfl
theorem sc23 : scal Tryz.prog 23 = true := by kernel_rfl
theorem sz23 : siz Tryz.prog 23 = some 1 := by kernel_rfl
theorem ze23 : zer Tryz.prog 23 = some (.int .u64 0) := by kernel_rfl
theorem ag24 : aggOf Tryz.prog 24 = some 4 := by kernel_rfl
theorem sz24 : siz Tryz.prog 24 = some 4 := by kernel_rfl
theorem ze24 : zer Tryz.prog 24 = some (.agg #[.int .u64 0, .int .u64 0, .int .u64 0, .int .u64 0]) := by kernel_rfl
theorem ae24 : aelt Tryz.prog 24 = some (4, 23, 1) := by kernel_rfl
theorem ag25 : aggOf Tryz.prog 25 = some 4 := by kernel_rfl
theorem sz25 : siz Tryz.prog 25 = some 4 := by kernel_rfl
theorem ze25 : zer Tryz.prog 25 = some (.agg #[.int .u64 0, .int .u64 0, .int .u64 0, .int .u64 0]) := by kernel_rfl
theorem ae25 : aelt Tryz.prog 25 = some (4, 23, 1) := by kernel_rfl
theorem ag26 : aggOf Tryz.prog 26 = some 20 := by kernel_rfl
theorem sz26 : siz Tryz.prog 26 = some 20 := by kernel_rfl
theorem ze26 : zer Tryz.prog 26 = some (.agg #[.int .u8 0, .int .u8 0, .int .u8 0, .int .u8 0, .int .u8 0, .int .u8 0, .int .u8 0, .int .u8 0, .int .u8 0, .int .u8 0, .int .u8 0, .int .u8 0, .int .u8 0, .int .u8 0, .int .u8 0, .int .u8 0, .int .u8 0, .int .u8 0, .int .u8 0, .int .u8 0]) := by kernel_rfl
theorem ae26 : aelt Tryz.prog 26 = some (20, 5, 1) := by kernel_rfl
theorem ag27 : aggOf Tryz.prog 27 = some 20 := by kernel_rfl
theorem sz27 : siz Tryz.prog 27 = some 20 := by kernel_rfl
theorem ze27 : zer Tryz.prog 27 = some (.agg #[.int .u8 0, .int .u8 0, .int .u8 0, .int .u8 0, .int .u8 0, .int .u8 0, .int .u8 0, .int .u8 0, .int .u8 0, .int .u8 0, .int .u8 0, .int .u8 0, .int .u8 0, .int .u8 0, .int .u8 0, .int .u8 0, .int .u8 0, .int .u8 0, .int .u8 0, .int .u8 0]) := by kernel_rfl
theorem ae27 : aelt Tryz.prog 27 = some (20, 5, 1) := by kernel_rfl
theorem sc34 : scal Tryz.prog 34 = true := by kernel_rfl
theorem sz34 : siz Tryz.prog 34 = some 1 := by kernel_rfl
theorem ze34 : zer Tryz.prog 34 = some (.pointer none) := by kernel_rfl
theorem ag35 : aggOf Tryz.prog 35 = some 2 := by kernel_rfl
theorem sz35 : siz Tryz.prog 35 = some 2 := by kernel_rfl
theorem ze35 : zer Tryz.prog 35 = some (.agg #[.pointer none, .slice none 0 0]) := by kernel_rfl
theorem fl35_0 : fld Tryz.prog 35 0 = some 0 := by kernel_rfl
theorem fl35_1 : fld Tryz.prog 35 1 = some 1 := by kernel_rfl
theorem pl35 : places Tryz.prog 35 = some [(0, 1), (1, 1)] := by kernel_rfl
theorem ag36 : aggOf Tryz.prog 36 = some 2 := by kernel_rfl
theorem sz36 : siz Tryz.prog 36 = some 2 := by kernel_rfl
theorem ze36 : zer Tryz.prog 36 = some (.agg #[.pointer none, .slice none 0 0]) := by kernel_rfl
theorem fl36_0 : fld Tryz.prog 36 0 = some 0 := by kernel_rfl
theorem fl36_1 : fld Tryz.prog 36 1 = some 1 := by kernel_rfl
theorem pl36 : places Tryz.prog 36 = some [(0, 1), (1, 1)] := by kernel_rfl
theorem sc37 : scal Tryz.prog 37 = true := by kernel_rfl
theorem sz37 : siz Tryz.prog 37 = some 1 := by kernel_rfl
theorem ze37 : zer Tryz.prog 37 = some (.nilIface) := by kernel_rfl
theorem sc38 : scal Tryz.prog 38 = true := by kernel_rfl
theorem sz38 : siz Tryz.prog 38 = some 1 := by kernel_rfl
theorem ze38 : zer Tryz.prog 38 = some (.nilIface) := by kernel_rfl
theorem sc42 : scal Tryz.prog 42 = true := by kernel_rfl
theorem sz42 : siz Tryz.prog 42 = some 1 := by kernel_rfl
theorem ze42 : zer Tryz.prog 42 = some (.int .u64 0) := by kernel_rfl
theorem sc50 : scal Tryz.prog 50 = true := by kernel_rfl
theorem sz50 : siz Tryz.prog 50 = some 1 := by kernel_rfl
theorem ze50 : zer Tryz.prog 50 = some (.slice none 0 0) := by kernel_rfl
theorem se50 : selt Tryz.prog 50 = some (56, 1) := by kernel_rfl
theorem sc51 : scal Tryz.prog 51 = true := by kernel_rfl
theorem sz51 : siz Tryz.prog 51 = some 1 := by kernel_rfl
theorem ze51 : zer Tryz.prog 51 = some (.slice none 0 0) := by kernel_rfl
theorem se51 : selt Tryz.prog 51 = some (56, 1) := by kernel_rfl
theorem sc56 : scal Tryz.prog 56 = true := by kernel_rfl
theorem sz56 : siz Tryz.prog 56 = some 1 := by kernel_rfl
theorem ze56 : zer Tryz.prog 56 = some (.int .u32 0) := by kernel_rfl
theorem ag57 : aggOf Tryz.prog 57 = some 32 := by kernel_rfl
theorem sz57 : siz Tryz.prog 57 = some 32 := by kernel_rfl
theorem ze57 : zer Tryz.prog 57 = some (.agg #[.int .u8 0, .int .u8 0, .int .u8 0, .int .u8 0, .int .u8 0, .int .u8 0, .int .u8 0, .int .u8 0, .int .u8 0, .int .u8 0, .int .u8 0, .int .u8 0, .int .u8 0, .int .u8 0, .int .u8 0, .int .u8 0, .int .u8 0, .int .u8 0, .int .u8 0, .int .u8 0, .int .u8 0, .int .u8 0, .int .u8 0, .int .u8 0, .int .u8 0, .int .u8 0, .int .u8 0, .int .u8 0, .int .u8 0, .int .u8 0, .int .u8 0, .int .u8 0]) := by kernel_rfl
theorem ae57 : aelt Tryz.prog 57 = some (32, 5, 1) := by kernel_rfl
theorem sc59 : scal Tryz.prog 59 = true := by kernel_rfl
theorem sz59 : siz Tryz.prog 59 = some 1 := by kernel_rfl
theorem ze59 : zer Tryz.prog 59 = some (.slice none 0 0) := by kernel_rfl
theorem se59 : selt Tryz.prog 59 = some (21, 1) := by kernel_rfl
theorem sc61 : scal Tryz.prog 61 = true := by kernel_rfl
theorem sz61 : siz Tryz.prog 61 = some 1 := by kernel_rfl
theorem ze61 : zer Tryz.prog 61 = some (.int .i64 0) := by kernel_rfl
theorem ag62 : aggOf Tryz.prog 62 = some 2 := by kernel_rfl
theorem sz62 : siz Tryz.prog 62 = some 2 := by kernel_rfl
theorem ze62 : zer Tryz.prog 62 = some (.agg #[.int .i64 0, .int .i64 0]) := by kernel_rfl
theorem fl62_0 : fld Tryz.prog 62 0 = some 0 := by kernel_rfl
theorem fl62_1 : fld Tryz.prog 62 1 = some 1 := by kernel_rfl
theorem pl62 : places Tryz.prog 62 = some [(0, 1), (1, 1)] := by kernel_rfl
theorem ag63 : aggOf Tryz.prog 63 = some 2 := by kernel_rfl
theorem sz63 : siz Tryz.prog 63 = some 2 := by kernel_rfl
theorem ze63 : zer Tryz.prog 63 = some (.agg #[.int .i64 0, .int .i64 0]) := by kernel_rfl
theorem fl63_0 : fld Tryz.prog 63 0 = some 0 := by kernel_rfl
theorem fl63_1 : fld Tryz.prog 63 1 = some 1 := by kernel_rfl
theorem pl63 : places Tryz.prog 63 = some [(0, 1), (1, 1)] := by kernel_rfl
theorem sc68 : scal Tryz.prog 68 = true := by kernel_rfl
theorem sz68 : siz Tryz.prog 68 = some 1 := by kernel_rfl
theorem ze68 : zer Tryz.prog 68 = some (.pointer none) := by kernel_rfl
theorem ag70 : aggOf Tryz.prog 70 = some 256 := by kernel_rfl
theorem sz70 : siz Tryz.prog 70 = some 256 := by kernel_rfl
theorem ae70 : aelt Tryz.prog 70 = some (256, 4, 1) := by kernel_rfl
theorem ag71 : aggOf Tryz.prog 71 = some 256 := by kernel_rfl
theorem sz71 : siz Tryz.prog 71 = some 256 := by kernel_rfl
theorem ae71 : aelt Tryz.prog 71 = some (256, 4, 1) := by kernel_rfl
theorem sc75 : scal Tryz.prog 75 = true := by kernel_rfl
theorem sz75 : siz Tryz.prog 75 = some 1 := by kernel_rfl
theorem ze75 : zer Tryz.prog 75 = some (.pointer none) := by kernel_rfl
theorem sc88 : scal Tryz.prog 88 = true := by kernel_rfl
theorem sz88 : siz Tryz.prog 88 = some 1 := by kernel_rfl
theorem ze88 : zer Tryz.prog 88 = some (.pointer none) := by kernel_rfl
theorem ag90 : aggOf Tryz.prog 90 = some 25 := by kernel_rfl
theorem sz90 : siz Tryz.prog 90 = some 25 := by kernel_rfl
theorem ze90 : zer Tryz.prog 90 = some (.agg #[.int .u64 0, .int .u64 0, .int .u64 0, .int .u64 0, .int .u64 0, .int .u64 0, .int .u64 0, .int .u64 0, .int .u64 0, .int .u64 0, .int .u64 0, .int .u64 0, .int .u64 0, .int .u64 0, .int .u64 0, .int .u64 0, .int .u64 0, .int .u64 0, .int .u64 0, .int .u64 0, .int .u64 0, .int .u64 0, .int .u64 0, .int .u64 0, .int .u64 0]) := by kernel_rfl
theorem ae90 : aelt Tryz.prog 90 = some (25, 23, 1) := by kernel_rfl
theorem ag91 : aggOf Tryz.prog 91 = some 25 := by kernel_rfl
theorem sz91 : siz Tryz.prog 91 = some 25 := by kernel_rfl
theorem ze91 : zer Tryz.prog 91 = some (.agg #[.int .u64 0, .int .u64 0, .int .u64 0, .int .u64 0, .int .u64 0, .int .u64 0, .int .u64 0, .int .u64 0, .int .u64 0, .int .u64 0, .int .u64 0, .int .u64 0, .int .u64 0, .int .u64 0, .int .u64 0, .int .u64 0, .int .u64 0, .int .u64 0, .int .u64 0, .int .u64 0, .int .u64 0, .int .u64 0, .int .u64 0, .int .u64 0, .int .u64 0]) := by kernel_rfl
theorem ae91 : aelt Tryz.prog 91 = some (25, 23, 1) := by kernel_rfl
theorem ag92 : aggOf Tryz.prog 92 = some 26 := by kernel_rfl
theorem sz92 : siz Tryz.prog 92 = some 26 := by kernel_rfl
theorem ze92 : zer Tryz.prog 92 = some (.agg #[.int .u64 0, .int .u64 0, .int .u64 0, .int .u64 0, .int .u64 0, .int .u64 0, .int .u64 0, .int .u64 0, .int .u64 0, .int .u64 0, .int .u64 0, .int .u64 0, .int .u64 0, .int .u64 0, .int .u64 0, .int .u64 0, .int .u64 0, .int .u64 0, .int .u64 0, .int .u64 0, .int .u64 0, .int .u64 0, .int .u64 0, .int .u64 0, .int .u64 0, .slice none 0 0]) := by kernel_rfl
theorem fl92_0 : fld Tryz.prog 92 0 = some 0 := by kernel_rfl
theorem fl92_1 : fld Tryz.prog 92 1 = some 25 := by kernel_rfl
theorem pl92 : places Tryz.prog 92 = some [(0, 25), (25, 1)] := by kernel_rfl
theorem ag93 : aggOf Tryz.prog 93 = some 26 := by kernel_rfl
theorem sz93 : siz Tryz.prog 93 = some 26 := by kernel_rfl
theorem ze93 : zer Tryz.prog 93 = some (.agg #[.int .u64 0, .int .u64 0, .int .u64 0, .int .u64 0, .int .u64 0, .int .u64 0, .int .u64 0, .int .u64 0, .int .u64 0, .int .u64 0, .int .u64 0, .int .u64 0, .int .u64 0, .int .u64 0, .int .u64 0, .int .u64 0, .int .u64 0, .int .u64 0, .int .u64 0, .int .u64 0, .int .u64 0, .int .u64 0, .int .u64 0, .int .u64 0, .int .u64 0, .slice none 0 0]) := by kernel_rfl
theorem fl93_0 : fld Tryz.prog 93 0 = some 0 := by kernel_rfl
theorem fl93_1 : fld Tryz.prog 93 1 = some 25 := by kernel_rfl
theorem pl93 : places Tryz.prog 93 = some [(0, 25), (25, 1)] := by kernel_rfl
theorem sc102 : scal Tryz.prog 102 = true := by kernel_rfl
theorem sz102 : siz Tryz.prog 102 = some 1 := by kernel_rfl
theorem sc111 : scal Tryz.prog 111 = true := by kernel_rfl
theorem sz111 : siz Tryz.prog 111 = some 1 := by kernel_rfl
theorem ze111 : zer Tryz.prog 111 = some (.slice none 0 0) := by kernel_rfl
theorem se111 : selt Tryz.prog 111 = some (23, 1) := by kernel_rfl
theorem sc113 : scal Tryz.prog 113 = true := by kernel_rfl
theorem sz113 : siz Tryz.prog 113 = some 1 := by kernel_rfl
theorem ze113 : zer Tryz.prog 113 = some (.pointer none) := by kernel_rfl
theorem ag114 : aggOf Tryz.prog 114 = some 136 := by kernel_rfl
theorem sz114 : siz Tryz.prog 114 = some 136 := by kernel_rfl
theorem ae114 : aelt Tryz.prog 114 = some (136, 5, 1) := by kernel_rfl
theorem sc117 : scal Tryz.prog 117 = true := by kernel_rfl
theorem sz117 : siz Tryz.prog 117 = some 1 := by kernel_rfl
theorem ze117 : zer Tryz.prog 117 = some (.slice none 0 0) := by kernel_rfl
theorem se117 : selt Tryz.prog 117 = some (145, 5) := by kernel_rfl
theorem ag118 : aggOf Tryz.prog 118 = some 5 := by kernel_rfl
theorem sz118 : siz Tryz.prog 118 = some 5 := by kernel_rfl
theorem ze118 : zer Tryz.prog 118 = some (.agg #[.int .u64 0, .int .u64 0, .int .u64 0, .int .u64 0, .int .u64 0]) := by kernel_rfl
theorem ae118 : aelt Tryz.prog 118 = some (5, 23, 1) := by kernel_rfl
theorem ag126 : aggOf Tryz.prog 126 = some 24 := by kernel_rfl
theorem sz126 : siz Tryz.prog 126 = some 24 := by kernel_rfl
theorem ze126 : zer Tryz.prog 126 = some (.agg #[.int .u64 0, .int .u64 0, .int .u64 0, .int .u64 0, .int .u64 0, .int .u64 0, .int .u64 0, .int .u64 0, .int .u64 0, .int .u64 0, .int .u64 0, .int .u64 0, .int .u64 0, .int .u64 0, .int .u64 0, .int .u64 0, .int .u64 0, .int .u64 0, .int .u64 0, .int .u64 0, .int .u64 0, .int .u64 0, .int .u64 0, .int .u64 0]) := by kernel_rfl
theorem ae126 : aelt Tryz.prog 126 = some (24, 23, 1) := by kernel_rfl
theorem sc128 : scal Tryz.prog 128 = true := by kernel_rfl
theorem sz128 : siz Tryz.prog 128 = some 1 := by kernel_rfl
theorem ze128 : zer Tryz.prog 128 = some (.pointer none) := by kernel_rfl
theorem ag131 : aggOf Tryz.prog 131 = some 256 := by kernel_rfl
theorem sz131 : siz Tryz.prog 131 = some 256 := by kernel_rfl
theorem ae131 : aelt Tryz.prog 131 = some (256, 5, 1) := by kernel_rfl
theorem ag132 : aggOf Tryz.prog 132 = some 2 := by kernel_rfl
theorem sz132 : siz Tryz.prog 132 = some 2 := by kernel_rfl
theorem ze132 : zer Tryz.prog 132 = some (.agg #[.int .u8 0, .int .u8 0]) := by kernel_rfl
theorem fl132_0 : fld Tryz.prog 132 0 = some 0 := by kernel_rfl
theorem fl132_1 : fld Tryz.prog 132 1 = some 1 := by kernel_rfl
theorem pl132 : places Tryz.prog 132 = some [(0, 1), (1, 1)] := by kernel_rfl
theorem ag133 : aggOf Tryz.prog 133 = some 2 := by kernel_rfl
theorem sz133 : siz Tryz.prog 133 = some 2 := by kernel_rfl
theorem ze133 : zer Tryz.prog 133 = some (.agg #[.int .u8 0, .int .u8 0]) := by kernel_rfl
theorem fl133_0 : fld Tryz.prog 133 0 = some 0 := by kernel_rfl
theorem fl133_1 : fld Tryz.prog 133 1 = some 1 := by kernel_rfl
theorem pl133 : places Tryz.prog 133 = some [(0, 1), (1, 1)] := by kernel_rfl
theorem ag134 : aggOf Tryz.prog 134 = some 32 := by kernel_rfl
theorem sz134 : siz Tryz.prog 134 = some 32 := by kernel_rfl
theorem ze134 : zer Tryz.prog 134 = some (.agg #[.int .u8 0, .int .u8 0, .int .u8 0, .int .u8 0, .int .u8 0, .int .u8 0, .int .u8 0, .int .u8 0, .int .u8 0, .int .u8 0, .int .u8 0, .int .u8 0, .int .u8 0, .int .u8 0, .int .u8 0, .int .u8 0, .int .u8 0, .int .u8 0, .int .u8 0, .int .u8 0, .int .u8 0, .int .u8 0, .int .u8 0, .int .u8 0, .int .u8 0, .int .u8 0, .int .u8 0, .int .u8 0, .int .u8 0, .int .u8 0, .int .u8 0, .int .u8 0]) := by kernel_rfl
theorem ae134 : aelt Tryz.prog 134 = some (16, 133, 2) := by kernel_rfl
theorem ag142 : aggOf Tryz.prog 142 = some 3 := by kernel_rfl
theorem sz142 : siz Tryz.prog 142 = some 3 := by kernel_rfl
theorem ze142 : zer Tryz.prog 142 = some (.agg #[.int .i32 0, .int .i32 0, .int .i32 0]) := by kernel_rfl
theorem ae142 : aelt Tryz.prog 142 = some (3, 21, 1) := by kernel_rfl
theorem ag143 : aggOf Tryz.prog 143 = some 3 := by kernel_rfl
theorem sz143 : siz Tryz.prog 143 = some 3 := by kernel_rfl
theorem ze143 : zer Tryz.prog 143 = some (.agg #[.int .i32 0, .int .i32 0, .int .i32 0]) := by kernel_rfl
theorem ae143 : aelt Tryz.prog 143 = some (3, 21, 1) := by kernel_rfl
theorem ag144 : aggOf Tryz.prog 144 = some 5 := by kernel_rfl
theorem sz144 : siz Tryz.prog 144 = some 5 := by kernel_rfl
theorem ze144 : zer Tryz.prog 144 = some (.agg #[.int .u32 0, .int .u32 0, .int .i32 0, .int .i32 0, .int .i32 0]) := by kernel_rfl
theorem fl144_0 : fld Tryz.prog 144 0 = some 0 := by kernel_rfl
theorem fl144_1 : fld Tryz.prog 144 1 = some 1 := by kernel_rfl
theorem fl144_2 : fld Tryz.prog 144 2 = some 2 := by kernel_rfl
theorem pl144 : places Tryz.prog 144 = some [(0, 1), (1, 1), (2, 3)] := by kernel_rfl
theorem ag145 : aggOf Tryz.prog 145 = some 5 := by kernel_rfl
theorem sz145 : siz Tryz.prog 145 = some 5 := by kernel_rfl
theorem ze145 : zer Tryz.prog 145 = some (.agg #[.int .u32 0, .int .u32 0, .int .i32 0, .int .i32 0, .int .i32 0]) := by kernel_rfl
theorem fl145_0 : fld Tryz.prog 145 0 = some 0 := by kernel_rfl
theorem fl145_1 : fld Tryz.prog 145 1 = some 1 := by kernel_rfl
theorem fl145_2 : fld Tryz.prog 145 2 = some 2 := by kernel_rfl
theorem pl145 : places Tryz.prog 145 = some [(0, 1), (1, 1), (2, 3)] := by kernel_rfl
theorem sc149 : scal Tryz.prog 149 = true := by kernel_rfl
theorem sz149 : siz Tryz.prog 149 = some 1 := by kernel_rfl
theorem ze149 : zer Tryz.prog 149 = some (.pointer none) := by kernel_rfl
theorem ag150 : aggOf Tryz.prog 150 = some 4 := by kernel_rfl
theorem sz150 : siz Tryz.prog 150 = some 4 := by kernel_rfl
theorem ze150 : zer Tryz.prog 150 = some (.agg #[.pointer none, .pointer none, .pointer none, str []]) := by kernel_rfl
theorem fl150_0 : fld Tryz.prog 150 0 = some 0 := by kernel_rfl
theorem fl150_1 : fld Tryz.prog 150 1 = some 1 := by kernel_rfl
theorem fl150_2 : fld Tryz.prog 150 2 = some 2 := by kernel_rfl
theorem fl150_3 : fld Tryz.prog 150 3 = some 3 := by kernel_rfl
theorem pl150 : places Tryz.prog 150 = some [(0, 1), (1, 1), (2, 1), (3, 1)] := by kernel_rfl
theorem ag151 : aggOf Tryz.prog 151 = some 4 := by kernel_rfl
theorem sz151 : siz Tryz.prog 151 = some 4 := by kernel_rfl
theorem ze151 : zer Tryz.prog 151 = some (.agg #[.pointer none, .pointer none, .pointer none, str []]) := by kernel_rfl
theorem fl151_0 : fld Tryz.prog 151 0 = some 0 := by kernel_rfl
theorem fl151_1 : fld Tryz.prog 151 1 = some 1 := by kernel_rfl
theorem fl151_2 : fld Tryz.prog 151 2 = some 2 := by kernel_rfl
theorem fl151_3 : fld Tryz.prog 151 3 = some 3 := by kernel_rfl
theorem pl151 : places Tryz.prog 151 = some [(0, 1), (1, 1), (2, 1), (3, 1)] := by kernel_rfl
theorem ag152 : aggOf Tryz.prog 152 = some 0 := by kernel_rfl
theorem sz152 : siz Tryz.prog 152 = some 0 := by kernel_rfl
theorem ze152 : zer Tryz.prog 152 = some (.agg #[]) := by kernel_rfl
theorem ae152 : aelt Tryz.prog 152 = some (0, 16, 1) := by kernel_rfl
theorem ag153 : aggOf Tryz.prog 153 = some 0 := by kernel_rfl
theorem sz153 : siz Tryz.prog 153 = some 0 := by kernel_rfl
theorem ze153 : zer Tryz.prog 153 = some (.agg #[]) := by kernel_rfl
theorem pl153 : places Tryz.prog 153 = some [(0, 0)] := by kernel_rfl
theorem ag154 : aggOf Tryz.prog 154 = some 0 := by kernel_rfl
theorem sz154 : siz Tryz.prog 154 = some 0 := by kernel_rfl
theorem ze154 : zer Tryz.prog 154 = some (.agg #[]) := by kernel_rfl
theorem pl154 : places Tryz.prog 154 = some [(0, 0)] := by kernel_rfl
theorem sc156 : scal Tryz.prog 156 = true := by kernel_rfl
theorem sz156 : siz Tryz.prog 156 = some 1 := by kernel_rfl
theorem ze156 : zer Tryz.prog 156 = some (.int .u8 0) := by kernel_rfl
theorem sc157 : scal Tryz.prog 157 = true := by kernel_rfl
theorem sz157 : siz Tryz.prog 157 = some 1 := by kernel_rfl
theorem ze157 : zer Tryz.prog 157 = some (.int .u8 0) := by kernel_rfl
theorem sc159 : scal Tryz.prog 159 = true := by kernel_rfl
theorem sz159 : siz Tryz.prog 159 = some 1 := by kernel_rfl
theorem ze159 : zer Tryz.prog 159 = some (.int .i32 0) := by kernel_rfl
theorem sc160 : scal Tryz.prog 160 = true := by kernel_rfl
theorem sz160 : siz Tryz.prog 160 = some 1 := by kernel_rfl
theorem ze160 : zer Tryz.prog 160 = some (.int .i32 0) := by kernel_rfl
theorem ag161 : aggOf Tryz.prog 161 = some 11 := by kernel_rfl
theorem sz161 : siz Tryz.prog 161 = some 11 := by kernel_rfl
theorem ze161 : zer Tryz.prog 161 = some (.agg #[.int .u64 0, .int .u64 0, .int .u32 0, .int .u8 0, .int .u8 0, .int .u8 0, .int .u8 0, .nilFunc, .pointer none, .int .i32 0, .int .i32 0]) := by kernel_rfl
theorem fl161_0 : fld Tryz.prog 161 0 = some 0 := by kernel_rfl
theorem fl161_1 : fld Tryz.prog 161 1 = some 1 := by kernel_rfl
theorem fl161_2 : fld Tryz.prog 161 2 = some 2 := by kernel_rfl
theorem fl161_3 : fld Tryz.prog 161 3 = some 3 := by kernel_rfl
theorem fl161_4 : fld Tryz.prog 161 4 = some 4 := by kernel_rfl
theorem fl161_5 : fld Tryz.prog 161 5 = some 5 := by kernel_rfl
theorem fl161_6 : fld Tryz.prog 161 6 = some 6 := by kernel_rfl
theorem fl161_7 : fld Tryz.prog 161 7 = some 7 := by kernel_rfl
theorem fl161_8 : fld Tryz.prog 161 8 = some 8 := by kernel_rfl
theorem fl161_9 : fld Tryz.prog 161 9 = some 9 := by kernel_rfl
theorem fl161_10 : fld Tryz.prog 161 10 = some 10 := by kernel_rfl
theorem pl161 : places Tryz.prog 161 = some [(0, 1), (1, 1), (2, 1), (3, 1), (4, 1), (5, 1), (6, 1), (7, 1), (8, 1), (9, 1), (10, 1)] := by kernel_rfl
theorem ag162 : aggOf Tryz.prog 162 = some 11 := by kernel_rfl
theorem sz162 : siz Tryz.prog 162 = some 11 := by kernel_rfl
theorem ze162 : zer Tryz.prog 162 = some (.agg #[.int .u64 0, .int .u64 0, .int .u32 0, .int .u8 0, .int .u8 0, .int .u8 0, .int .u8 0, .nilFunc, .pointer none, .int .i32 0, .int .i32 0]) := by kernel_rfl
theorem fl162_0 : fld Tryz.prog 162 0 = some 0 := by kernel_rfl
theorem fl162_1 : fld Tryz.prog 162 1 = some 1 := by kernel_rfl
theorem fl162_2 : fld Tryz.prog 162 2 = some 2 := by kernel_rfl
theorem fl162_3 : fld Tryz.prog 162 3 = some 3 := by kernel_rfl
theorem fl162_4 : fld Tryz.prog 162 4 = some 4 := by kernel_rfl
theorem fl162_5 : fld Tryz.prog 162 5 = some 5 := by kernel_rfl
theorem fl162_6 : fld Tryz.prog 162 6 = some 6 := by kernel_rfl
theorem fl162_7 : fld Tryz.prog 162 7 = some 7 := by kernel_rfl
theorem fl162_8 : fld Tryz.prog 162 8 = some 8 := by kernel_rfl
theorem fl162_9 : fld Tryz.prog 162 9 = some 9 := by kernel_rfl
theorem fl162_10 : fld Tryz.prog 162 10 = some 10 := by kernel_rfl
theorem pl162 : places Tryz.prog 162 = some [(0, 1), (1, 1), (2, 1), (3, 1), (4, 1), (5, 1), (6, 1), (7, 1), (8, 1), (9, 1), (10, 1)] := by kernel_rfl
theorem ag163 : aggOf Tryz.prog 163 = some 1 := by kernel_rfl
theorem sz163 : siz Tryz.prog 163 = some 1 := by kernel_rfl
theorem ze163 : zer Tryz.prog 163 = some (.agg #[str []]) := by kernel_rfl
theorem fl163_0 : fld Tryz.prog 163 0 = some 0 := by kernel_rfl
theorem pl163 : places Tryz.prog 163 = some [(0, 1)] := by kernel_rfl
theorem ag164 : aggOf Tryz.prog 164 = some 1 := by kernel_rfl
theorem sz164 : siz Tryz.prog 164 = some 1 := by kernel_rfl
theorem ze164 : zer Tryz.prog 164 = some (.agg #[str []]) := by kernel_rfl
theorem fl164_0 : fld Tryz.prog 164 0 = some 0 := by kernel_rfl
theorem pl164 : places Tryz.prog 164 = some [(0, 1)] := by kernel_rfl
theorem te5 : ElemInfo Tryz.prog 5 (.int .u8 0) 1 1 := elem_of (by kernel_rfl) rfl (by decide)
theorem te21 : ElemInfo Tryz.prog 21 (.int .i32 0) 1 4 := elem_of (by kernel_rfl) rfl (by decide)
theorem te23 : ElemInfo Tryz.prog 23 (.int .u64 0) 1 8 := elem_of (by kernel_rfl) rfl (by decide)
theorem te56 : ElemInfo Tryz.prog 56 (.int .u32 0) 1 4 := elem_of (by kernel_rfl) rfl (by decide)
theorem te145 : ElemInfo Tryz.prog 145 (.agg #[.int .u32 0, .int .u32 0, .int .i32 0, .int .i32 0, .int .i32 0]) 5 20 := elem_of (by kernel_rfl) rfl (by decide)
end Go.Proofs.YtnpcaplgkmlmoaaGreatDoor
/- strings.Builder: its methods at a builder of the caller's own. No condition but the room that Go gives. -/
namespace Go.Proofs.YtnpcaplgkmlmoaaGreatDoor
set_option linter.unusedVariables false
set_option linter.unusedSimpArgs false
open Go Go.RowKit
theorem info_of_siz {P : Program} {t : TypeId} {k : Nat} (h : siz P t = some k) : ∃ j, P.info? t = some j ∧ j.size = k := by
  unfold siz at h
  cases e : P.info? t with
  | none => rw [e] at h; cases h
  | some j => rw [e] at h; exact ⟨j, rfl, by injection h⟩
section
variable {Nx Nr : Heaplet} {b n c : Nat} {a : Option Addr} {p : Option Addr} {sl q : Value} {l : List UInt8}
theorem FCopy_n (Bx : Blk Nx b 36 [.pointer none, sl]) : Fn Tryz.prog 34 #[.pointer (some ⟨b, 0, none⟩)] [Nx] [] (fun v L => v = .tuple #[] ∧ ∃ M, L = [M] ∧ Blk M b 36 [.pointer (some ⟨b, 0, none⟩), sl]) := by
  obtain ⟨j, hj, hjs⟩ := info_of_siz sz36
  have hE : ∀ w, (callFunc 63 #[.pointer (some ⟨b, 0, none⟩)]).run Tryz.prog w = .ok (.value (.pointer (some ⟨b, 0, none⟩))) w := fun w => by
    rw [run_callFunc_extern Tryz.func63 (by kernel_rfl) (by kernel_rfl) (by kernel_rfl) (e := Extern.AbiNoEscape.same) (by kernel_rfl)]
    rfl
  refine Fn.enter (vs := [.pointer (some ⟨b, 0, none⟩)]) Tryz.func34 rfl rfl rfl ?_
  intro E R hR
  change At _ _ E [Nx, R] _
  refine At.seq fun K1 hk_1 => ?_
  refine At.region ?_
  refine op_move (nxlf rfl) rfl rfl ?_
  refine op_nilChk (nxlf rfl) rfl rfl ?_
  refine op_fieldAddr (nxlf rfl) fl36_0 rfl rfl ?_
  refine op_loadB (nxlf rfl) sc34 rfl Bx (by first | rfl) mem0 rfl ?_
  refine op_eqPN (nxlf rfl) Tryz.underlying34 rfl rfl rfl ?_
  refine At.opsNil ?_
  refine At.norm (hk_1 ?_)
  refine At.condT rfl ?_
  refine At.region ?_
  refine op_move (nxlf rfl) rfl rfl ?_
  refine op_move (nxlf rfl) rfl rfl ?_
  refine op_toU (nxlf rfl) Tryz.underlying34 Tryz.underlying102 hj (by rw [hjs]; decide) rfl Bx (by simp) mem0 rfl ?_
  refine op_ext (nxla rfl) (.cons rfl .nil) (hE) rfl ?_
  refine op_fromU (nxlf rfl) Tryz.underlying102 Tryz.underlying34 hj rfl Bx (by kernel_rfl) mem0 rfl ?_
  refine op_nilChk (nxlf rfl) rfl rfl ?_
  refine op_fieldAddr (nxlf rfl) fl36_0 rfl rfl ?_
  refine op_store (nxl rfl) sz34 rfl rfl rfl rfl rfl Bx (by simp) sel0 (fun Nx Bx => ?_)
  simp only [setL, List.set] at Bx
  refine At.opsNil ?_
  refine At.retNE (L1 := [Nx]) rfl .nil rfl (.refl _) (.refl _) ?_
  exact ⟨rfl, Nx, rfl, Bx⟩
theorem FCopy_s (Bx : Blk Nx b 36 [.pointer (some ⟨b, 0, none⟩), sl]) : Fn Tryz.prog 34 #[.pointer (some ⟨b, 0, none⟩)] [Nx] [] (fun v L => v = .tuple #[] ∧ ∃ M, L = [M] ∧ Blk M b 36 [.pointer (some ⟨b, 0, none⟩), sl]) := by
  obtain ⟨j, hj, hjs⟩ := info_of_siz sz36
  refine Fn.enter (vs := [.pointer (some ⟨b, 0, none⟩)]) Tryz.func34 rfl rfl rfl ?_
  intro E R hR
  change At _ _ E [Nx, R] _
  refine At.seq fun K1 hk_1 => ?_
  refine At.region ?_
  refine op_move (nxlf rfl) rfl rfl ?_
  refine op_nilChk (nxlf rfl) rfl rfl ?_
  refine op_fieldAddr (nxlf rfl) fl36_0 rfl rfl ?_
  refine op_loadB (nxlf rfl) sc34 rfl Bx (by first | rfl) mem0 rfl ?_
  refine op_eqPN (nxlf rfl) Tryz.underlying34 rfl rfl rfl ?_
  refine At.opsNil ?_
  refine At.norm (hk_1 ?_)
  refine At.condF rfl ?_
  refine At.seq fun K2 hk_2 => ?_
  refine At.region ?_
  refine op_move (nxlf rfl) rfl rfl ?_
  refine op_nilChk (nxlf rfl) rfl rfl ?_
  refine op_fieldAddr (nxlf rfl) fl36_0 rfl rfl ?_
  refine op_loadB (nxlf rfl) sc34 rfl Bx (by first | rfl) mem0 rfl ?_
  refine op_move (nxlf rfl) rfl rfl ?_
  refine op_nePS (nxlf rfl) Tryz.underlying34 hj rfl rfl rfl ?_
  refine At.opsNil ?_
  refine At.norm (hk_2 ?_)
  refine At.condF rfl ?_
  refine At.skip ?_
  refine At.retNE (L1 := [Nx]) rfl .nil rfl (.refl _) (.refl _) ?_
  exact ⟨rfl, Nx, rfl, Bx⟩
theorem FCopy_f (hp : p = none ∨ p = some ⟨b, 0, none⟩) (Bx : Blk Nx b 36 [.pointer p, sl]) : Fn Tryz.prog 34 #[.pointer (some ⟨b, 0, none⟩)] [Nx] [] (fun v L => v = .tuple #[] ∧ ∃ M, L = [M] ∧ Blk M b 36 [.pointer (some ⟨b, 0, none⟩), sl]) := by
  rcases hp with rfl | rfl
  · exact FCopy_n Bx
  · exact FCopy_s Bx
/-- What a writing method leaves: the builder, and its bytes. -/
def BldP (b m : Nat) (l : List UInt8) (L : List Heaplet) : Prop := ∃ M K a c, L = [M, K] ∧ Blk M b 36 [.pointer (some ⟨b, 0, none⟩), .slice a m c] ∧ Row K 5 1 a m c (u8s l)
theorem FWByte_f (hp : p = none ∨ p = some ⟨b, 0, none⟩) (Bx : Blk Nx b 36 [.pointer p, .slice a n c]) (hr : Row Nr 5 1 a n c (u8s l)) (hn : n ≤ 35184372088832) (x : UInt8) : Fn Tryz.prog 15 #[.pointer (some ⟨b, 0, none⟩), .int .u8 (x.toNat : Int)] [Nx, Nr] [] (fun v L => v = .nilIface ∧ BldP b (n + 1) (l ++ [x]) L) := by
  refine Fn.enter (vs := [.pointer (some ⟨b, 0, none⟩), .int .u8 (x.toNat : Int)]) Tryz.func15 rfl rfl rfl ?_
  intro E R hR
  change At _ _ E [Nx, Nr, R] _
  refine At.seq fun K1 hk_1 => ?_
  refine At.region ?_
  refine op_assign (nxlf rfl) rfl rfl ?_
  refine At.opsNil ?_
  refine At.norm (hk_1 ?_)
  refine At.seq fun K2 hk_2 => ?_
  refine At.region ?_
  refine op_move (nxlf rfl) rfl rfl ?_
  refine op_call (nxl rfl) (.cons rfl .nil) (FCopy_f hp Bx) (F := [Nr, R]) Tryz.func34 rfl rfl (.refl _) (by simp) rfl ?_
  rintro v6 L6 ⟨rfl, Nx, rfl, Bx⟩
  change At _ _ _ [Nx, Nr, R] _
  refine At.opsNil ?_
  refine At.norm (hk_2 ?_)
  refine At.seq fun K3 hk_3 => ?_
  refine At.region ?_
  refine op_move (nxlf rfl) rfl rfl ?_
  refine op_move (nxlf rfl) rfl rfl ?_
  refine op_nilChk (nxlf rfl) rfl rfl ?_
  refine op_fieldAddr (nxlf rfl) fl36_1 rfl rfl ?_
  refine op_loadB (nxlf rfl) sc22 rfl Bx (by first | rfl) mem0 rfl ?_
  refine op_move (nxlf rfl) rfl rfl ?_
  refine op_lit (nxla rfl) Tryz.underlying22 ze5 sz5 (.cons rfl .nil) rfl rfl (by simp [Value.cells]) rfl rfl rfl (fun N13 a13 r13 => ?_)
  simp only [flatV, List.flatMap_cons, List.flatMap_nil, Value.cells, List.append_nil, List.cons_append, List.nil_append] at r13
  have s13 := r13.rsl
  change Row N13 _ 1 a13 1 1 (u8s [x]) at r13
  have s13 := r13.rsl
  refine op_append (nxl rfl) Tryz.underlying22 Tryz.underlying22 te5 rfl rfl hr s13 (by first | exact mem0 | exact mem1 | exact mem2 | exact mem3 | exact mem4 | exact mem5 | exact mem6 | exact mem7 | exact mem8 | exact mem9) (by first | exact one_u8s _ | exact one_u64s _ | exact one_u32s _ | (intro u hu; simp at hu; subst hu; rfl)) (by omega) (by omega) sel2 rfl (fun N14 a14 p14 r14 => ?_)
  have s14 := r14.rsl
  refine op_nilChk (nxlf rfl) rfl rfl ?_
  refine op_fieldAddr (nxlf rfl) fl36_1 rfl rfl ?_
  refine op_store (nxl rfl) sz22 rfl rfl rfl rfl rfl Bx (by simp) sel2 (fun Nx Bx => ?_)
  simp only [setL, List.set] at Bx
  refine At.opsNil ?_
  refine At.norm (hk_3 ?_)
  refine At.seq fun K4 hk_4 => ?_
  refine At.region ?_
  refine op_assign (nxlf rfl) rfl rfl ?_
  refine At.opsNil ?_
  refine At.norm (hk_4 ?_)
  refine At.ret (?_)
  refine At.sub (L' := [Nx, N14, R]) (.cons_cons _ (.cons_cons _ (.cons _ (.cons_cons _ (.slnil))))) ?_
  refine At.ret1 (L1 := [Nx, N14]) rfl (.tmp rfl .nil) (.refl _) (.refl _) ?_
  exact ⟨rfl, Nx, N14, a14, p14, rfl, Bx, by rw [show u8s (l ++ [x]) = u8s l ++ u8s [x] by simp [u8s]]; exact r14⟩
theorem FWStr_f (hp : p = none ∨ p = some ⟨b, 0, none⟩) (Bx : Blk Nx b 36 [.pointer p, .slice a n c]) (hr : Row Nr 5 1 a n c (u8s l)) (xs : List UInt8) (hn : n + xs.length ≤ 35184372088832) : Fn Tryz.prog 14 #[.pointer (some ⟨b, 0, none⟩), str xs] [Nx, Nr] [] (fun v L => v = .tuple #[.int .i64 (xs.length : Int), .nilIface] ∧ BldP b (n + xs.length) (l ++ xs) L) := by
  obtain ⟨i, hi, hz, hsz, hby, _, _⟩ := te5
  refine Fn.enter (vs := [.pointer (some ⟨b, 0, none⟩), str xs]) Tryz.func14 rfl rfl rfl ?_
  intro E R hR
  change At _ _ E [Nx, Nr, R] _
  refine At.seq fun K1 hk_1 => ?_
  refine At.region ?_
  refine op_assign (nxlf rfl) rfl rfl ?_
  refine op_assign (nxlf rfl) rfl rfl ?_
  refine At.opsNil ?_
  refine At.norm (hk_1 ?_)
  refine At.seq fun K2 hk_2 => ?_
  refine At.region ?_
  refine op_move (nxlf rfl) rfl rfl ?_
  refine op_call (nxl rfl) (.cons rfl .nil) (FCopy_f hp Bx) (F := [Nr, R]) Tryz.func34 rfl rfl (.refl _) (by simp) rfl ?_
  rintro v7 L7 ⟨rfl, Nx, rfl, Bx⟩
  change At _ _ _ [Nx, Nr, R] _
  refine At.opsNil ?_
  refine At.norm (hk_2 ?_)
  refine At.seq fun K3 hk_3 => ?_
  refine At.region ?_
  refine op_move (nxlf rfl) rfl rfl ?_
  refine op_move (nxlf rfl) rfl rfl ?_
  refine op_nilChk (nxlf rfl) rfl rfl ?_
  refine op_fieldAddr (nxlf rfl) fl36_1 rfl rfl ?_
  refine op_loadB (nxlf rfl) sc22 rfl Bx (by first | rfl) mem0 rfl ?_
  refine op_move (nxlf rfl) rfl rfl ?_
  refine op_appendS (nxl rfl) Tryz.underlying22 Tryz.underlying9 hi hz hsz hby rfl rfl hr (by omega) sel1 rfl (fun N14 a14 p14 r14 => ?_)
  refine op_nilChk (nxlf rfl) rfl rfl ?_
  refine op_fieldAddr (nxlf rfl) fl36_1 rfl rfl ?_
  refine op_store (nxl rfl) sz22 rfl rfl rfl rfl rfl Bx (by simp) sel1 (fun Nx Bx => ?_)
  simp only [setL, List.set] at Bx
  refine At.opsNil ?_
  refine At.norm (hk_3 ?_)
  refine At.seq fun K4 hk_4 => ?_
  refine At.region ?_
  refine op_move (nxlf rfl) rfl rfl ?_
  refine op_lenStr (nxlf rfl) Tryz.underlying9 rfl rfl ?_
  refine op_assign (nxlf rfl) rfl rfl ?_
  refine op_assign (nxlf rfl) rfl rfl ?_
  refine At.opsNil ?_
  refine At.norm (hk_4 ?_)
  refine At.ret (?_)
  refine At.retN (L1 := [Nx, N14]) rfl (.tmp rfl (.tmp rfl .nil)) rfl (.refl _) (.refl _) ?_
  exact ⟨rfl, Nx, N14, a14, p14, rfl, Bx, by rw [show u8s (l ++ xs) = u8s l ++ u8s xs by simp [u8s]]; exact r14⟩
theorem FString_f (Bx : Blk Nx b 36 [q, .slice a n c]) (hr : Row Nr 5 1 a n c (u8s l)) (h0 : 0 < n) : Fn Tryz.prog 16 #[.pointer (some ⟨b, 0, none⟩)] [Nx, Nr] [] (fun v L => v = str l ∧ L = []) := by
  have hc1 := hr.2.1
  have hc2 : c ≤ 9223372036854775807 := hr.2.2.1
  obtain ⟨g, rfl⟩ : ∃ g, a = some ⟨g, 0, none⟩ := by
    rcases hr.2.2.2 with ⟨_, h, _⟩ | ⟨g, _, h, _⟩
    · omega
    · exact ⟨g, h⟩
  refine Fn.enter (vs := [.pointer (some ⟨b, 0, none⟩)]) Tryz.func16 rfl rfl rfl ?_
  intro E R hR
  change At _ _ E [Nx, Nr, R] _
  refine At.seq fun K1 hk_1 => ?_
  refine At.region ?_
  refine op_assign (nxlf rfl) rfl rfl ?_
  refine At.opsNil ?_
  refine At.norm (hk_1 ?_)
  refine At.seq fun K2 hk_2 => ?_
  refine At.drawn [10] [0,1,2,3,5,6,7,8,9,4,10,11] (by kernel_rfl) (by kernel_rfl) ?_
  refine op_move (nxof rfl rfl rfl (by kernel_rfl)) rfl rfl ?_
  refine op_nilChk (nxof rfl rfl rfl (by kernel_rfl)) rfl rfl ?_
  refine op_fieldAddr (nxof rfl rfl rfl (by kernel_rfl)) fl36_1 rfl rfl ?_
  refine op_loadB (nxof rfl rfl rfl (by kernel_rfl)) sc22 rfl Bx (by first | rfl) mem0 rfl ?_
  refine op_move (nxof rfl rfl rfl (by kernel_rfl)) rfl rfl ?_
  refine op_nilChk (nxof rfl rfl rfl (by kernel_rfl)) rfl rfl ?_
  refine op_fieldAddr (nxof rfl rfl rfl (by kernel_rfl)) fl36_1 rfl rfl ?_
  refine op_loadB (nxof rfl rfl rfl (by kernel_rfl)) sc22 rfl Bx (by first | rfl) mem0 rfl ?_
  refine op_lenS (nxof rfl rfl rfl (by kernel_rfl)) se22 rfl rfl ?_
  -- an operation that writes, not last
  refine op_sliceData (nxoa rfl rfl rfl) rfl (by omega) rfl ?_
  refine op_unsafeStr (nxos rfl rfl rfl rfl) Tryz.underlying68 (by kernel_rfl) rfl rfl hr h0 (by omega) sel1 rfl ?_
  refine op_assign (nxof rfl rfl rfl (by kernel_rfl)) rfl rfl ?_
  refine At.oneNil ?_
  refine At.norm (hk_2 ?_)
  refine At.ret (?_)
  refine At.sub (L' := [R]) (.cons _ (.cons_cons _ (.slnil))) ?_
  refine At.ret1 (L1 := []) rfl (.tmp rfl .nil) (.refl _) (.refl _) ?_
  exact ⟨rfl, rfl⟩
end
end Go.Proofs.YtnpcaplgkmlmoaaGreatDoor
/- Helps: contracts out of the kit's form, strings joined, quarrykeep.Twin. No condition. -/
namespace Go.Proofs.YtnpcaplgkmlmoaaGreatDoor
set_option linter.unusedVariables false
set_option linter.unusedSimpArgs false
open Go Go.RowKit
theorem Fn.of_val {P : Program} {f : FuncId} {args : Array Value} {Lr : List Heaplet} {X : Value} (h : ∀ w, (∀ N ∈ Lr, N.le (whole w)) → Calls P f args w (Ret w fun v _ => v = X)) : Fn P f args [] Lr (fun v L => v = X ∧ L = []) :=
  Fn.of_ret h fun _ _ _ hv _ => ⟨[], ⟨hv, rfl⟩, fun N hN => absurd hN List.not_mem_nil, .nil⟩
theorem Fn.of_same0 {P : Program} {f : FuncId} {args : Array Value} {X : Value} (h : ∀ w, Calls P f args w fun e w' => e = .returned X ∧ w' = w) : Fn P f args [] [] (fun v L => v = X ∧ L = []) :=
  Fn.of_val fun w _ => (h w).mono fun e w' ⟨he, hw⟩ => by subst he; subst hw; exact ⟨_, rfl, rfl, Below.refl _ _⟩
theorem Fn.of_alloc {P : Program} {f : FuncId} {args : Array Value} {Lr : List Heaplet} {X : Value} {o : Obj} (h : ∀ w, (∀ N ∈ Lr, N.le (whole w)) → Calls P f args w fun e w' => e = .returned X ∧ w' = w.alloc o) : Fn P f args [] Lr (fun v L => v = X ∧ L = []) :=
  Fn.of_val fun w hr => (h w hr).mono fun e w' ⟨he, hw⟩ => by subst he; subst hw; exact ⟨_, rfl, rfl, (Below.refl _ _).alloc (Nat.le_refl _) _⟩
section
variable {P : Program} {n : Nat} {l : List (Nat × Value)} {E : World} {L Ls : List Heaplet} {X Y : Act → World → Prop} {d : Nat} {t t' ty : TypeId} {x y : Operand}
theorem bytes_join (a b : List UInt8) : (⟨a.toArray⟩ ++ ⟨b.toArray⟩ : ByteArray) = ⟨(a ++ b).toArray⟩ := by
  apply ByteArray.ext
  simp
theorem op_addS {a b : List UInt8} {pos : _} {aft : _} {g : _} (s : NxF P n l E L Ls ⟨some d, .binOp .add t x y t', ty, pos, aft, g⟩ X Y) (hx : ev l x = some (str a)) (hy : ev l y = some (str b)) (hl : a.length + b.length ≤ 9223372036854775807) (hn : Nat.ble (d + 1) n = true) (h : At n ((d, str (a ++ b)) :: l) E L Y) : At n l E L X :=
  op_bin s hx hy (fun w => eqGuard_string w) (fun w => by
    have e : ¬ (((⟨a.toArray⟩ : ByteArray).size + (⟨b.toArray⟩ : ByteArray).size : Nat) : Int) > IntKind.i64.max := by
      have e1 : (⟨a.toArray⟩ : ByteArray).size = a.length := rfl
      have e2 : (⟨b.toArray⟩ : ByteArray).size = b.length := rfl
      have e3 : IntKind.i64.max = 9223372036854775807 := rfl
      rw [e1, e2, e3]; omega
    simp only [str, binOp, Op.stringOp]
    rw [if_neg e, bytes_join]; rfl) hn h
end
theorem KTwin_f {N : Heaplet} {ao : Option Addr} {n cap : Nat} {l : List UInt8} (h : RSl N 1 ao n cap (u8s l)) (m : Nat) (q : Int) (hq : q = (m : Int)) (hm : m ≤ 140737488351232) :
    Fn Tryz.prog 4 #[.slice ao n cap, .int .i64 q] [] [N] (fun v L => ∃ M a c, v = .slice a (l.take m).length c ∧ L = [M] ∧ Row M 5 1 a (l.take m).length c (u8s (l.take m))) := by
  have hlen := h.len8
  have hcap := h.cap63
  refine Fn.enter (vs := [.slice ao n cap, .int .i64 q]) Tryz.func4 rfl rfl rfl ?_
  intro E R hR
  have h := h.le (hR N (by simp))
  change At _ _ E [R] _
  refine At.seq fun K1 hk_1 => ?_
  refine At.region ?_
  refine op_assign (nxlf rfl) rfl rfl ?_
  refine At.opsNil ?_
  refine At.norm (hk_1 ?_)
  refine At.seq fun K2 hk_2 => ?_
  refine At.seq fun K3 hk_3 => ?_
  refine At.region ?_
  refine op_move (nxlf rfl) rfl rfl ?_
  refine op_lenS (nxlf rfl) se22 rfl rfl ?_
  refine op_move (nxlf rfl) rfl rfl ?_
  refine op_gtr (nxlf rfl) rfl rfl rfl ?_
  refine At.opsNil ?_
  refine At.norm (hk_3 ?_)
  refine At.condP rfl (fun c8 => ?_) (fun c8 => ?_)
  · refine At.region ?_
    refine op_move (nxlf rfl) rfl rfl ?_
    refine op_move (nxlf rfl) rfl rfl ?_
    refine op_slice0 (nxlf rfl) se22 rfl (.some rfl (show _ = (((m : Nat)) : Int) from by omega)) .none (by omega) (by omega) (by simp) rfl ?_
    have s11 := h.take8 (hi := m) (m := cap) (by omega) (by omega) (by omega)
    refine op_assign (nxlf rfl) rfl rfl ?_
    refine At.opsNil ?_
    refine At.norm (hk_2 ?_)
    refine At.seq fun K4 hk_4 => ?_
    refine At.region ?_
    refine op_lit (nxla rfl) Tryz.underlying22 ze5 sz5 .nil rfl rfl (by simp [Value.cells]) rfl rfl rfl (fun N12 a12 r12 => ?_)
    simp only [flatV, List.flatMap_cons, List.flatMap_nil, Value.cells, List.append_nil, List.cons_append, List.nil_append] at r12
    have s12 := r12.rsl
    refine op_move (nxlf rfl) rfl rfl ?_
    refine op_append (nxl rfl) Tryz.underlying22 Tryz.underlying22 te5 rfl rfl r12 (by assumption) (by first | exact mem0 | exact mem1 | exact mem2 | exact mem3 | exact mem4 | exact mem5 | exact mem6 | exact mem7 | exact mem8 | exact mem9) (by first | exact one_u8s _ | exact one_u64s _ | exact one_u32s _ | (intro u hu; simp at hu; subst hu; rfl)) (by omega) (by omega) sel0 rfl (fun N14 a14 p14 r14 => ?_)
    have s14 := r14.rsl
    refine op_assign (nxlf rfl) rfl rfl ?_
    refine At.opsNil ?_
    refine At.norm (hk_4 ?_)
    refine At.ret (?_)
    refine At.ret1 (L1 := [N14]) rfl (.tmp rfl .nil) (.refl _) (.refl _) ?_
    rw [List.nil_append, Nat.zero_add] at r14
    exact ⟨N14, a14, p14, by rw [List.length_take, hlen, Nat.min_eq_left (by omega), Nat.zero_add], rfl, by rw [List.length_take, hlen, Nat.min_eq_left (by omega)]; exact r14⟩
  · refine At.skip ?_
    refine At.norm (hk_2 ?_)
    refine At.seq fun K5 hk_5 => ?_
    refine At.region ?_
    refine op_lit (nxla rfl) Tryz.underlying22 ze5 sz5 .nil rfl rfl (by simp [Value.cells]) rfl rfl rfl (fun N12 a12 r12 => ?_)
    simp only [flatV, List.flatMap_cons, List.flatMap_nil, Value.cells, List.append_nil, List.cons_append, List.nil_append] at r12
    have s12 := r12.rsl
    refine op_move (nxlf rfl) rfl rfl ?_
    refine op_append (nxl rfl) Tryz.underlying22 Tryz.underlying22 te5 rfl rfl r12 (by assumption) (by first | exact mem0 | exact mem1 | exact mem2 | exact mem3 | exact mem4 | exact mem5 | exact mem6 | exact mem7 | exact mem8 | exact mem9) (by first | exact one_u8s _ | exact one_u64s _ | exact one_u32s _ | (intro u hu; simp at hu; subst hu; rfl)) (by omega) (by omega) sel0 rfl (fun N14 a14 p14 r14 => ?_)
    have s14 := r14.rsl
    refine op_assign (nxlf rfl) rfl rfl ?_
    refine At.opsNil ?_
    refine At.norm (hk_5 ?_)
    refine At.ret (?_)
    refine At.ret1 (L1 := [N14]) rfl (.tmp rfl .nil) (.refl _) (.refl _) ?_
    rw [List.nil_append, Nat.zero_add] at r14
    have e : l.take m = l := List.take_of_length_le (by omega)
    exact ⟨N14, a14, p14, by rw [e, hlen, Nat.zero_add], rfl, by rw [e, hlen]; exact r14⟩
end Go.Proofs.YtnpcaplgkmlmoaaGreatDoor
/- hexa.Text and the reference's: bytes as hex digits. Condition: at most 2^40 bytes. -/
namespace Go.Proofs.YtnpcaplgkmlmoaaGreatDoor
set_option linter.unusedVariables false
set_option linter.unusedSimpArgs false
open Go Go.RowKit
def hexD : List UInt8 := [48, 49, 50, 51, 52, 53, 54, 55, 56, 57, 97, 98, 99, 100, 101, 102]
/-- The two digits of a byte. -/
def hexB (b : UInt8) : List UInt8 := [hexD.getD (b.toNat / 16) 0, hexD.getD (b.toNat % 16) 0]
def hexL (l : List UInt8) : List UInt8 := l.flatMap hexB
def hexT (l : List UInt8) : List UInt8 := 48 :: 120 :: hexL l
theorem hexL_len (l : List UInt8) : (hexL l).length = 2 * l.length := by
  induction l with
  | nil => rfl
  | cons b t ih => rw [hexL, List.flatMap_cons, List.length_append]; change 2 + (hexL t).length = _; rw [ih, List.length_cons]; omega
theorem hexT_len (l : List UInt8) : (hexT l).length = 2 * l.length + 2 := by rw [hexT, List.length_cons, List.length_cons, hexL_len]
theorem hexL_take {l : List UInt8} {k : Nat} (h : k < l.length) : hexL (l.take (k + 1)) = hexL (l.take k) ++ hexB (l.getD k 0) := by
  have e : l.take (k + 1) = l.take k ++ [l.getD k 0] := by
    rw [List.take_add_one, List.getD_eq_getElem?_getD, List.getElem?_eq_getElem h]; rfl
  rw [e]
  simp [hexL, List.flatMap_append]
theorem shr4 : ∀ n : Nat, n < 256 → (n : Int) / 2 ^ (min (4 : Int).toNat IntKind.u8.bits) = ((n / 16 : Nat) : Int) := by
  intro n h
  show (n : Int) / 2 ^ 4 = _
  omega
theorem and15 : ∀ n : Nat, n < 256 → bits .and .u8 (n : Int) 15 = ((n % 16 : Nat) : Int) := by decide +kernel
theorem hexD_len : hexD.length = 16 := rfl
section
variable {N : Heaplet} {ao : Option Addr} {n cap : Nat} {l : List UInt8}
set_option maxRecDepth 100000 in
theorem FText_f (h : RSl N 1 ao n cap (u8s l)) (hn : n ≤ 1099511627776) : Fn Tryz.prog 5 #[.slice ao n cap] [] [N] (fun v L => v = str (hexT l) ∧ L = []) := by
  have hlen := h.len8
  refine Fn.enter (vs := [.slice ao n cap]) Tryz.func5 rfl rfl rfl ?_
  intro E R hR
  have h := h.le (hR N (by simp))
  change At _ _ E [R] _
  refine At.seq fun K1 hk_1 => ?_
  refine At.region ?_
  refine op_assign (nxlf rfl) rfl rfl ?_
  refine At.opsNil ?_
  refine At.norm (hk_1 ?_)
  refine At.seq fun K2 hk_2 => ?_
  refine At.region ?_
  refine op_alloc (nxla rfl) ze36 rfl (fun N3 b3 B3 => ?_)
  change Blk N3 b3 _ [.pointer none, .slice none 0 0] at B3
  refine At.opsNil ?_
  refine At.norm (hk_2 ?_)
  refine At.seq fun K3 hk_3 => ?_
  refine At.region ?_
  refine At.empty ?_
  refine At.perm sel2 ?_
  refine At.perm sel1 ?_
  refine At.perm sel2 ?_
  refine op_call (nxl rfl) (.cons rfl (.cons rfl .nil)) (FWStr_f (.inl rfl) B3 (show Row nilH 5 1 none 0 0 (u8s []) from Row.nil _ _ _) [48, 120] (by decide)) (F := [R]) Tryz.func14 rfl rfl (.refl _) (by simp) rfl ?_
  rintro v6 L6 ⟨rfl, N3, M6, a6, c6, rfl, B3, r6⟩
  change At _ _ _ [N3, M6, R] _
  refine At.opsNil ?_
  refine At.norm (hk_3 ?_)
  refine At.seq fun K4 hk_4 => ?_
  refine At.seq fun K5 hk_5 => ?_
  refine At.region ?_
  refine op_move (nxlf rfl) rfl rfl ?_
  refine op_lenS (nxlf rfl) se22 rfl rfl ?_
  refine op_move (nxlf rfl) rfl rfl ?_
  refine At.opsNil ?_
  refine At.norm (hk_5 ?_)
  refine At.block ?_
  refine At.loop (fun fr_ hp_ ms_ => ∃ (k m : Nat) (a : Option Addr) (c : Nat) (Na N3 : Heaplet), fr_ = [(3, .pointer (some ⟨b3, 0, none⟩)), (7, .slice ao n cap), (8, .int .i64 (n : Int)), (9, .int .i64 (k : Int))] ∧ hp_ = [N3, Na, R] ∧ n - k = ms_ ∧ (k ≤ n) ∧ (m = 2 * k + 2) ∧ (Blk N3 b3 36 [.pointer (some ⟨b3, 0, none⟩), .slice a m c]) ∧ (Row Na 5 1 a m c (u8s (hexT (l.take k))))) ?_ (.refl _) ⟨0, _, a6, c6, M6, N3, rfl, rfl, rfl, Nat.zero_le _, rfl, B3, r6⟩ ?_
  · exact .cons (by first | exact lkI rfl (by omega) | rfl) (.cons (by first | exact lkI rfl (by omega) | rfl) (.cons (by first | exact lkI rfl (by omega) | rfl) (.cons (by first | exact lkI rfl (by omega) | rfl) .nil)))
  rintro _ _ _ ⟨k, m, a, c, Na, N3, rfl, rfl, rfl, hk, hm, B3, ra⟩
  refine At.seq fun K6 hk_6 => ?_
  refine At.region ?_
  refine op_lss (nxlf rfl) rfl rfl rfl ?_
  refine At.opsNil ?_
  refine At.norm (hk_6 ?_)
  refine At.seq fun K7 hk_7 => ?_
  refine At.condP rfl (fun c10 => ?_) (fun c10 => ?_)
  · refine At.skip ?_
    refine At.norm (hk_7 ?_)
    refine At.seq fun K8 hk_8 => ?_
    refine At.block ?_
    refine At.seq fun K9 hk_9 => ?_
    refine At.region ?_
    refine op_idx1 (nxlf rfl) se22 rfl rfl h (show _ = (((k : Nat)) : Int) from by omega) (by omega) rfl ?_
    refine op_loadE (nxlf rfl) sc5 rfl h (by first | exact get8 (by omega) | exact get64 (by omega) | exact get32 (by omega)) (by first | exact mem0 | exact mem1 | exact mem2 | exact mem3 | exact mem4 | exact mem5 | exact mem6 | exact mem7 | exact mem8 | exact mem9) rfl ?_
    have hx := (l.getD k 0).toNat_lt
    refine op_assign (nxlf rfl) rfl rfl ?_
    refine At.opsNil ?_
    refine At.norm (hk_9 ?_)
    refine At.seq fun K10 hk_10 => ?_
    refine At.region ?_
    refine op_move (nxlf rfl) rfl rfl ?_
    refine op_shrW (nxlf rfl) rfl rfl (by omega) (by omega) rfl ?_
    rw [shr4 _ hx]
    refine op_idxS (bs := hexD) (nxlf rfl) Tryz.underlying9 rfl rfl (show _ = ((((l.getD k 0).toNat / 16 : Nat)) : Int) from by omega) (by rw [hexD_len]; omega) rfl ?_
    refine op_call (nxl rfl) (.cons rfl (.cons rfl .nil)) (FWByte_f (.inr rfl) B3 ra (by omega) (hexD.getD ((l.getD k 0).toNat / 16) 0)) (F := [R]) Tryz.func15 rfl rfl (.refl _) (by simp) rfl ?_
    rintro v16 L16 ⟨rfl, N3, N16, a16, c16, rfl, B3, r16⟩
    change At _ _ _ [N3, N16, R] _
    refine At.opsNil ?_
    refine At.norm (hk_10 ?_)
    refine At.region ?_
    refine op_move (nxlf rfl) rfl rfl ?_
    refine op_bits (by simp) (nxlf rfl) rfl rfl rfl ?_
    rw [and15 _ hx]
    refine op_idxS (bs := hexD) (nxlf rfl) Tryz.underlying9 rfl rfl (show _ = ((((l.getD k 0).toNat % 16 : Nat)) : Int) from by omega) (by rw [hexD_len]; omega) rfl ?_
    refine op_call (nxl rfl) (.cons rfl (.cons rfl .nil)) (FWByte_f (.inr rfl) B3 r16 (by omega) (hexD.getD ((l.getD k 0).toNat % 16) 0)) (F := [R]) Tryz.func15 rfl rfl (.refl _) (by simp) rfl ?_
    rintro v20 L20 ⟨rfl, N3, N20, a20, c20, rfl, B3, r20⟩
    change At _ _ _ [N3, N20, R] _
    refine At.opsNil ?_
    refine At.inNorm ?_
    refine At.norm (hk_8 ?_)
    refine At.region ?_
    refine op_addI (nxlf rfl) rfl rfl (by omega) (by omega) rfl ?_
    refine op_move (nxlf rfl) rfl rfl ?_
    refine At.opsNil ?_
    refine At.norm ?_
    refine At.back ?_ (.refl _) ⟨k + 1, m + 1 + 1, a20, c20, N20, N3, rfl, rfl, rfl, by omega, by omega, B3, by rw [hexT, hexL_take (by omega)]; have e := r20; simp only [hexT, List.cons_append, List.append_assoc] at e; exact e⟩ ?_
    · exact .cons (by first | exact lkI rfl (by omega) | rfl) (.cons (by first | exact lkI rfl (by omega) | rfl) (.cons (by first | exact lkI rfl (by omega) | rfl) (.cons (by first | exact lkI rfl (by omega) | rfl) .nil)))
    · omega
  · refine At.exit (At.thenExit (At.thenExit (At.inHit ?_)))
    refine At.norm (hk_4 ?_)
    refine At.seq fun K11 hk_11 => ?_
    refine At.region ?_
    refine op_call (nxl rfl) (.cons rfl .nil) (FString_f B3 ra (by omega)) (F := [R]) Tryz.func16 rfl rfl (.refl _) (by simp) rfl ?_
    rintro v22 L22 ⟨rfl, rfl⟩
    change At _ _ _ [R] _
    refine op_assign (nxlf rfl) rfl rfl ?_
    refine At.opsNil ?_
    refine At.norm (hk_11 ?_)
    refine At.ret (?_)
    refine At.ret1 (L1 := []) rfl (.tmp rfl .nil) (.refl _) (.refl _) ?_
    exact ⟨by rw [List.take_of_length_le (by omega)], rfl⟩
set_option maxRecDepth 100000 in
theorem rHexes_f (h : RSl N 1 ao n cap (u8s l)) (hn : n ≤ 1099511627776) : Fn Tryz.prog 17 #[.slice ao n cap] [] [N] (fun v L => v = str (hexL l) ∧ L = []) := by
  have hlen := h.len8
  refine Fn.enter (vs := [.slice ao n cap]) Tryz.func17 rfl rfl rfl ?_
  intro E R hR
  have h := h.le (hR N (by simp))
  change At _ _ E [R] _
  refine At.seq fun K1 hk_1 => ?_
  refine At.region ?_
  refine op_assign (nxlf rfl) rfl rfl ?_
  refine At.opsNil ?_
  refine At.norm (hk_1 ?_)
  refine At.seq fun K2 hk_2 => ?_
  refine At.region ?_
  refine op_assign (nxlf rfl) rfl rfl ?_
  refine At.opsNil ?_
  refine At.norm (hk_2 ?_)
  refine At.seq fun K3 hk_3 => ?_
  refine At.seq fun K4 hk_4 => ?_
  refine At.region ?_
  refine op_assign (nxlf rfl) rfl rfl ?_
  refine At.opsNil ?_
  refine At.norm (hk_4 ?_)
  refine At.block ?_
  refine At.empty ?_
  refine At.loop (fun fr_ hp_ ms_ => ∃ (k m : Nat) (a : Option Addr) (c : Nat) (Na : Heaplet), fr_ = [(0, .slice ao n cap), (3, .slice a m c), (4, .int .i64 (k : Int))] ∧ hp_ = [Na, R] ∧ n - k = ms_ ∧ (k ≤ n) ∧ (m = 2 * k) ∧ (Row Na 5 1 a m c (u8s (hexL (l.take k))))) ?_ (.refl _) ⟨0, 0, none, 0, nilH, rfl, rfl, rfl, Nat.zero_le _, rfl, Row.nil _ _ _⟩ ?_
  · exact .cons (by first | exact lkI rfl (by omega) | rfl) (.cons (by first | exact lkI rfl (by omega) | rfl) (.cons (by first | exact lkI rfl (by omega) | rfl) .nil))
  rintro _ _ _ ⟨k, m, a, c, Na, rfl, rfl, rfl, hk, hm, ra⟩
  refine At.seq fun K5 hk_5 => ?_
  refine At.seq fun K6 hk_6 => ?_
  refine At.region ?_
  refine op_move (nxlf rfl) rfl rfl ?_
  refine op_move (nxlf rfl) rfl rfl ?_
  refine op_lenS (nxlf rfl) se22 rfl rfl ?_
  refine op_lss (nxlf rfl) rfl rfl rfl ?_
  refine At.opsNil ?_
  refine At.norm (hk_6 ?_)
  refine At.condP rfl (fun c8 => ?_) (fun c8 => ?_)
  · have hx := (l.getD k 0).toNat_lt
    refine At.skip ?_
    refine At.norm (hk_5 ?_)
    refine At.seq fun K7 hk_7 => ?_
    refine At.block ?_
    refine At.drawn [14] [0,1,2,3,4,5,6,7,8,9,10,11,12,13,14,15] (by kernel_rfl) (by kernel_rfl) ?_
    refine op_move (nxof rfl rfl rfl (by kernel_rfl)) rfl rfl ?_
    refine op_move (nxof rfl rfl rfl (by kernel_rfl)) rfl rfl ?_
    refine op_move (nxof rfl rfl rfl (by kernel_rfl)) rfl rfl ?_
    refine op_idx1 (nxof rfl rfl rfl (by kernel_rfl)) se22 rfl rfl h (show _ = (((k : Nat)) : Int) from by omega) (by omega) rfl ?_
    refine op_loadE (nxof rfl rfl rfl (by kernel_rfl)) sc5 rfl h (by first | exact get8 (by omega) | exact get64 (by omega) | exact get32 (by omega)) (by first | exact mem0 | exact mem1 | exact mem2 | exact mem3 | exact mem4 | exact mem5 | exact mem6 | exact mem7 | exact mem8 | exact mem9) rfl ?_
    refine op_quo8 (nxof rfl rfl rfl (by kernel_rfl)) rfl rfl (by omega) (by omega) (by omega) rfl ?_
    rw [show ((l.getD k 0).toNat : Int) / 16 = (((l.getD k 0).toNat / 16 : Nat) : Int) by omega]
    refine op_idxS (bs := hexD) (nxof rfl rfl rfl (by kernel_rfl)) Tryz.underlying9 rfl rfl (show _ = ((((l.getD k 0).toNat / 16 : Nat)) : Int) from by omega) (by rw [hexD_len]; omega) rfl ?_
    refine op_move (nxof rfl rfl rfl (by kernel_rfl)) rfl rfl ?_
    refine op_move (nxof rfl rfl rfl (by kernel_rfl)) rfl rfl ?_
    refine op_idx1 (nxof rfl rfl rfl (by kernel_rfl)) se22 rfl rfl h (show _ = (((k : Nat)) : Int) from by omega) (by omega) rfl ?_
    refine op_loadE (nxof rfl rfl rfl (by kernel_rfl)) sc5 rfl h (by first | exact get8 (by omega) | exact get64 (by omega) | exact get32 (by omega)) (by first | exact mem0 | exact mem1 | exact mem2 | exact mem3 | exact mem4 | exact mem5 | exact mem6 | exact mem7 | exact mem8 | exact mem9) rfl ?_
    refine op_rem (nxof rfl rfl rfl (by kernel_rfl)) rfl rfl (by omega) (by omega) rfl ?_
    refine op_idxS (bs := hexD) (nxof rfl rfl rfl (by kernel_rfl)) Tryz.underlying9 rfl rfl (show _ = ((((l.getD k 0).toNat % 16 : Nat)) : Int) from by omega) (by rw [hexD_len]; omega) rfl ?_
    refine op_lit (nxoa rfl rfl rfl) Tryz.underlying22 ze5 sz5 (.cons rfl (.cons rfl .nil)) rfl rfl (by simp [Value.cells]) rfl rfl rfl (fun N24 a24 r24 => ?_)
    simp only [flatV, List.flatMap_cons, List.flatMap_nil, Value.cells, List.append_nil, List.cons_append, List.nil_append] at r24
    have s24 := r24.rsl
    change Row N24 _ 1 a24 2 2 (u8s (hexB (l.getD k 0))) at r24
    have s24 := r24.rsl
    refine op_append (nxos rfl rfl rfl rfl) Tryz.underlying22 Tryz.underlying22 te5 rfl rfl ra s24 (by first | exact mem0 | exact mem1 | exact mem2 | exact mem3 | exact mem4 | exact mem5 | exact mem6 | exact mem7 | exact mem8 | exact mem9) (by first | exact one_u8s _ | exact one_u64s _ | exact one_u32s _ | (intro u hu; simp at hu; subst hu; rfl)) (by omega) (by omega) sel1 rfl (fun N25 a25 p25 r25 => ?_)
    have s25 := r25.rsl
    refine op_assign (nxof rfl rfl rfl (by kernel_rfl)) rfl rfl ?_
    refine At.oneNil ?_
    refine At.inNorm ?_
    refine At.norm (hk_7 ?_)
    refine At.region ?_
    refine op_move (nxlf rfl) rfl rfl ?_
    refine op_addI (nxlf rfl) rfl rfl (by omega) (by omega) rfl ?_
    refine op_assign (nxlf rfl) rfl rfl ?_
    refine At.opsNil ?_
    refine At.norm ?_
    refine At.sub (L' := [N25, R]) (.cons_cons _ (.cons _ (.cons_cons _ (.slnil)))) ?_
    refine At.back ?_ (.refl _) ⟨k + 1, m + 2, a25, p25, N25, rfl, rfl, rfl, by omega, by omega, by rw [hexL_take (by omega), show u8s (hexL (l.take k) ++ hexB (l.getD k 0)) = u8s (hexL (l.take k)) ++ u8s (hexB (l.getD k 0)) by simp [u8s]]; exact r25⟩ ?_
    · exact .cons (by first | exact lkI rfl (by omega) | rfl) (.cons (by first | exact lkI rfl (by omega) | rfl) (.cons (by first | exact lkI rfl (by omega) | rfl) .nil))
    · omega
  · refine At.exit (At.thenExit (At.thenExit (At.inHit ?_)))
    refine At.norm (hk_3 ?_)
    refine At.seq fun K8 hk_8 => ?_
    refine At.region ?_
    refine op_move (nxlf rfl) rfl rfl ?_
    have sa := ra.rsl
    refine op_str (nxlf rfl) Tryz.underlying22 Tryz.underlying5 Tryz.underlying9 rfl (by assumption) (by first | exact mem0 | exact mem1 | exact mem2 | exact mem3 | exact mem4 | exact mem5 | exact mem6 | exact mem7 | exact mem8 | exact mem9) rfl ?_
    refine op_assign (nxlf rfl) rfl rfl ?_
    refine At.opsNil ?_
    refine At.norm (hk_8 ?_)
    refine At.ret (?_)
    refine At.sub (L' := [R]) (.cons _ (.cons_cons _ (.slnil))) ?_
    refine At.ret1 (L1 := []) rfl (.tmp rfl .nil) (.refl _) (.refl _) ?_
    exact ⟨by rw [List.take_of_length_le (by omega)], rfl⟩
theorem rText_f (h : RSl N 1 ao n cap (u8s l)) (hn : n ≤ 1099511627776) : Fn Tryz.prog 6 #[.slice ao n cap] [] [N] (fun v L => v = str (hexT l) ∧ L = []) := by
  have hlen := h.len8
  have hl2 := hexL_len l
  refine Fn.enter (vs := [.slice ao n cap]) Tryz.func6 rfl rfl rfl ?_
  intro E R hR
  have h := h.le (hR N (by simp))
  change At _ _ E [R] _
  refine At.seq fun K1 hk_1 => ?_
  refine At.region ?_
  refine op_assign (nxlf rfl) rfl rfl ?_
  refine At.opsNil ?_
  refine At.norm (hk_1 ?_)
  refine At.seq fun K2 hk_2 => ?_
  refine At.region ?_
  refine op_move (nxlf rfl) rfl rfl ?_
  refine op_callA (nxla rfl) (.cons rfl .nil) (rHexes_f h hn) Tryz.func17 rfl rfl (by simp) rfl ?_
  rintro v4 L4 ⟨rfl, rfl⟩
  change At _ _ _ [R] _
  refine op_addS (a := [48, 120]) (nxlf rfl) rfl rfl (by simp; omega) rfl ?_
  refine op_assign (nxlf rfl) rfl rfl ?_
  refine At.opsNil ?_
  refine At.norm (hk_2 ?_)
  refine At.ret (?_)
  refine At.ret1 (L1 := []) rfl (.tmp rfl .nil) (.refl _) (.refl _) ?_
  exact ⟨rfl, rfl⟩
end
end Go.Proofs.YtnpcaplgkmlmoaaGreatDoor
/- Contracts of Go's library at this program, in plain words (written by the kit's tool lay-plain). No condition. -/
namespace Go.Proofs
set_option linter.unusedVariables false
set_option linter.unusedSimpArgs false
open Go.Shelf
def Tryz.lays137_ren : Go.Shelf.Ren := ⟨fun | 137 => 87 | 217 => 96 | 266 => 101 | n => n, fun | 9 => 9 | 5 => 5 | 3 => 3 | n => n, fun | n => n⟩
theorem Tryz.lays137 : Go.Proofs.Lays.n137 Tryz.prog Tryz.lays137_ren := {
  mixed := by kernel_rfl
  f137 := Tryz.func87.trans (congrArg some (by kernel_rfl))
  f217 := Tryz.func96.trans (congrArg some (by kernel_rfl))
  f266 := Tryz.func101.trans (congrArg some (by kernel_rfl))
  t3 := Tryz.underlying3
  a3 := Tryz.isAgg3
  z3 := Tryz.sizeOf3
  v3 := Tryz.zeroValue3
  t5 := Tryz.underlying5
  a5 := Tryz.isAgg5
  z5 := Tryz.sizeOf5
  v5 := Tryz.zeroValue5
  t9 := Tryz.underlying9
  a9 := Tryz.isAgg9
  z9 := Tryz.sizeOf9
  v9 := Tryz.zeroValue9 }
open Go.RowKit in
theorem Tryz.strings_IndexByte (s : ByteArray) (c : Int) (w : World) :
    Calls Tryz.prog 87 #[.string s, .int .u8 c] w fun e w' => e = .returned (.int .i64 (Lib.indexByte s.data.toList c.toNat.toUInt8)) ∧ w' = w := Any.strings_IndexByte Tryz.lays137 s c w
def Tryz.lays203_ren : Go.Shelf.Ren := ⟨fun | 203 => 30 | 262 => 55 | 313 => 72 | 274 => 84 | 275 => 85 | n => n, fun | 21 => 21 | 4 => 4 | 3 => 3 | 162 => 117 | 203 => 115 | 160 => 128 | 46 => 42 | 0 => 0 | 208 => 145 | 51 => 56 | 206 => 143 | n => n, fun | 13 => 0 | n => n⟩
theorem Tryz.lays203 : Go.Proofs.Lays.n203 Tryz.prog Tryz.lays203_ren := {
  mixed := by kernel_rfl
  f203 := Tryz.func30.trans (congrArg some (by kernel_rfl))
  f262 := Tryz.func55.trans (congrArg some (by kernel_rfl))
  f274 := Tryz.func84.trans (congrArg some (by kernel_rfl))
  f275 := Tryz.func85.trans (congrArg some (by kernel_rfl))
  f313 := Tryz.func72.trans (congrArg some (by kernel_rfl))
  t0 := Tryz.underlying0
  a0 := Tryz.isAgg0
  z0 := Tryz.sizeOf0
  v0 := Tryz.zeroValue0
  t3 := Tryz.underlying3
  a3 := Tryz.isAgg3
  z3 := Tryz.sizeOf3
  v3 := Tryz.zeroValue3
  t4 := Tryz.underlying4
  a4 := Tryz.isAgg4
  z4 := Tryz.sizeOf4
  v4 := Tryz.zeroValue4
  t21 := Tryz.underlying21
  a21 := Tryz.isAgg21
  z21 := Tryz.sizeOf21
  v21 := Tryz.zeroValue21
  t46 := Tryz.underlying42
  a46 := Tryz.isAgg42
  z46 := Tryz.sizeOf42
  v46 := Tryz.zeroValue42
  t51 := Tryz.underlying56
  a51 := Tryz.isAgg56
  z51 := Tryz.sizeOf56
  v51 := Tryz.zeroValue56
  t160 := Tryz.underlying128
  a160 := Tryz.isAgg128
  z160 := Tryz.sizeOf128
  v160 := Tryz.zeroValue128
  t162 := Tryz.underlying117
  a162 := Tryz.isAgg117
  z162 := Tryz.sizeOf117
  v162 := Tryz.zeroValue117
  t203 := Tryz.underlying115
  a203 := Tryz.isAgg115
  z203 := Tryz.sizeOf115
  v203 := Tryz.zeroValue115
  t206 := Tryz.underlying143
  a206 := Tryz.isAgg143
  z206 := Tryz.sizeOf143
  v206 := Tryz.zeroValue143
  t208 := Tryz.underlying145
  a208 := Tryz.isAgg145
  z208 := Tryz.sizeOf145
  v208 := Tryz.zeroValue145
  g13 := by kernel_rfl }
open Go.RowKit Go.Lib in
theorem Tryz.unicode_ToUpper (r : Int) (w : World) (h : r ≤ 127) :
    Calls Tryz.prog 30 #[.int .i32 r] w fun e w' => e = .returned (.int .i32 (Lib.toUpperR r)) ∧ w' = w := Any.unicode_ToUpper Tryz.lays203 r w h
def Tryz.lays204_ren : Go.Shelf.Ren := ⟨fun | 204 => 86 | 262 => 55 | 313 => 72 | 274 => 84 | 275 => 85 | n => n, fun | 21 => 21 | 4 => 4 | 3 => 3 | 162 => 117 | 203 => 115 | 160 => 128 | 46 => 42 | 0 => 0 | 208 => 145 | 51 => 56 | 206 => 143 | n => n, fun | 13 => 0 | n => n⟩
theorem Tryz.lays204 : Go.Proofs.Lays.n204 Tryz.prog Tryz.lays204_ren := {
  mixed := by kernel_rfl
  f204 := Tryz.func86.trans (congrArg some (by kernel_rfl))
  f262 := Tryz.func55.trans (congrArg some (by kernel_rfl))
  f274 := Tryz.func84.trans (congrArg some (by kernel_rfl))
  f275 := Tryz.func85.trans (congrArg some (by kernel_rfl))
  f313 := Tryz.func72.trans (congrArg some (by kernel_rfl))
  t0 := Tryz.underlying0
  a0 := Tryz.isAgg0
  z0 := Tryz.sizeOf0
  v0 := Tryz.zeroValue0
  t3 := Tryz.underlying3
  a3 := Tryz.isAgg3
  z3 := Tryz.sizeOf3
  v3 := Tryz.zeroValue3
  t4 := Tryz.underlying4
  a4 := Tryz.isAgg4
  z4 := Tryz.sizeOf4
  v4 := Tryz.zeroValue4
  t21 := Tryz.underlying21
  a21 := Tryz.isAgg21
  z21 := Tryz.sizeOf21
  v21 := Tryz.zeroValue21
  t46 := Tryz.underlying42
  a46 := Tryz.isAgg42
  z46 := Tryz.sizeOf42
  v46 := Tryz.zeroValue42
  t51 := Tryz.underlying56
  a51 := Tryz.isAgg56
  z51 := Tryz.sizeOf56
  v51 := Tryz.zeroValue56
  t160 := Tryz.underlying128
  a160 := Tryz.isAgg128
  z160 := Tryz.sizeOf128
  v160 := Tryz.zeroValue128
  t162 := Tryz.underlying117
  a162 := Tryz.isAgg117
  z162 := Tryz.sizeOf117
  v162 := Tryz.zeroValue117
  t203 := Tryz.underlying115
  a203 := Tryz.isAgg115
  z203 := Tryz.sizeOf115
  v203 := Tryz.zeroValue115
  t206 := Tryz.underlying143
  a206 := Tryz.isAgg143
  z206 := Tryz.sizeOf143
  v206 := Tryz.zeroValue143
  t208 := Tryz.underlying145
  a208 := Tryz.isAgg145
  z208 := Tryz.sizeOf145
  v208 := Tryz.zeroValue145
  g13 := by kernel_rfl }
open Go.RowKit Go.Lib in
theorem Tryz.unicode_ToLower (r : Int) (w : World) (h : r ≤ 127) :
    Calls Tryz.prog 86 #[.int .i32 r] w fun e w' => e = .returned (.int .i32 (Lib.toLowerR r)) ∧ w' = w := Any.unicode_ToLower Tryz.lays204 r w h
def Tryz.lays152_ren : Go.Shelf.Ren := ⟨fun | 152 => 78 | 137 => 87 | 119 => 88 | 224 => 89 | 225 => 90 | 217 => 96 | 266 => 101 | n => n, fun | 9 => 9 | 21 => 21 | 3 => 3 | 4 => 4 | 5 => 5 | 0 => 0 | 46 => 42 | n => n, fun | n => n⟩
theorem Tryz.lays152 : Go.Proofs.Lays.n152 Tryz.prog Tryz.lays152_ren := {
  mixed := by kernel_rfl
  f119 := Tryz.func88.trans (congrArg some (by kernel_rfl))
  f137 := Tryz.func87.trans (congrArg some (by kernel_rfl))
  f152 := Tryz.func78.trans (congrArg some (by kernel_rfl))
  f217 := Tryz.func96.trans (congrArg some (by kernel_rfl))
  f224 := Tryz.func89.trans (congrArg some (by kernel_rfl))
  f225 := Tryz.func90.trans (congrArg some (by kernel_rfl))
  f266 := Tryz.func101.trans (congrArg some (by kernel_rfl))
  t0 := Tryz.underlying0
  a0 := Tryz.isAgg0
  z0 := Tryz.sizeOf0
  v0 := Tryz.zeroValue0
  t3 := Tryz.underlying3
  a3 := Tryz.isAgg3
  z3 := Tryz.sizeOf3
  v3 := Tryz.zeroValue3
  t4 := Tryz.underlying4
  a4 := Tryz.isAgg4
  z4 := Tryz.sizeOf4
  v4 := Tryz.zeroValue4
  t5 := Tryz.underlying5
  a5 := Tryz.isAgg5
  z5 := Tryz.sizeOf5
  v5 := Tryz.zeroValue5
  t9 := Tryz.underlying9
  a9 := Tryz.isAgg9
  z9 := Tryz.sizeOf9
  v9 := Tryz.zeroValue9
  t21 := Tryz.underlying21
  a21 := Tryz.isAgg21
  z21 := Tryz.sizeOf21
  v21 := Tryz.zeroValue21
  t46 := Tryz.underlying42
  a46 := Tryz.isAgg42
  z46 := Tryz.sizeOf42
  v46 := Tryz.zeroValue42 }
open Go.RowKit Go.Lib in
theorem Tryz.strings_IndexRune_ascii (s : ByteArray) (r : Int) (w : World) (h0 : 0 ≤ r) (h1 : r < 128) :
    Calls Tryz.prog 78 #[.string s, .int .i32 r] w fun e w' => e = .returned (.int .i64 (Lib.indexByte s.data.toList r.toNat.toUInt8)) ∧ w' = w := Any.strings_IndexRune_ascii Tryz.lays152 s r w h0 h1
end Go.Proofs
