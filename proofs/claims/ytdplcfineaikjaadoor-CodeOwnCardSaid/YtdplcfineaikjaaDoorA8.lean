/- The engine: many rows in one part of the memory, told apart by their blocks; stores and appends that leave the others as they are. For whatever program. No condition. -/
import Derived.Test.YtdplcfineaikjaaDoorA6
import Derived.Test.YtdplcfineaikjaaDoorG10
import Derived.Laws.OwnMore
namespace Go.Proofs.YtdplcfineaikjaaDoor
set_option linter.unusedVariables false
set_option linter.unusedSimpArgs false
open Go Go.RowKit
/-- N' is N but for this block. -/
def Off (ao : Option Addr) (N N' : Heaplet) : Prop := ∃ b, ao = some ⟨b, 0, none⟩ ∧ ∀ k, k ≠ b → N' k = N k
/-- What an append leaves of the memory: in its own block, or in a new one. -/
def App (N N' : Heaplet) (ao : Option Addr) (cap : Nat) (ao2 : Option Addr) (cap2 need : Nat) : Prop :=
  (ao2 = ao ∧ cap2 = cap ∧ need ≤ cap ∧ Off ao N N') ∨ (N.le N' ∧ ∃ b, ao2 = some ⟨b, 0, none⟩ ∧ N b = none)
theorem Row.le {N M : Heaplet} (hl : N.le M) {e : TypeId} {size : Nat} {ao : Option Addr} {n cap : Nat} {xs : List Value} (h : Row N e size ao n cap xs) : Row M e size ao n cap xs := by
  obtain ⟨h1, h2, h3, h4⟩ := h
  refine ⟨h1, h2, h3, ?_⟩
  rcases h4 with h4 | ⟨b, cur, ha, hN, hs, ht⟩
  · exact .inl h4
  · exact .inr ⟨b, cur, ha, hl _ _ hN, hs, ht⟩
/-- The block of a row. -/
theorem Row.block {N : Heaplet} {e : TypeId} {size : Nat} {ao : Option Addr} {n cap : Nat} {xs : List Value} (h : Row N e size ao n cap xs) : (ao = none ∧ n = 0 ∧ cap = 0) ∨ ∃ b o, ao = some ⟨b, 0, none⟩ ∧ N b = some o := by
  obtain ⟨_, _, _, h4⟩ := h
  rcases h4 with h4 | ⟨b, cur, ha, hN, _⟩
  · exact .inl h4
  · exact .inr ⟨b, _, ha, hN⟩
/-- A row is read off its block alone. -/
theorem Row.off {N N' : Heaplet} {e : TypeId} {size : Nat} {ao p : Option Addr} {n cap : Nat} {xs : List Value} (h : Row N e size ao n cap xs) (ho : Off p N N') (hne : ao = none ∨ ao ≠ p) : Row N' e size ao n cap xs := by
  obtain ⟨b, rfl, hk⟩ := ho
  obtain ⟨h1, h2, h3, h4⟩ := h
  refine ⟨h1, h2, h3, ?_⟩
  rcases h4 with h4 | ⟨b', cur, ha, hN, hs, ht⟩
  · exact .inl h4
  · refine .inr ⟨b', cur, ha, ?_, hs, ht⟩
    rw [hk b' fun e => ?_]
    · exact hN
    · subst e
      rcases hne with h | h
      · rw [h] at ha; cases ha
      · exact h ha
/-- The first part of a row. -/
theorem Row.first {N : Heaplet} {e : TypeId} {size : Nat} {ao : Option Addr} {n m cap : Nat} {xs ys : List Value} (h : Row N e size ao n cap xs) (hm : m ≤ n) (hy : xs.take (m * size) = ys) (ha : ao ≠ none) : Row N e size ao m cap ys := by
  obtain ⟨h1, h2, h3, h4⟩ := h
  rcases h4 with ⟨h4, _⟩ | ⟨b', cur, hb, hN, hs, ht⟩
  · exact absurd h4 ha
  · have hle : m * size ≤ n * size := Nat.mul_le_mul_right _ hm
    refine ⟨by rw [← hy, List.length_take, h1]; exact Nat.min_eq_left hle, Nat.le_trans hm h2, h3, .inr ⟨b', cur, hb, hN, hs, ?_⟩⟩
    rw [← hy, ← ht, List.take_take, Nat.min_eq_left hle]
section
variable {P : Program} {n : Nat} {l : List (Nat × Value)} {E : World} {L L1 Ls : List Heaplet} {X Y : Act → World → Prop} {d : Nat} {t t' ty e : TypeId} {x y : Operand}
theorem op_storeU {vs : List Value} {kk : Nat} {N : Heaplet} {v : Value} {ao : Option Addr} {j size len cap : Nat} {xs : List Value} {pos : _} {aft : _} {g : _} (s : Nx P n l E L ⟨none, .store t x y, ty, pos, aft, g⟩ X Y) (ht0 : siz P t = some kk) (hx : ev l x = some (eptr ao j)) (hy : ev l y = some v) (hv : v.cells = vs.toArray) (hk : vs.length = kk) (h1 : vs.all (·.oneCell') = true) (hb : Row N e size ao len cap xs) (hlen : j + vs.length ≤ xs.length) (h0 : 0 < vs.length) (hs : L.Perm (N :: L1))
    (h : ∀ N', Row N' e size ao len cap (setL xs j vs) → Off ao N N' → At n l E (N' :: L1) Y) : At n l E L X := fun a w hf hw => by
  have ht : siz P t = some vs.length := by rw [ht0, hk]
  have hw2 := hw.perm hs
  obtain ⟨a1, a2, a3, a4⟩ := hb
  have hn0 : 0 < len := by
    rcases Nat.eq_zero_or_pos len with h | h
    · rw [h, Nat.zero_mul] at a1; omega
    · exact h
  rcases a4 with ⟨_, hz, _⟩ | ⟨b, cur, rfl, hN, hcs, ht'⟩
  · omega
  have hN' : N b = some (.cells cur.toList.toArray e (0, 0)) := by simpa using hN
  have hheap := hw2.sub N (List.mem_cons_self ..) _ _ hN'
  have hxl : xs.length ≤ cur.toList.length := by rw [a1, Array.length_toList, hcs]; exact Nat.mul_le_mul_right _ a2
  obtain ⟨w', hr, e1, e2, e3, e4, e5⟩ := run_storeCells (P := P) vs w b j 0 cur.toList e hheap (fun u hu => List.all_eq_true.1 h1 u hu) (by omega)
  obtain ⟨i, hi, hsz⟩ := Option.map_eq_some_iff.1 ht
  refine s a w hf hw ?_
  unfold Oper.wp
  have hrun : (execOp a.eval ⟨none, .store t x y, ty, pos, aft, g⟩).run P w = .ok .skip w' := by
    simp only [execOp, hf.eval hx, hf.eval hy, eptr, Option.map_some, Nat.zero_add, Instr.storeAt, Instr.sureAddr, Sem.run_bind, Sem.run_pure, Result.andThen_ok, storeVar, run_sizeOf hi, hsz, hv]
    simp only [List.size_toArray, ne_eq, not_true, if_false]
    rw [hr]
    rfl
  rw [hrun]
  refine h (upd N b (.cells (setL cur.toList j vs).toArray e (0, 0))) ⟨by rw [length_setL, a1], a2, a3, .inr ⟨b, _, rfl, upd_self _ _ _, by simp [length_setL, hcs], ?_⟩⟩ ⟨b, rfl, fun k hk => by simp [upd, hk]⟩ a w' hf (hw2.put hN' e1 e2 e3 (by simpa using e4) fun k hk _ => e5 k hk)
  rw [List.toList_toArray, setL_take _ _ _ _ (by omega), ht']
theorem op_appendU {zv : Value} {bytes m cap' size len cap : Nat} {ao ao' : Option Addr} {xs ys : List Value} {N M : Heaplet} {t2 e2 : TypeId} {pos : _} {aft : _} {g : _} (s : Nx P n l E L ⟨some d, .call ⟨.builtin .append, #[x, y], #[t, t2]⟩, ty, pos, aft, g⟩ X Y) (ht : P.underlying t = some (.slice e)) (ht2 : P.underlying t2 = some (.slice e2)) (hE : ElemInfo P e zv size bytes)
    (hx : ev l x = some (.slice ao len cap)) (hy : ev l y = some (.slice ao' m cap')) (hr : Row N e size ao len cap xs) (hs : RSl M size ao' m cap' ys) (hM : M ∈ L) (hm : 0 < m) (h1 : ∀ u ∈ ys, u.oneCell' = true) (hb : (len + m) * bytes ≤ 140737488355328) (hl : len + m ≤ 9223372036854775807) (sel : L.Perm (N :: L1)) (hn : Nat.ble (d + 1) n = true)
    (h : ∀ N' ao2 cap2, Row N' e size ao2 (len + m) cap2 (xs ++ ys) → App N N' ao cap ao2 cap2 (len + m) → At n ((d, .slice ao2 (len + m) cap2) :: l) E (N' :: L1) Y) : At n l E L X := by
  refine op_upd s (fun v L' => ∃ N' ao2 cap2, v = .slice ao2 (len + m) cap2 ∧ L' = N' :: L1 ∧ Row N' e size ao2 (len + m) cap2 (xs ++ ys) ∧ App N N' ao cap ao2 cap2 (len + m)) (fun a w hf hw => ?_) rfl hn (fun v L' ⟨N', ao2, cap2, hv, hL, hB, hA⟩ => by subst hv; subst hL; exact h N' ao2 cap2 hB hA)
  have hw2 := hw.perm sel
  have hrest : Hp E L1 w := hw2.drop (List.sublist_cons_self ..)
  obtain ⟨i, hi, hz, hsz, hby, hzs, hpos⟩ := hE
  obtain ⟨y1, y2, y3, y4⟩ := hs.sl (hw.sub M hM)
  obtain ⟨bs, os, rfl, cs⟩ := y4 hm
  have hnews : ∀ j u, ys[j]? = some u → w.cell? ((⟨bs, os, none⟩ : Addr).add j) = some u := fun j u hu => by
    obtain ⟨hj, rfl⟩ := List.getElem?_eq_some_iff.1 hu
    rw [addr_add]; exact cs j hj
  have fin : ∀ v w', (Builtin.append_ #[t, t] ty #[.slice ao len cap, .slice (some ⟨bs, os, none⟩) m cap']).run P w = .ok v w' → (execOp a.eval ⟨some d, .call ⟨.builtin .append, #[x, y], #[t, t2]⟩, ty, pos, aft, g⟩).run P w = .ok (.value v) w' := fun v w' h4 => by
    simp only [execOp, resolve, invoke, builtin, Sem.run_bind, Sem.run_pure, Result.andThen_ok, List.map_toArray, List.map_cons, List.map_nil, hf.eval hx, hf.eval hy, run_append_src ht ht2, h4]
  have hmax : len + m ≤ maxLen := by unfold maxLen; exact hl
  rcases Nat.lt_or_ge cap (len + m) with hg | hg
  · -- a new row
    have new : ∃ cap2 w', (Builtin.append_ #[t, t] ty #[.slice ao len cap, .slice (some ⟨bs, os, none⟩) m cap']).run P w = .ok (.slice (some ⟨w.heap.size, 0, none⟩) (len + m) cap2) w' ∧
        w'.ownsRow 0 e size (.slice (some ⟨w.heap.size, 0, none⟩) (len + m) cap2) (len + m) (xs ++ ys) ∧ w.grownBy w' none := by
      rcases hr.block with ⟨rfl, rfl, rfl⟩ | ⟨b, o, rfl, _⟩
      · have hx0 : xs = [] := List.eq_nil_of_length_eq_zero (by simpa using hr.1)
        obtain ⟨ao2, cap2, w', h4, h5, h6, h7⟩ := run_append_row (P := P) (ty := ty) ht ⟨i, hi, hz, hsz, hby, hzs, hpos⟩ (hw2.sub N (List.mem_cons_self ..)) hr (hs.sl (hw.sub M hM)) h1 hb hmax
        subst hx0
        rcases h7 with h7 | h7
        · rcases owns_row h5 with ⟨rfl, hrow⟩ | ⟨b, cur, rfl, hheap, hrow⟩
          · have := (hrow nilH).block
            rcases this with ⟨_, h0, _⟩ | ⟨b, o, hb0, _⟩
            · omega
            · cases hb0
          · cases h7
        · rcases owns_row h5 with ⟨rfl, hrow⟩ | ⟨b, cur, rfl, hheap, hrow⟩
          · cases h7
          · have : b = w.heap.size := by simpa [Value.ownBlock] using h7
            subst this
            exact ⟨cap2, w', h4, h5, h6⟩
      · obtain ⟨cap2, w', h4, h5, h6⟩ := run_append_G (P := P) (ty := ty) (cap' := cap') ht ⟨i, hi, hz, hsz, hby, hzs, hpos⟩ hr.1 (b := ⟨b, 0, none⟩) (a := ⟨bs, os, none⟩) (fun j u hu => by
          obtain ⟨hj, rfl⟩ := List.getElem?_eq_some_iff.1 hu
          obtain ⟨_, _, _, r4⟩ := hr.rsl.sl (hw2.sub N (List.mem_cons_self ..))
          have h0 : 0 < len := by
            rcases Nat.eq_zero_or_pos len with h | h
            · have := hr.1; rw [h, Nat.zero_mul] at this; omega
            · exact h
          obtain ⟨b1, o1, e1, c1⟩ := r4 h0
          cases e1
          rw [addr_add]; exact c1 j hj) y1 hnews hg hmax hb
        exact ⟨cap2, w', h4, h5, h6⟩
    obtain ⟨cap2, w', h4, h5, h6⟩ := new
    obtain ⟨N', h8, h9⟩ := hp_append (L1 := N :: L1) (N := nilH) (e := e) (size := size) ⟨hw2.os, hw2.tape, hw2.output, fun K hK => by
      rcases List.mem_cons.1 hK with rfl | hK
      · intro k o hk; cases hk
      · exact hw2.sub K hK, by rw [List.pairwise_cons]; exact ⟨fun _ _ _ => .inl rfl, hw2.sep⟩⟩ (Row.nil nilH e size) h5 h6 (.inr rfl)
    have hap := (List.pairwise_cons.1 h9.sep).1 N (by simp)
    refine ⟨_, w', _, fin _ _ h4, h9.merge, join2 N' N, _, cap2, rfl, rfl, h8.le join2_left, .inr ⟨join2_right hap, w.heap.size, rfl, ?_⟩⟩
    cases hk : N w.heap.size with
    | none => rfl
    | some o => exact absurd (hw2.lt (List.mem_cons_self ..) hk) (Nat.lt_irrefl _)
  · -- in its own block
    rcases hr.block with ⟨rfl, rfl, rfl⟩ | ⟨b, o, rfl, hN⟩
    · omega
    · obtain ⟨w', h4, h5, h6⟩ := run_append_fits (P := P) w 0 t ty e i size ht hi hsz b len cap xs (hr.owns (hw2.sub N (List.mem_cons_self ..))) ⟨bs, os, none⟩ m cap' ys y1 hnews h1 hg
      rcases owns_row h5 with ⟨hno, _⟩ | ⟨b2, cur, hb2, hheap, hrow⟩
      · cases hno
      · cases hb2
        have henv := grown_env h6
        refine ⟨_, w', _, fin _ _ h4, hw2.put (o' := .cells cur e (0, 0)) hN henv.1 henv.2.1 henv.2.2 hheap (fun k hk hlt => grown_block h6 hlt (by
          intro h; exact hk (Option.some.inj h).symm)), upd N b (.cells cur e (0, 0)), _, cap, rfl, rfl, hrow _ (upd_self _ _ _), .inl ⟨rfl, rfl, hg, b, rfl, fun k hk => by simp [upd, hk]⟩⟩
end
end Go.Proofs.YtdplcfineaikjaaDoor
