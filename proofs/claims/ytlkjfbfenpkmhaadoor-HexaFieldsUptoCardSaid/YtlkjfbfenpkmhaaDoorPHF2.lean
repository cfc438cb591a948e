/- quarryref04.Fields, quarrylaw04.HexaFields. Condition: a text of at most 2^32 bytes. -/
import Derived.Test.YtlkjfbfenpkmhaaDoorP6
import Derived.Test.YtlkjfbfenpkmhaaDoorP11
namespace Go.Proofs.YtlkjfbfenpkmhaaDoor
set_option linter.unusedVariables false
set_option linter.unusedSimpArgs false
open Go Go.RowKit
def stI : Option Nat → Int | none => -1 | some x => (x : Int)
theorem stI_pos {st : Option Nat} (h : 0 ≤ stI st) : ∃ x, st = some x := by
  cases st with
  | none => exact absurd h (by decide)
  | some x => exact ⟨x, rfl⟩
theorem stI_neg {st : Option Nat} (h : stI st < 0) : st = none := by
  cases st with
  | none => rfl
  | some x => exact absurd h (by show ¬ (x : Int) < 0; omega)
section
variable {s : List UInt8} {f q x : Nat} {acc : List (Nat × Nat)}
theorem span_bs (h : q < s.length) (hb : blankN (runeAt s q) = true) : Lib.spansFromP blankN ⟨s.toArray⟩ (f + 1) q (some x) acc = Lib.spansFromP blankN ⟨s.toArray⟩ f (nextP s q) none (acc ++ [(x, q)]) := by
  have e : (⟨s.toArray⟩ : ByteArray).size = s.length := rfl
  rw [Lib.spansFromP, e, if_pos h, decode_at, show blankN (Lib.decodeL (s.drop q)).1 = true from hb, if_pos rfl, nextP_y h]
theorem span_bn (h : q < s.length) (hb : blankN (runeAt s q) = true) : Lib.spansFromP blankN ⟨s.toArray⟩ (f + 1) q none acc = Lib.spansFromP blankN ⟨s.toArray⟩ f (nextP s q) none acc := by
  have e : (⟨s.toArray⟩ : ByteArray).size = s.length := rfl
  rw [Lib.spansFromP, e, if_pos h, decode_at, show blankN (Lib.decodeL (s.drop q)).1 = true from hb, if_pos rfl, nextP_y h]
theorem span_ns (h : q < s.length) (hb : ¬ blankN (runeAt s q) = true) : Lib.spansFromP blankN ⟨s.toArray⟩ (f + 1) q (some x) acc = Lib.spansFromP blankN ⟨s.toArray⟩ f (nextP s q) (some x) acc := by
  have e : (⟨s.toArray⟩ : ByteArray).size = s.length := rfl
  rw [Lib.spansFromP, e, if_pos h, decode_at, if_neg (show ¬ blankN (Lib.decodeL (s.drop q)).1 = true from hb), nextP_y h]
theorem span_nn (h : q < s.length) (hb : ¬ blankN (runeAt s q) = true) : Lib.spansFromP blankN ⟨s.toArray⟩ (f + 1) q none acc = Lib.spansFromP blankN ⟨s.toArray⟩ f (nextP s q) (some q) acc := by
  have e : (⟨s.toArray⟩ : ByteArray).size = s.length := rfl
  rw [Lib.spansFromP, e, if_pos h, decode_at, if_neg (show ¬ blankN (Lib.decodeL (s.drop q)).1 = true from hb), nextP_y h]
end
theorem pieces_snoc (s : List UInt8) (acc : List (Nat × Nat)) (x : Nat × Nat) : txs (piecesB s (acc ++ [x])) = txs (piecesB s acc) ++ txs [pieceB s x] := by simp [txs, piecesB]
theorem pieces_len (s : List UInt8) (acc : List (Nat × Nat)) : (piecesB s acc).length = acc.length := List.length_map _
set_option maxRecDepth 100000 in
set_option maxHeartbeats 2000000 in
theorem rFields_f {s : List UInt8} (hs : s.length ≤ 4294967296) : Fn Tryd.prog 24 #[str s] [] [] (TxP (fieldsB s)) := by
  obtain ⟨z, hz⟩ : ∃ z, Lib.spansFromP blankN ⟨s.toArray⟩ s.length 0 none [] = z := ⟨_, rfl⟩
  have hfb : fieldsB s = piecesB s (Lib.closeSpans ⟨s.toArray⟩ z) := by rw [← hz]; rfl
  rw [hfb]
  refine Fn.enter (vs := [str s]) Tryd.func24 rfl rfl rfl ?_
  intro E R hR
  change At _ _ E [R] _
  refine At.seq fun K1 hk_1 => ?_
  refine At.region ?_
  refine op_assign (nxlf rfl) rfl rfl ?_
  refine At.opsNil ?_
  refine At.norm (hk_1 ?_)
  refine At.seq fun K2 hk_2 => ?_
  refine At.region ?_
  refine op_assign (nxlf rfl) rfl rfl ?_
  refine At.opsNil ?_
  refine At.norm (hk_2 ?_)
  refine At.seq fun K3 hk_3 => ?_
  refine At.region ?_
  refine op_assign (nxlf rfl) rfl rfl ?_
  refine At.opsNil ?_
  refine At.norm (hk_3 ?_)
  refine At.seq fun K4 hk_4 => ?_
  refine At.seq fun K5 hk_5 => ?_
  refine At.region ?_
  refine op_move (nxlf rfl) rfl rfl ?_
  refine op_rangeS (nxla rfl) Tryd.underlying9 rfl rfl (fun N8 b8 I8 => ?_)
  refine At.opsNil ?_
  refine At.norm (hk_5 ?_)
  refine At.block ?_
  refine At.empty ?_
  refine At.perm sel2 ?_
  refine At.perm sel1 ?_
  refine At.perm sel2 ?_
  refine At.loop (fun fr_ hp_ ms_ => ∃ (q f : Nat) (st : Option Nat) (acc : List (Nat × Nat)) (a : Option Addr) (m c : Nat) (Na N8 : Heaplet), fr_ = [(0, str s), (3, .slice a m c), (4, .int .i64 (stI st)), (8, .pointer (some ⟨b8, 0, none⟩))] ∧ hp_ = [N8, Na, R] ∧ s.length - q = ms_ ∧ (q ≤ s.length + 4) ∧ (s.length ≤ f + q) ∧ (m = acc.length) ∧ (m ≤ q) ∧ (∀ x, st = some x → x ≤ q ∧ x ≤ s.length) ∧ (Lib.spansFromP blankN ⟨s.toArray⟩ f q st acc = z) ∧ (IterH N8 b8 s q) ∧ (Row Na 9 1 a m c (txs (piecesB s acc)))) ?_ (.refl _) ⟨0, s.length, none, [], none, 0, 0, nilH, N8, rfl, rfl, rfl, Nat.zero_le _, Nat.le_refl _, rfl, Nat.le_refl _, fun x h => (by cases h), hz, I8, Row.nil _ _ _⟩ ?_
  · exact .cons (by first | exact lkI rfl (by omega) | rfl) (.cons (by first | exact lkI rfl (by omega) | rfl) (.cons (by first | exact lkI rfl (by omega) | rfl) (.cons (by first | exact lkI rfl (by omega) | rfl) .nil)))
  rintro _ _ _ ⟨q, f, st, acc, a, m, c, Na, N8, rfl, rfl, rfl, hq, hf, hm, hmq, hst, hd, I8, ra⟩
  refine At.seq fun K6 hk_6 => ?_
  refine At.region ?_
  refine op_nextS (nxl rfl) rfl I8 sel0 rfl (fun N8 I8 => ?_)
  refine op_nx0 (nxlf rfl) rfl rfl ?_
  refine At.opsNil ?_
  refine At.norm (hk_6 ?_)
  refine At.seq fun K7 hk_7 => ?_
  refine At.condP rfl (fun c10 => ?_) (fun c10 => ?_)
  · have hlt : q < s.length := c10
    have hnp := nextP_y hlt
    have hw1 := Lib.decodeL_width (s.drop q)
    have hw4 := width4 (s.drop q)
    obtain ⟨f, rfl⟩ : ∃ k, f = k + 1 := ⟨f - 1, by omega⟩
    refine At.skip ?_
    refine At.norm (hk_7 ?_)
    refine At.block ?_
    refine At.seq fun K8 hk_8 => ?_
    refine At.region ?_
    refine op_nx1 (nxlf rfl) rfl (by omega) rfl ?_
    refine op_nx2 (nxlf rfl) rfl (by omega) rfl ?_
    refine op_assign (nxlf rfl) rfl rfl ?_
    refine op_assign (nxlf rfl) rfl rfl ?_
    refine At.opsNil ?_
    refine At.norm (hk_8 ?_)
    refine At.seq fun K9 hk_9 => ?_
    refine At.region ?_
    refine op_move (nxlf rfl) rfl rfl ?_
    refine op_callA (nxla rfl) (.cons rfl .nil) (rblank_f (runeAt s q)) Tryd.func51 rfl rfl (by simp) rfl ?_
    rintro v14 L14 ⟨rfl, rfl⟩
    change At _ _ _ [N8, Na, R] _
    refine At.opsNil ?_
    refine At.norm (hk_9 ?_)
    refine At.condP rfl (fun c14 => ?_) (fun c14 => ?_)
    · have hbl : blankN (runeAt s q) = true := decide_eq_true c14
      refine At.seq fun K10 hk_10 => ?_
      refine At.seq fun K11 hk_11 => ?_
      refine At.region ?_
      refine op_move (nxlf rfl) rfl rfl ?_
      refine op_geq (nxlf rfl) rfl rfl rfl ?_
      refine At.opsNil ?_
      refine At.norm (hk_11 ?_)
      refine At.condP rfl (fun c16 => ?_) (fun c16 => ?_)
      · obtain ⟨x, rfl⟩ := stI_pos (st := st) (by omega)
        have hxi : stI (some x) = (x : Int) := rfl
        have hxq := hst x rfl
        refine At.region ?_
        refine op_move (nxlf rfl) rfl rfl ?_
        refine op_move (nxlf rfl) rfl rfl ?_
        refine op_move (nxlf rfl) rfl rfl ?_
        refine op_move (nxlf rfl) rfl rfl ?_
        refine op_sliceStr (nxlf rfl) Tryd.underlying9 rfl (.some rfl (show _ = (((x : Nat)) : Int) from by omega)) (.some rfl (show _ = (((q : Nat)) : Int) from by omega)) .none (by omega) (by omega) (by omega) (by simp) rfl ?_
        refine op_lit (nxla rfl) Tryd.underlying58 ze9 sz9 (.cons rfl .nil) rfl rfl (by simp [Value.cells, str]) rfl rfl rfl (fun N22 a22 r22 => ?_)
        simp only [flatV, List.flatMap_cons, List.flatMap_nil, Value.cells, List.append_nil, List.cons_append, List.nil_append, str] at r22
        have s22 := r22.rsl
        change Row N22 _ 1 a22 1 1 (txs [pieceB s (x, q)]) at r22
        have s22 := r22.rsl
        refine op_append (nxl rfl) Tryd.underlying58 Tryd.underlying58 te9 rfl rfl ra s22 (by first | exact mem0 | exact mem1 | exact mem2 | exact mem3 | exact mem4 | exact mem5 | exact mem6 | exact mem7 | exact mem8 | exact mem9) (one_txs _) (by omega) (by omega) sel2 rfl (fun N23 a23 p23 r23 => ?_)
        have s23 := r23.rsl
        have r23 : Row N23 9 1 a23 (m + 1) p23 (txs (piecesB s (acc ++ [(x, q)]))) := by
          rw [pieces_snoc]; exact r23
        refine op_assign (nxlf rfl) rfl rfl ?_
        refine At.opsNil ?_
        refine At.norm (hk_10 ?_)
        refine At.region ?_
        refine op_assign (nxlf rfl) rfl rfl ?_
        refine At.opsNil ?_
        refine At.inNorm ?_
        refine At.norm ?_
        refine At.sub (L' := [N23, N8, R]) (.cons_cons _ (.cons _ (.cons_cons _ (.cons_cons _ (.slnil))))) ?_
        refine At.perm sel2 ?_
        refine At.perm sel1 ?_
        refine At.perm sel2 ?_
        refine At.back ?_ (.refl _) ⟨nextP s q, f, none, acc ++ [(x, q)], a23, m + 1, p23, N23, N8, rfl, rfl, rfl, by rw [hnp]; omega, by rw [hnp]; omega, by rw [List.length_append, hm]; rfl, by rw [hnp]; omega, fun x h => (by cases h), by rw [span_bs hlt hbl] at hd; exact hd, I8, r23⟩ ?_
        · exact .cons (by first | exact lkI rfl (by omega) | rfl) (.cons (by first | exact lkI rfl (by omega) | rfl) (.cons (by first | exact lkI rfl (by omega) | rfl) (.cons (by first | exact lkI rfl (by omega) | rfl) .nil)))
        · (rw [hnp]; omega)
      · obtain rfl := stI_neg (st := st) (by omega)
        refine At.skip ?_
        refine At.norm (hk_10 ?_)
        refine At.region ?_
        refine op_assign (nxlf rfl) rfl rfl ?_
        refine At.opsNil ?_
        refine At.inNorm ?_
        refine At.norm ?_
        refine At.back ?_ (.refl _) ⟨nextP s q, f, none, acc, a, m, c, Na, N8, rfl, rfl, rfl, by rw [hnp]; omega, by rw [hnp]; omega, hm, by rw [hnp]; omega, fun x h => (by cases h), by rw [span_bn hlt hbl] at hd; exact hd, I8, ra⟩ ?_
        · exact .cons (by first | exact lkI rfl (by omega) | rfl) (.cons (by first | exact lkI rfl (by omega) | rfl) (.cons (by first | exact lkI rfl (by omega) | rfl) (.cons (by first | exact lkI rfl (by omega) | rfl) .nil)))
        · (rw [hnp]; omega)
    · have hbl : ¬ blankN (runeAt s q) = true := fun h => c14 (of_decide_eq_true h)
      refine At.seq fun K12 hk_12 => ?_
      refine At.region ?_
      refine op_move (nxlf rfl) rfl rfl ?_
      refine op_lss (nxlf rfl) rfl rfl rfl ?_
      refine At.opsNil ?_
      refine At.norm (hk_12 ?_)
      refine At.condP rfl (fun c25 => ?_) (fun c25 => ?_)
      · obtain rfl := stI_neg (st := st) (by omega)
        refine At.region ?_
        refine op_move (nxlf rfl) rfl rfl ?_
        refine op_assign (nxlf rfl) rfl rfl ?_
        refine At.opsNil ?_
        refine At.inNorm ?_
        refine At.norm ?_
        refine At.back ?_ (.refl _) ⟨nextP s q, f, some q, acc, a, m, c, Na, N8, rfl, rfl, rfl, by rw [hnp]; omega, by rw [hnp]; omega, hm, by rw [hnp]; omega, fun x h => (by injection h with h; rw [hnp]; omega), by rw [span_nn hlt hbl] at hd; exact hd, I8, ra⟩ ?_
        · exact .cons (by first | exact lkI rfl (by omega) | rfl) (.cons (by first | exact lkI rfl (by omega) | rfl) (.cons (by first | exact lkI rfl (by omega) | rfl) (.cons (by first | exact lkI rfl (by omega) | rfl) .nil)))
        · (rw [hnp]; omega)
      · obtain ⟨x, rfl⟩ := stI_pos (st := st) (by omega)
        have hxq := hst x rfl
        refine At.skip ?_
        refine At.inNorm ?_
        refine At.norm ?_
        refine At.back ?_ (.refl _) ⟨nextP s q, f, some x, acc, a, m, c, Na, N8, rfl, rfl, rfl, by rw [hnp]; omega, by rw [hnp]; omega, hm, by rw [hnp]; omega, fun y h => (by injection h with h; rw [hnp]; omega), by rw [span_ns hlt hbl] at hd; exact hd, I8, ra⟩ ?_
        · exact .cons (by first | exact lkI rfl (by omega) | rfl) (.cons (by first | exact lkI rfl (by omega) | rfl) (.cons (by first | exact lkI rfl (by omega) | rfl) (.cons (by first | exact lkI rfl (by omega) | rfl) .nil)))
        · (rw [hnp]; omega)
  · have hge : ¬ q < (⟨s.toArray⟩ : ByteArray).size := fun h => c10 h
    rw [Lib.spansFromP_end _ _ _ _ _ _ hge] at hd
    subst hd
    refine At.exit (At.thenExit (At.thenExit (At.inHit ?_)))
    refine At.norm (hk_4 ?_)
    refine At.seq fun K13 hk_13 => ?_
    refine At.seq fun K14 hk_14 => ?_
    refine At.region ?_
    refine op_move (nxlf rfl) rfl rfl ?_
    refine op_geq (nxlf rfl) rfl rfl rfl ?_
    refine At.opsNil ?_
    refine At.norm (hk_14 ?_)
    refine At.condP rfl (fun c28 => ?_) (fun c28 => ?_)
    · obtain ⟨x, rfl⟩ := stI_pos (st := st) (by omega)
      have hxi : stI (some x) = (x : Int) := rfl
      have hxq := hst x rfl
      refine At.region ?_
      refine op_move (nxlf rfl) rfl rfl ?_
      refine op_move (nxlf rfl) rfl rfl ?_
      refine op_move (nxlf rfl) rfl rfl ?_
      refine op_sliceStr (nxlf rfl) Tryd.underlying9 rfl (.some rfl (show _ = (((x : Nat)) : Int) from by omega)) .none .none (by omega) (by omega) (by omega) (by simp) rfl ?_
      refine op_lit (nxla rfl) Tryd.underlying58 ze9 sz9 (.cons rfl .nil) rfl rfl (by simp [Value.cells, str]) rfl rfl rfl (fun N33 a33 r33 => ?_)
      simp only [flatV, List.flatMap_cons, List.flatMap_nil, Value.cells, List.append_nil, List.cons_append, List.nil_append, str] at r33
      have s33 := r33.rsl
      change Row N33 _ 1 a33 1 1 (txs [pieceB s (x, s.length)]) at r33
      have s33 := r33.rsl
      refine op_append (nxl rfl) Tryd.underlying58 Tryd.underlying58 te9 rfl rfl ra s33 (by first | exact mem0 | exact mem1 | exact mem2 | exact mem3 | exact mem4 | exact mem5 | exact mem6 | exact mem7 | exact mem8 | exact mem9) (one_txs _) (by omega) (by omega) sel2 rfl (fun N34 a34 p34 r34 => ?_)
      have s34 := r34.rsl
      refine op_assign (nxlf rfl) rfl rfl ?_
      refine At.opsNil ?_
      refine At.norm (hk_13 ?_)
      refine At.seq fun K15 hk_15 => ?_
      refine At.region ?_
      refine op_move (nxlf rfl) rfl rfl ?_
      refine op_assign (nxlf rfl) rfl rfl ?_
      refine At.opsNil ?_
      refine At.norm (hk_15 ?_)
      refine At.ret (?_)
      refine At.sub (L' := [N34, R]) (.cons_cons _ (.cons _ (.cons _ (.cons_cons _ (.slnil))))) ?_
      refine At.ret1 (L1 := [N34]) rfl (.tmp rfl .nil) (.refl _) (.refl _) ?_
      have e : piecesB s (Lib.closeSpans ⟨s.toArray⟩ (acc, some x)) = piecesB s (acc ++ [(x, s.length)]) := rfl
      rw [e]
      have r34 : Row N34 9 1 a34 (m + 1) p34 (txs (piecesB s (acc ++ [(x, s.length)]))) := by
        rw [pieces_snoc]; exact r34
      have el : (piecesB s (acc ++ [(x, s.length)])).length = m + 1 := by rw [pieces_len, List.length_append, hm]; rfl
      exact ⟨N34, a34, p34, by rw [el], rfl, by rw [el]; exact r34⟩
    · obtain rfl := stI_neg (st := st) (by omega)
      refine At.skip ?_
      refine At.norm (hk_13 ?_)
      refine At.seq fun K16 hk_16 => ?_
      refine At.region ?_
      refine op_move (nxlf rfl) rfl rfl ?_
      refine op_assign (nxlf rfl) rfl rfl ?_
      refine At.opsNil ?_
      refine At.norm (hk_16 ?_)
      refine At.ret (?_)
      refine At.sub (L' := [Na, R]) (.cons _ (.cons_cons _ (.cons_cons _ (.slnil)))) ?_
      refine At.ret1 (L1 := [Na]) rfl (.tmp rfl .nil) (.refl _) (.refl _) ?_
      have e : piecesB s (Lib.closeSpans ⟨s.toArray⟩ (acc, none)) = piecesB s acc := rfl
      rw [e]
      exact ⟨Na, a, c, by rw [pieces_len, hm], rfl, by rw [pieces_len, ← hm]; exact ra⟩
set_option maxRecDepth 100000 in
theorem HexaFields_f {s : List UInt8} (hs : s.length ≤ 4294967296) : Fn Tryd.prog 6 #[str s] [] [] (fun v L => v = .bool true ∧ L = []) := by
  have h1 := HFields_f hs
  have h2 := rFields_f hs
  generalize fieldsB s = xs at h1 h2
  refine Fn.enter (vs := [str s]) Tryd.func6 rfl rfl rfl ?_
  intro E R hR
  change At _ _ E [R] _
  refine At.seq fun K1 hk_1 => ?_
  refine At.region ?_
  refine op_assign (nxlf rfl) rfl rfl ?_
  refine At.opsNil ?_
  refine At.norm (hk_1 ?_)
  refine At.seq fun K2 hk_2 => ?_
  refine At.region ?_
  refine op_move (nxlf rfl) rfl rfl ?_
  refine op_callA (nxla rfl) (.cons rfl .nil) (h1) Tryd.func23 rfl rfl (by simp) rfl ?_
  rintro v7 L7 ⟨N7, a7, c7, rfl, rfl, r7⟩
  change At _ _ _ [N7, R] _
  refine op_assign (nxlf rfl) rfl rfl ?_
  refine At.opsNil ?_
  refine At.norm (hk_2 ?_)
  refine At.seq fun K3 hk_3 => ?_
  refine At.region ?_
  refine op_move (nxlf rfl) rfl rfl ?_
  refine op_callA (nxla rfl) (.cons rfl .nil) (h2) Tryd.func24 rfl rfl (by simp) rfl ?_
  rintro v9 L9 ⟨N9, a9, c9, rfl, rfl, r9⟩
  change At _ _ _ [N9, N7, R] _
  refine op_assign (nxlf rfl) rfl rfl ?_
  refine At.opsNil ?_
  refine At.norm (hk_3 ?_)
  refine At.seq fun K4 hk_4 => ?_
  refine At.seq fun K5 hk_5 => ?_
  refine At.region ?_
  refine op_move (nxlf rfl) rfl rfl ?_
  refine op_lenS (nxlf rfl) se58 rfl rfl ?_
  refine op_move (nxlf rfl) rfl rfl ?_
  refine op_lenS (nxlf rfl) se58 rfl rfl ?_
  refine op_neq (nxlf rfl) rfl rfl rfl ?_
  refine At.opsNil ?_
  refine At.norm (hk_5 ?_)
  refine At.condP rfl (fun c14 => ?_) (fun c14 => ?_)
  · exact absurd rfl c14
  · refine At.skip ?_
    refine At.norm (hk_4 ?_)
    refine At.seq fun K6 hk_6 => ?_
    refine At.seq fun K7 hk_7 => ?_
    refine At.region ?_
    refine op_assign (nxlf rfl) rfl rfl ?_
    refine At.opsNil ?_
    refine At.norm (hk_7 ?_)
    refine At.block ?_
    refine At.loop (fun fr_ hp_ ms_ => ∃ (i : Nat), fr_ = [(3, .slice a7 xs.length c7), (4, .slice a9 xs.length c9), (5, .int .i64 (i : Int))] ∧ hp_ = [N9, N7, R] ∧ xs.length - i = ms_ ∧ (i ≤ xs.length)) ?_ (.refl _) ⟨0, rfl, rfl, rfl, Nat.zero_le _⟩ ?_
    · exact .cons (by first | exact lkI rfl (by omega) | rfl) (.cons (by first | exact lkI rfl (by omega) | rfl) (.cons (by first | exact lkI rfl (by omega) | rfl) .nil))
    rintro _ _ _ ⟨i, rfl, rfl, rfl, hi⟩
    have s7 := r7.rsl
    have s9 := r9.rsl
    have hbig := r7.rsl.cap63
    have hle := r7.rsl.2.1
    refine At.seq fun K8 hk_8 => ?_
    refine At.seq fun K9 hk_9 => ?_
    refine At.region ?_
    refine op_move (nxlf rfl) rfl rfl ?_
    refine op_move (nxlf rfl) rfl rfl ?_
    refine op_lenS (nxlf rfl) se58 rfl rfl ?_
    refine op_lss (nxlf rfl) rfl rfl rfl ?_
    refine At.opsNil ?_
    refine At.norm (hk_9 ?_)
    refine At.condP rfl (fun c18 => ?_) (fun c18 => ?_)
    · refine At.skip ?_
      refine At.norm (hk_8 ?_)
      refine At.seq fun K10 hk_10 => ?_
      refine At.block ?_
      refine At.seq fun K11 hk_11 => ?_
      refine At.drawn [] [0,1,2,3,4,5,6,7,8] (by kernel_rfl) (by kernel_rfl) ?_
      refine op_move (nxof rfl rfl rfl (by kernel_rfl)) rfl rfl ?_
      refine op_move (nxof rfl rfl rfl (by kernel_rfl)) rfl rfl ?_
      refine op_idx1 (nxof rfl rfl rfl (by kernel_rfl)) se58 rfl rfl s7 (show _ = (((i : Nat)) : Int) from by omega) (by omega) rfl ?_
      refine op_loadE (nxof rfl rfl rfl (by kernel_rfl)) sc9 rfl s7 (by first | exact get8 (by omega) | exact get64 (by omega) | exact get32 (by omega) | exact txs_get (by omega)) (by first | exact mem0 | exact mem1 | exact mem2 | exact mem3 | exact mem4 | exact mem5 | exact mem6 | exact mem7 | exact mem8 | exact mem9) rfl ?_
      refine op_move (nxof rfl rfl rfl (by kernel_rfl)) rfl rfl ?_
      refine op_move (nxof rfl rfl rfl (by kernel_rfl)) rfl rfl ?_
      refine op_idx1 (nxof rfl rfl rfl (by kernel_rfl)) se58 rfl rfl s9 (show _ = (((i : Nat)) : Int) from by omega) (by omega) rfl ?_
      refine op_loadE (nxof rfl rfl rfl (by kernel_rfl)) sc9 rfl s9 (by first | exact get8 (by omega) | exact get64 (by omega) | exact get32 (by omega) | exact txs_get (by omega)) (by first | exact mem0 | exact mem1 | exact mem2 | exact mem3 | exact mem4 | exact mem5 | exact mem6 | exact mem7 | exact mem8 | exact mem9) rfl ?_
      refine op_neS (nxof rfl rfl rfl (by kernel_rfl)) rfl rfl rfl ?_
      refine At.oneNil ?_
      refine At.norm (hk_11 ?_)
      refine At.condP rfl (fun c29 => ?_) (fun c29 => ?_)
      · exact absurd rfl c29
      · refine At.skip ?_
        refine At.inNorm ?_
        refine At.norm (hk_10 ?_)
        refine At.region ?_
        refine op_move (nxlf rfl) rfl rfl ?_
        refine op_addI (nxlf rfl) rfl rfl (by omega) (by omega) rfl ?_
        refine op_assign (nxlf rfl) rfl rfl ?_
        refine At.opsNil ?_
        refine At.norm ?_
        refine At.back ?_ (.refl _) ⟨i + 1, rfl, rfl, rfl, by omega⟩ ?_
        · exact .cons (by first | exact lkI rfl (by omega) | rfl) (.cons (by first | exact lkI rfl (by omega) | rfl) (.cons (by first | exact lkI rfl (by omega) | rfl) .nil))
        · omega
    · refine At.exit (At.thenExit (At.thenExit (At.inHit ?_)))
      refine At.norm (hk_6 ?_)
      refine At.seq fun K12 hk_12 => ?_
      refine At.region ?_
      refine op_callA (nxla rfl) .nil (HWakes_f) Tryd.func10 rfl rfl (by simp) rfl ?_
      rintro v30 L30 ⟨rfl, rfl⟩
      change At _ _ _ [N9, N7, R] _
      refine op_assign (nxlf rfl) rfl rfl ?_
      refine At.opsNil ?_
      refine At.norm (hk_12 ?_)
      refine At.ret (?_)
      refine At.sub (L' := [R]) (.cons _ (.cons _ (.cons_cons _ (.slnil)))) ?_
      refine At.ret1 (L1 := []) rfl (.tmp rfl .nil) (.refl _) (.refl _) ?_
      exact ⟨rfl, rfl⟩
end Go.Proofs.YtlkjfbfenpkmhaaDoor
