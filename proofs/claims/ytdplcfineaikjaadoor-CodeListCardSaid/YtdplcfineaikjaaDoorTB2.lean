/- hexa.Text and the reference's: bytes as hex digits. Condition: at most 2^40 bytes. -/
import Derived.Test.YtdplcfineaikjaaDoorTB1
import Derived.Test.YtdplcfineaikjaaDoorA14
import Derived.Test.YtdplcfineaikjaaDoorA15
import Derived.Test.YtdplcfineaikjaaDoorCS0
namespace Go.Proofs.YtdplcfineaikjaaDoor
set_option linter.unusedVariables false
set_option linter.unusedSimpArgs false
open Go Go.RowKit
def hexD : List UInt8 := [48, 49, 50, 51, 52, 53, 54, 55, 56, 57, 97, 98, 99, 100, 101, 102]
/-- The two digits of a byte. -/
def hexB (b : UInt8) : List UInt8 := [hexD.getD (b.toNat / 16) 0, hexD.getD (b.toNat % 16) 0]
def hexL (l : List UInt8) : List UInt8 := l.flatMap hexB
def hexT (l : List UInt8) : List UInt8 := 48 :: 120 :: hexL l
theorem hexL_len (l : List UInt8) : (hexL l).length = 2 * l.length := by
  induction l with
  | nil => rfl
  | cons b t ih => rw [hexL, List.flatMap_cons, List.length_append]; change 2 + (hexL t).length = _; rw [ih, List.length_cons]; omega
theorem hexT_len (l : List UInt8) : (hexT l).length = 2 * l.length + 2 := by rw [hexT, List.length_cons, List.length_cons, hexL_len]
theorem hexL_take {l : List UInt8} {k : Nat} (h : k < l.length) : hexL (l.take (k + 1)) = hexL (l.take k) ++ hexB (l.getD k 0) := by
  have e : l.take (k + 1) = l.take k ++ [l.getD k 0] := by
    rw [List.take_add_one, List.getD_eq_getElem?_getD, List.getElem?_eq_getElem h]; rfl
  rw [e]
  simp [hexL, List.flatMap_append]
theorem shr4 : ∀ n : Nat, n < 256 → (n : Int) / 2 ^ (min (4 : Int).toNat IntKind.u8.bits) = ((n / 16 : Nat) : Int) := by
  intro n h
  show (n : Int) / 2 ^ 4 = _
  omega
theorem and15 : ∀ n : Nat, n < 256 → bits .and .u8 (n : Int) 15 = ((n % 16 : Nat) : Int) := by decide +kernel
theorem hexD_len : hexD.length = 16 := rfl
section
variable {N : Heaplet} {ao : Option Addr} {n cap : Nat} {l : List UInt8}
set_option maxRecDepth 100000 in
theorem FText_f (h : RSl N 1 ao n cap (u8s l)) (hn : n ≤ 1099511627776) : Fn Tryd.prog 31 #[.slice ao n cap] [] [N] (fun v L => v = str (hexT l) ∧ L = []) := by
  have hlen := h.len8
  refine Fn.enter (vs := [.slice ao n cap]) Tryd.func31 rfl rfl rfl ?_
  intro E R hR
  have h := h.le (hR N (by simp))
  change At _ _ E [R] _
  refine At.seq fun K1 hk_1 => ?_
  refine At.region ?_
  refine op_assign (nxlf rfl) rfl rfl ?_
  refine At.opsNil ?_
  refine At.norm (hk_1 ?_)
  refine At.seq fun K2 hk_2 => ?_
  refine At.region ?_
  refine op_alloc (nxla rfl) ze73 rfl (fun N3 b3 B3 => ?_)
  change Blk N3 b3 _ [.pointer none, .slice none 0 0] at B3
  refine At.opsNil ?_
  refine At.norm (hk_2 ?_)
  refine At.seq fun K3 hk_3 => ?_
  refine At.region ?_
  refine At.empty ?_
  refine At.perm sel2 ?_
  refine At.perm sel1 ?_
  refine At.perm sel2 ?_
  refine op_call (nxl rfl) (.cons rfl (.cons rfl .nil)) (FWStr_f (.inl rfl) B3 (show Row nilH 5 1 none 0 0 (u8s []) from Row.nil _ _ _) [48, 120] (by decide)) (F := [R]) Tryd.func47 rfl rfl (.refl _) (by simp) rfl ?_
  rintro v6 L6 ⟨rfl, N3, M6, a6, c6, rfl, B3, r6⟩
  change At _ _ _ [N3, M6, R] _
  refine At.opsNil ?_
  refine At.norm (hk_3 ?_)
  refine At.seq fun K4 hk_4 => ?_
  refine At.seq fun K5 hk_5 => ?_
  refine At.region ?_
  refine op_move (nxlf rfl) rfl rfl ?_
  refine op_lenS (nxlf rfl) se22 rfl rfl ?_
  refine op_move (nxlf rfl) rfl rfl ?_
  refine At.opsNil ?_
  refine At.norm (hk_5 ?_)
  refine At.block ?_
  refine At.loop (fun fr_ hp_ ms_ => ∃ (k m : Nat) (a : Option Addr) (c : Nat) (Na N3 : Heaplet), fr_ = [(3, .pointer (some ⟨b3, 0, none⟩)), (7, .slice ao n cap), (8, .int .i64 (n : Int)), (9, .int .i64 (k : Int))] ∧ hp_ = [N3, Na, R] ∧ n - k = ms_ ∧ (k ≤ n) ∧ (m = 2 * k + 2) ∧ (Blk N3 b3 73 [.pointer (some ⟨b3, 0, none⟩), .slice a m c]) ∧ (Row Na 5 1 a m c (u8s (hexT (l.take k))))) ?_ (.refl _) ⟨0, _, a6, c6, M6, N3, rfl, rfl, rfl, Nat.zero_le _, rfl, B3, r6⟩ ?_
  · exact .cons (by first | exact lkI rfl (by omega) | rfl) (.cons (by first | exact lkI rfl (by omega) | rfl) (.cons (by first | exact lkI rfl (by omega) | rfl) (.cons (by first | exact lkI rfl (by omega) | rfl) .nil)))
  rintro _ _ _ ⟨k, m, a, c, Na, N3, rfl, rfl, rfl, hk, hm, B3, ra⟩
  refine At.seq fun K6 hk_6 => ?_
  refine At.region ?_
  refine op_lss (nxlf rfl) rfl rfl rfl ?_
  refine At.opsNil ?_
  refine At.norm (hk_6 ?_)
  refine At.seq fun K7 hk_7 => ?_
  refine At.condP rfl (fun c10 => ?_) (fun c10 => ?_)
  · refine At.skip ?_
    refine At.norm (hk_7 ?_)
    refine At.seq fun K8 hk_8 => ?_
    refine At.block ?_
    refine At.seq fun K9 hk_9 => ?_
    refine At.region ?_
    refine op_idx1 (nxlf rfl) se22 rfl rfl h (show _ = (((k : Nat)) : Int) from by omega) (by omega) rfl ?_
    refine op_loadE (nxlf rfl) sc5 rfl h (by first | exact get8 (by omega) | exact get64 (by omega) | exact get32 (by omega)) (by first | exact mem0 | exact mem1 | exact mem2 | exact mem3 | exact mem4 | exact mem5 | exact mem6 | exact mem7 | exact mem8 | exact mem9) rfl ?_
    have hx := (l.getD k 0).toNat_lt
    refine op_assign (nxlf rfl) rfl rfl ?_
    refine At.opsNil ?_
    refine At.norm (hk_9 ?_)
    refine At.seq fun K10 hk_10 => ?_
    refine At.region ?_
    refine op_move (nxlf rfl) rfl rfl ?_
    refine op_shrW (nxlf rfl) rfl rfl (by omega) (by omega) rfl ?_
    rw [shr4 _ hx]
    refine op_idxS (bs := hexD) (nxlf rfl) Tryd.underlying9 rfl rfl (show _ = ((((l.getD k 0).toNat / 16 : Nat)) : Int) from by omega) (by rw [hexD_len]; omega) rfl ?_
    refine op_call (nxl rfl) (.cons rfl (.cons rfl .nil)) (FWByte_f (.inr rfl) B3 ra (by omega) (hexD.getD ((l.getD k 0).toNat / 16) 0)) (F := [R]) Tryd.func48 rfl rfl (.refl _) (by simp) rfl ?_
    rintro v16 L16 ⟨rfl, N3, N16, a16, c16, rfl, B3, r16⟩
    change At _ _ _ [N3, N16, R] _
    refine At.opsNil ?_
    refine At.norm (hk_10 ?_)
    refine At.region ?_
    refine op_move (nxlf rfl) rfl rfl ?_
    refine op_bits (by simp) (nxlf rfl) rfl rfl rfl ?_
    rw [and15 _ hx]
    refine op_idxS (bs := hexD) (nxlf rfl) Tryd.underlying9 rfl rfl (show _ = ((((l.getD k 0).toNat % 16 : Nat)) : Int) from by omega) (by rw [hexD_len]; omega) rfl ?_
    refine op_call (nxl rfl) (.cons rfl (.cons rfl .nil)) (FWByte_f (.inr rfl) B3 r16 (by omega) (hexD.getD ((l.getD k 0).toNat % 16) 0)) (F := [R]) Tryd.func48 rfl rfl (.refl _) (by simp) rfl ?_
    rintro v20 L20 ⟨rfl, N3, N20, a20, c20, rfl, B3, r20⟩
    change At _ _ _ [N3, N20, R] _
    refine At.opsNil ?_
    refine At.inNorm ?_
    refine At.norm (hk_8 ?_)
    refine At.region ?_
    refine op_addI (nxlf rfl) rfl rfl (by omega) (by omega) rfl ?_
    refine op_move (nxlf rfl) rfl rfl ?_
    refine At.opsNil ?_
    refine At.norm ?_
    refine At.back ?_ (.refl _) ⟨k + 1, m + 1 + 1, a20, c20, N20, N3, rfl, rfl, rfl, by omega, by omega, B3, by rw [hexT, hexL_take (by omega)]; have e := r20; simp only [hexT, List.cons_append, List.append_assoc] at e; exact e⟩ ?_
    · exact .cons (by first | exact lkI rfl (by omega) | rfl) (.cons (by first | exact lkI rfl (by omega) | rfl) (.cons (by first | exact lkI rfl (by omega) | rfl) (.cons (by first | exact lkI rfl (by omega) | rfl) .nil)))
    · omega
  · refine At.exit (At.thenExit (At.thenExit (At.inHit ?_)))
    refine At.norm (hk_4 ?_)
    refine At.seq fun K11 hk_11 => ?_
    refine At.region ?_
    refine op_call (nxl rfl) (.cons rfl .nil) (FString_f B3 ra (by omega)) (F := [R]) Tryd.func49 rfl rfl (.refl _) (by simp) rfl ?_
    rintro v22 L22 ⟨rfl, rfl⟩
    change At _ _ _ [R] _
    refine op_assign (nxlf rfl) rfl rfl ?_
    refine At.opsNil ?_
    refine At.norm (hk_11 ?_)
    refine At.ret (?_)
    refine At.ret1 (L1 := []) rfl (.tmp rfl .nil) (.refl _) (.refl _) ?_
    exact ⟨by rw [List.take_of_length_le (by omega)], rfl⟩
set_option maxRecDepth 100000 in
theorem rHexes_f (h : RSl N 1 ao n cap (u8s l)) (hn : n ≤ 1099511627776) : Fn Tryd.prog 51 #[.slice ao n cap] [] [N] (fun v L => v = str (hexL l) ∧ L = []) := by
  have hlen := h.len8
  refine Fn.enter (vs := [.slice ao n cap]) Tryd.func51 rfl rfl rfl ?_
  intro E R hR
  have h := h.le (hR N (by simp))
  change At _ _ E [R] _
  refine At.seq fun K1 hk_1 => ?_
  refine At.region ?_
  refine op_assign (nxlf rfl) rfl rfl ?_
  refine At.opsNil ?_
  refine At.norm (hk_1 ?_)
  refine At.seq fun K2 hk_2 => ?_
  refine At.region ?_
  refine op_assign (nxlf rfl) rfl rfl ?_
  refine At.opsNil ?_
  refine At.norm (hk_2 ?_)
  refine At.seq fun K3 hk_3 => ?_
  refine At.seq fun K4 hk_4 => ?_
  refine At.region ?_
  refine op_assign (nxlf rfl) rfl rfl ?_
  refine At.opsNil ?_
  refine At.norm (hk_4 ?_)
  refine At.block ?_
  refine At.empty ?_
  refine At.loop (fun fr_ hp_ ms_ => ∃ (k m : Nat) (a : Option Addr) (c : Nat) (Na : Heaplet), fr_ = [(0, .slice ao n cap), (3, .slice a m c), (4, .int .i64 (k : Int))] ∧ hp_ = [Na, R] ∧ n - k = ms_ ∧ (k ≤ n) ∧ (m = 2 * k) ∧ (Row Na 5 1 a m c (u8s (hexL (l.take k))))) ?_ (.refl _) ⟨0, 0, none, 0, nilH, rfl, rfl, rfl, Nat.zero_le _, rfl, Row.nil _ _ _⟩ ?_
  · exact .cons (by first | exact lkI rfl (by omega) | rfl) (.cons (by first | exact lkI rfl (by omega) | rfl) (.cons (by first | exact lkI rfl (by omega) | rfl) .nil))
  rintro _ _ _ ⟨k, m, a, c, Na, rfl, rfl, rfl, hk, hm, ra⟩
  refine At.seq fun K5 hk_5 => ?_
  refine At.seq fun K6 hk_6 => ?_
  refine At.region ?_
  refine op_move (nxlf rfl) rfl rfl ?_
  refine op_move (nxlf rfl) rfl rfl ?_
  refine op_lenS (nxlf rfl) se22 rfl rfl ?_
  refine op_lss (nxlf rfl) rfl rfl rfl ?_
  refine At.opsNil ?_
  refine At.norm (hk_6 ?_)
  refine At.condP rfl (fun c8 => ?_) (fun c8 => ?_)
  · have hx := (l.getD k 0).toNat_lt
    refine At.skip ?_
    refine At.norm (hk_5 ?_)
    refine At.seq fun K7 hk_7 => ?_
    refine At.block ?_
    refine At.drawn [14] [0,1,2,3,4,5,6,7,8,9,10,11,12,13,14,15] (by kernel_rfl) (by kernel_rfl) ?_
    refine op_move (nxof rfl rfl rfl (by kernel_rfl)) rfl rfl ?_
    refine op_move (nxof rfl rfl rfl (by kernel_rfl)) rfl rfl ?_
    refine op_move (nxof rfl rfl rfl (by kernel_rfl)) rfl rfl ?_
    refine op_idx1 (nxof rfl rfl rfl (by kernel_rfl)) se22 rfl rfl h (show _ = (((k : Nat)) : Int) from by omega) (by omega) rfl ?_
    refine op_loadE (nxof rfl rfl rfl (by kernel_rfl)) sc5 rfl h (by first | exact get8 (by omega) | exact get64 (by omega) | exact get32 (by omega)) (by first | exact mem0 | exact mem1 | exact mem2 | exact mem3 | exact mem4 | exact mem5 | exact mem6 | exact mem7 | exact mem8 | exact mem9) rfl ?_
    refine op_quo8 (nxof rfl rfl rfl (by kernel_rfl)) rfl rfl (by omega) (by omega) (by omega) rfl ?_
    rw [show ((l.getD k 0).toNat : Int) / 16 = (((l.getD k 0).toNat / 16 : Nat) : Int) by omega]
    refine op_idxS (bs := hexD) (nxof rfl rfl rfl (by kernel_rfl)) Tryd.underlying9 rfl rfl (show _ = ((((l.getD k 0).toNat / 16 : Nat)) : Int) from by omega) (by rw [hexD_len]; omega) rfl ?_
    refine op_move (nxof rfl rfl rfl (by kernel_rfl)) rfl rfl ?_
    refine op_move (nxof rfl rfl rfl (by kernel_rfl)) rfl rfl ?_
    refine op_idx1 (nxof rfl rfl rfl (by kernel_rfl)) se22 rfl rfl h (show _ = (((k : Nat)) : Int) from by omega) (by omega) rfl ?_
    refine op_loadE (nxof rfl rfl rfl (by kernel_rfl)) sc5 rfl h (by first | exact get8 (by omega) | exact get64 (by omega) | exact get32 (by omega)) (by first | exact mem0 | exact mem1 | exact mem2 | exact mem3 | exact mem4 | exact mem5 | exact mem6 | exact mem7 | exact mem8 | exact mem9) rfl ?_
    refine op_rem (nxof rfl rfl rfl (by kernel_rfl)) rfl rfl (by omega) (by omega) rfl ?_
    refine op_idxS (bs := hexD) (nxof rfl rfl rfl (by kernel_rfl)) Tryd.underlying9 rfl rfl (show _ = ((((l.getD k 0).toNat % 16 : Nat)) : Int) from by omega) (by rw [hexD_len]; omega) rfl ?_
    refine op_lit (nxoa rfl rfl rfl) Tryd.underlying22 ze5 sz5 (.cons rfl (.cons rfl .nil)) rfl rfl (by simp [Value.cells]) rfl rfl rfl (fun N24 a24 r24 => ?_)
    simp only [flatV, List.flatMap_cons, List.flatMap_nil, Value.cells, List.append_nil, List.cons_append, List.nil_append] at r24
    have s24 := r24.rsl
    change Row N24 _ 1 a24 2 2 (u8s (hexB (l.getD k 0))) at r24
    have s24 := r24.rsl
    refine op_append (nxos rfl rfl rfl rfl) Tryd.underlying22 Tryd.underlying22 te5 rfl rfl ra s24 (by first | exact mem0 | exact mem1 | exact mem2 | exact mem3 | exact mem4 | exact mem5 | exact mem6 | exact mem7 | exact mem8 | exact mem9) (by first | exact one_u8s _ | exact one_u64s _ | exact one_u32s _ | (intro u hu; simp at hu; subst hu; rfl)) (by omega) (by omega) sel1 rfl (fun N25 a25 p25 r25 => ?_)
    have s25 := r25.rsl
    refine op_assign (nxof rfl rfl rfl (by kernel_rfl)) rfl rfl ?_
    refine At.oneNil ?_
    refine At.inNorm ?_
    refine At.norm (hk_7 ?_)
    refine At.region ?_
    refine op_move (nxlf rfl) rfl rfl ?_
    refine op_addI (nxlf rfl) rfl rfl (by omega) (by omega) rfl ?_
    refine op_assign (nxlf rfl) rfl rfl ?_
    refine At.opsNil ?_
    refine At.norm ?_
    refine At.sub (L' := [N25, R]) (.cons_cons _ (.cons _ (.cons_cons _ (.slnil)))) ?_
    refine At.back ?_ (.refl _) ⟨k + 1, m + 2, a25, p25, N25, rfl, rfl, rfl, by omega, by omega, by rw [hexL_take (by omega), show u8s (hexL (l.take k) ++ hexB (l.getD k 0)) = u8s (hexL (l.take k)) ++ u8s (hexB (l.getD k 0)) by simp [u8s]]; exact r25⟩ ?_
    · exact .cons (by first | exact lkI rfl (by omega) | rfl) (.cons (by first | exact lkI rfl (by omega) | rfl) (.cons (by first | exact lkI rfl (by omega) | rfl) .nil))
    · omega
  · refine At.exit (At.thenExit (At.thenExit (At.inHit ?_)))
    refine At.norm (hk_3 ?_)
    refine At.seq fun K8 hk_8 => ?_
    refine At.region ?_
    refine op_move (nxlf rfl) rfl rfl ?_
    have sa := ra.rsl
    refine op_str (nxlf rfl) Tryd.underlying22 Tryd.underlying5 Tryd.underlying9 rfl (by assumption) (by first | exact mem0 | exact mem1 | exact mem2 | exact mem3 | exact mem4 | exact mem5 | exact mem6 | exact mem7 | exact mem8 | exact mem9) rfl ?_
    refine op_assign (nxlf rfl) rfl rfl ?_
    refine At.opsNil ?_
    refine At.norm (hk_8 ?_)
    refine At.ret (?_)
    refine At.sub (L' := [R]) (.cons _ (.cons_cons _ (.slnil))) ?_
    refine At.ret1 (L1 := []) rfl (.tmp rfl .nil) (.refl _) (.refl _) ?_
    exact ⟨by rw [List.take_of_length_le (by omega)], rfl⟩
theorem rText_f (h : RSl N 1 ao n cap (u8s l)) (hn : n ≤ 1099511627776) : Fn Tryd.prog 35 #[.slice ao n cap] [] [N] (fun v L => v = str (hexT l) ∧ L = []) := by
  have hlen := h.len8
  have hl2 := hexL_len l
  refine Fn.enter (vs := [.slice ao n cap]) Tryd.func35 rfl rfl rfl ?_
  intro E R hR
  have h := h.le (hR N (by simp))
  change At _ _ E [R] _
  refine At.seq fun K1 hk_1 => ?_
  refine At.region ?_
  refine op_assign (nxlf rfl) rfl rfl ?_
  refine At.opsNil ?_
  refine At.norm (hk_1 ?_)
  refine At.seq fun K2 hk_2 => ?_
  refine At.region ?_
  refine op_move (nxlf rfl) rfl rfl ?_
  refine op_callA (nxla rfl) (.cons rfl .nil) (rHexes_f h hn) Tryd.func51 rfl rfl (by simp) rfl ?_
  rintro v4 L4 ⟨rfl, rfl⟩
  change At _ _ _ [R] _
  refine op_addS (a := [48, 120]) (nxlf rfl) rfl rfl (by simp; omega) rfl ?_
  refine op_assign (nxlf rfl) rfl rfl ?_
  refine At.opsNil ?_
  refine At.norm (hk_2 ?_)
  refine At.ret (?_)
  refine At.ret1 (L1 := []) rfl (.tmp rfl .nil) (.refl _) (.refl _) ?_
  exact ⟨rfl, rfl⟩
end
end Go.Proofs.YtdplcfineaikjaaDoor
