/- Several texts in one: see the remarks ahead of each part. No condition but those told there. -/
import Derived.Test.YtoabimaidpbkiaaDoorFK1
import Derived.Test.YtoabimaidpbkiaaDoorA11
import Derived.Test.YtoabimaidpbkiaaDoorA10
import Derived.Test.YtoabimaidpbkiaaDoorFK2
/- Plans of forks in memory; sorted lists; addresses as keys. No condition. -/
namespace Go.Proofs.YtoabimaidpbkiaaDoor
set_option linter.unusedVariables false
set_option linter.unusedSimpArgs false
open Go Go.RowKit
open Go.Maps (Keyed)
/-- A plan's cells. -/
def cfg (ch dao : UInt64) (bl ti : List UInt64) (ao : Option Addr) (n cap : Nat) (tw : List UInt8) : List Value := .int .u64 (ch.toNat : Int) :: (u64s bl ++ (u64s ti ++ (.int .u64 (dao.toNat : Int) :: .slice ao n cap :: u8s tw)))
section
variable {ch dao : UInt64} {bl ti : List UInt64} {ao : Option Addr} {n cap : Nat} {tw : List UInt8}
theorem cfg_len (hb : bl.length = 14) (ht : ti.length = 2) (ho : tw.length = 20) : (cfg ch dao bl ti ao n cap tw).length = 39 := by
  simp [cfg, u64s, u8s, hb, ht, ho]
theorem u64s_len (l : List UInt64) : (u64s l).length = l.length := by simp [u64s]
theorem cfg_blk (hb : bl.length = 14) {i : Nat} (hi : i < 14) : (cfg ch dao bl ti ao n cap tw)[0 + 1 + i * 1]? = some (.int .u64 ((bl.getD i 0).toNat : Int)) := by
  rw [show 0 + 1 + i * 1 = i + 1 by omega, cfg, List.getElem?_cons_succ, List.getElem?_append_left (by rw [u64s_len]; omega)]
  exact get64 (by omega)
theorem cfg_time (hb : bl.length = 14) (ht : ti.length = 2) {i : Nat} (hi : i < 2) : (cfg ch dao bl ti ao n cap tw)[0 + 15 + i * 1]? = some (.int .u64 ((ti.getD i 0).toNat : Int)) := by
  rw [show 0 + 15 + i * 1 = (i + 14) + 1 by omega, cfg, List.getElem?_cons_succ, List.getElem?_append_right (by rw [u64s_len]; omega), u64s_len, List.getElem?_append_left (by rw [u64s_len]; omega), show i + 14 - bl.length = i by omega]
  exact get64 (by omega)
theorem cfg_from (hb : bl.length = 14) (ht : ti.length = 2) : (cfg ch dao bl ti ao n cap tw)[0 + 18]? = some (.slice ao n cap) := by
  rw [show 0 + 18 = 17 + 1 from rfl, cfg, List.getElem?_cons_succ, List.getElem?_append_right (by rw [u64s_len]; omega), u64s_len, List.getElem?_append_right (by rw [u64s_len]; omega), u64s_len, hb, ht]
  rfl
theorem cfg_blks (hb : bl.length = 14) : ((cfg ch dao bl ti ao n cap tw).drop (0 + 1)).take 14 = u64s bl := by
  rw [cfg, List.drop_succ_cons, List.drop_zero, List.take_append_of_le_length (by rw [u64s_len]; omega), List.take_of_length_le (by rw [u64s_len]; omega)]
theorem cfg_times (hb : bl.length = 14) (ht : ti.length = 2) : ((cfg ch dao bl ti ao n cap tw).drop (0 + 15)).take 2 = u64s ti := by
  rw [cfg, show 0 + 15 = 14 + 1 from rfl, List.drop_succ_cons, List.drop_append_of_le_length (by rw [u64s_len]; omega), List.drop_of_length_le (by rw [u64s_len]; omega), List.nil_append, List.take_append_of_le_length (by rw [u64s_len]; omega), List.take_of_length_le (by rw [u64s_len]; omega)]
theorem cfg_all (hb : bl.length = 14) (ht : ti.length = 2) (ho : tw.length = 20) : ((cfg ch dao bl ti ao n cap tw).drop 0).take 39 = cfg ch dao bl ti ao n cap tw := by
  rw [List.drop_zero, List.take_of_length_le (by rw [cfg_len hb ht ho]; omega)]
theorem cfg_set (hb : bl.length = 14) (ht : ti.length = 2) {a' : Option Addr} {n' c' : Nat} : setL (cfg ch dao bl ti ao n cap tw) (0 + 18) [.slice a' n' c'] = cfg ch dao bl ti a' n' c' tw := by
  rw [setL, setL, cfg, show 0 + 18 = 17 + 1 from rfl, List.set_cons_succ, List.set_append_right _ _ (by rw [u64s_len]; omega), u64s_len, List.set_append_right _ _ (by rw [u64s_len]; omega), u64s_len, hb, ht]
  rfl
theorem cfg_one : (cfg ch dao bl ti ao n cap tw).all (·.oneCell') = true := by
  rw [List.all_eq_true]
  intro v hv
  simp only [cfg, List.mem_cons, List.mem_append] at hv
  rcases hv with rfl | hv | hv | rfl | rfl | hv
  · rfl
  · exact one_u64s _ v hv
  · exact one_u64s _ v hv
  · rfl
  · rfl
  · exact one_u8s _ v hv
end
/-- Rising. -/
def Srt (l : List UInt64) : Prop := ∀ i, 0 < i → i < l.length → (l.getD (i - 1) 0).toNat ≤ (l.getD i 0).toNat
theorem srt_more {l : List UInt64} {n : Nat} {i : Int} (hs : ∀ j : Nat, i < (j : Int) → 0 < j → j < n → (l.getD (j - 1) 0).toNat ≤ (l.getD j 0).toNat) (h0 : 0 < i) (h : ¬ (((l.getD i.toNat 0).toNat : Int) < ((l.getD (i.toNat - 1) 0).toNat : Int))) : ∀ j : Nat, i - 1 < (j : Int) → 0 < j → j < n → (l.getD (j - 1) 0).toNat ≤ (l.getD j 0).toNat := by
  intro j hj hp hn
  by_cases e : i < (j : Int)
  · exact hs j e hp hn
  · have : j = i.toNat := by omega
    subst this
    omega
theorem isNaN_f (x : UInt64) : Fn Tryd.prog 41 #[.int .u64 (x.toNat : Int)] [] [] (fun v L => v = .bool false ∧ L = []) := by
  refine Fn.enter (vs := [.int .u64 (x.toNat : Int)]) Tryd.func41 rfl rfl rfl ?_
  intro E R hR
  change At _ _ E [R] _
  refine At.seq fun K1 hk_1 => ?_
  refine At.region ?_
  refine op_assign (nxlf rfl) rfl rfl ?_
  refine At.opsNil ?_
  refine At.norm (hk_1 ?_)
  refine At.seq fun K2 hk_2 => ?_
  refine At.region ?_
  refine op_move (nxlf rfl) rfl rfl ?_
  refine op_move (nxlf rfl) rfl rfl ?_
  refine op_neq (nxlf rfl) rfl rfl rfl ?_
  refine op_assign (nxlf rfl) rfl rfl ?_
  refine At.opsNil ?_
  refine At.norm (hk_2 ?_)
  refine At.ret (?_)
  refine At.ret1 (L1 := []) rfl (.tmp rfl .nil) (.refl _) (.refl _) ?_
  exact ⟨by simp, rfl⟩
theorem Less_f (x y : UInt64) : Fn Tryd.prog 37 #[.int .u64 (x.toNat : Int), .int .u64 (y.toNat : Int)] [] [] (fun v L => v = .bool (decide ((x.toNat : Int) < (y.toNat : Int))) ∧ L = []) := by
  refine Fn.enter (vs := [.int .u64 (x.toNat : Int), .int .u64 (y.toNat : Int)]) Tryd.func37 rfl rfl rfl ?_
  intro E R hR
  change At _ _ E [R] _
  refine At.seq fun K1 hk_1 => ?_
  refine At.region ?_
  refine op_assign (nxlf rfl) rfl rfl ?_
  refine At.opsNil ?_
  refine At.norm (hk_1 ?_)
  refine At.seq fun K2 hk_2 => ?_
  refine At.region ?_
  refine op_move (nxlf rfl) rfl rfl ?_
  refine op_callA (nxla rfl) (.cons rfl .nil) (isNaN_f x) Tryd.func41 rfl rfl (by simp) rfl ?_
  rintro v6 L6 ⟨rfl, rfl⟩
  change At _ _ _ [R] _
  refine op_move (nxlf rfl) rfl rfl ?_
  refine op_skip rfl rfl rfl rfl rfl rfl rfl ?_
  refine op_skip rfl rfl rfl rfl rfl rfl rfl ?_
  refine op_skip rfl rfl rfl rfl rfl rfl rfl ?_
  refine op_pickF (nxlf rfl) rfl rfl rfl ?_
  refine op_move (nxlf rfl) rfl rfl ?_
  refine op_move (nxgf rfl rfl rfl rfl) rfl rfl ?_
  refine op_move (nxgf rfl rfl rfl rfl) rfl rfl ?_
  refine op_lss (nxgf rfl rfl rfl rfl) rfl rfl rfl ?_
  refine op_pickF (nxlf rfl) rfl rfl rfl ?_
  refine op_assign (nxlf rfl) rfl rfl ?_
  refine At.opsNil ?_
  refine At.norm (hk_2 ?_)
  refine At.ret (?_)
  refine At.ret1 (L1 := []) rfl (.tmp rfl .nil) (.refl _) (.refl _) ?_
  exact ⟨rfl, rfl⟩
theorem IsSorted_f {N : Heaplet} {ao : Option Addr} {n cap : Nat} {l : List UInt64} (h : RSl N 1 ao n cap (u64s l)) : Fn Tryd.prog 31 #[.slice ao n cap] [] [N] (fun v L => ∃ b, v = .bool b ∧ (b = true ↔ Srt l) ∧ L = []) := by
  have hlen := h.len64
  have hcap := h.cap63
  refine Fn.enter (vs := [.slice ao n cap]) Tryd.func31 rfl rfl rfl ?_
  intro E R hR
  have h := h.le (hR N (by simp))
  change At _ _ E [R] _
  refine At.seq fun K1 hk_1 => ?_
  refine At.region ?_
  refine op_assign (nxlf rfl) rfl rfl ?_
  refine At.opsNil ?_
  refine At.norm (hk_1 ?_)
  refine At.seq fun K2 hk_2 => ?_
  refine At.seq fun K3 hk_3 => ?_
  refine At.region ?_
  refine op_move (nxlf rfl) rfl rfl ?_
  refine op_lenS (nxlf rfl) se72 rfl rfl ?_
  refine op_subI (nxlf rfl) rfl rfl (by omega) (by omega) rfl ?_
  refine op_assign (nxlf rfl) rfl rfl ?_
  refine At.opsNil ?_
  refine At.norm (hk_3 ?_)
  refine At.block ?_
  refine At.loop (fun fr_ hp_ ms_ => ∃ (i : Int), fr_ = [(0, .slice ao n cap), (3, .int .i64 i)] ∧ hp_ = [R] ∧ i.toNat = ms_ ∧ (-1 ≤ i) ∧ (i < (n : Int)) ∧ (∀ j : Nat, i < (j : Int) → 0 < j → j < n → (l.getD (j - 1) 0).toNat ≤ (l.getD j 0).toNat)) ?_ (.refl _) ⟨(n : Int) - 1, rfl, rfl, rfl, by omega, by omega, fun j hj _ hn => by omega⟩ ?_
  · exact .cons (by first | exact lkI rfl (by omega) | rfl) (.cons (by first | exact lkI rfl (by omega) | rfl) .nil)
  rintro _ _ _ ⟨i, rfl, rfl, rfl, h1, h2, hs⟩
  refine At.seq fun K4 hk_4 => ?_
  refine At.seq fun K5 hk_5 => ?_
  refine At.region ?_
  refine op_move (nxlf rfl) rfl rfl ?_
  refine op_gtr (nxlf rfl) rfl rfl rfl ?_
  refine At.opsNil ?_
  refine At.norm (hk_5 ?_)
  refine At.condP rfl (fun c8 => ?_) (fun c8 => ?_)
  · refine At.skip ?_
    refine At.norm (hk_4 ?_)
    refine At.seq fun K6 hk_6 => ?_
    refine At.block ?_
    refine At.seq fun K7 hk_7 => ?_
    refine At.drawnS [R] [9] [] [0,1,2,3,4,5,6,7,8,9] (by kernel_rfl) (by kernel_rfl) (.refl _) ?_
    refine op_move (nxsf rfl rfl rfl) rfl rfl ?_
    refine op_move (nxsf rfl rfl rfl) rfl rfl ?_
    refine op_idx1 (nxsf rfl rfl rfl) se72 rfl rfl (by assumption) (show _ = (((i.toNat : Nat)) : Int) from by omega) (by omega) rfl ?_
    refine op_loadE (nxsf rfl rfl rfl) sc22 rfl (by assumption) (by first | exact get8 (by omega) | exact get64 (by omega) | exact get32 (by omega)) (by first | exact mem0 | exact mem1 | exact mem2 | exact mem3 | exact mem4 | exact mem5 | exact mem6 | exact mem7 | exact mem8 | exact mem9) rfl ?_
    refine op_move (nxsf rfl rfl rfl) rfl rfl ?_
    refine op_move (nxsf rfl rfl rfl) rfl rfl ?_
    refine op_subI (nxsf rfl rfl rfl) rfl rfl (by omega) (by omega) rfl ?_
    refine op_idx1 (nxsf rfl rfl rfl) se72 rfl rfl (by assumption) (show _ = (((i.toNat - 1 : Nat)) : Int) from by omega) (by omega) rfl ?_
    refine op_loadE (nxsf rfl rfl rfl) sc22 rfl (by assumption) (by first | exact get8 (by omega) | exact get64 (by omega) | exact get32 (by omega)) (by first | exact mem0 | exact mem1 | exact mem2 | exact mem3 | exact mem4 | exact mem5 | exact mem6 | exact mem7 | exact mem8 | exact mem9) rfl ?_
    refine op_callA (Nx.agree (nxsl rfl rfl rfl rfl)) (.cons rfl (.cons rfl .nil)) (Less_f (l.getD i.toNat 0) (l.getD (i.toNat - 1) 0)) Tryd.func37 rfl rfl (by simp) rfl ?_
    rintro v20 L20 ⟨rfl, rfl⟩
    change At _ _ _ [R] _
    refine At.sNil ?_
    refine At.norm (hk_7 ?_)
    refine At.condP rfl (fun c20 => ?_) (fun c20 => ?_)
    · refine At.seq fun K8 hk_8 => ?_
      refine At.region ?_
      refine op_assign (nxlf rfl) rfl rfl ?_
      refine At.opsNil ?_
      refine At.norm (hk_8 ?_)
      refine At.ret (At.inRet (At.thenRet (At.thenRet (At.inRet (At.thenRet (?_))))))
      refine At.ret1 (L1 := []) rfl (.tmp rfl .nil) (.refl _) (.refl _) ?_
      exact ⟨false, rfl, ⟨fun h => absurd h Bool.false_ne_true, fun h => by have := h i.toNat (by omega) (by omega); omega⟩, rfl⟩
    · refine At.skip ?_
      refine At.inNorm ?_
      refine At.norm (hk_6 ?_)
      refine At.region ?_
      refine op_move (nxlf rfl) rfl rfl ?_
      refine op_subI (nxlf rfl) rfl rfl (by omega) (by omega) rfl ?_
      refine op_assign (nxlf rfl) rfl rfl ?_
      refine At.opsNil ?_
      refine At.norm ?_
      refine At.back ?_ (.refl _) ⟨i - 1, rfl, rfl, rfl, by omega, by omega, srt_more hs (by omega) (by omega)⟩ ?_
      · exact .cons (by first | exact lkI rfl (by omega) | rfl) (.cons (by first | exact lkI rfl (by omega) | rfl) .nil)
      · omega
  · refine At.exit (At.thenExit (At.thenExit (At.inHit ?_)))
    refine At.norm (hk_2 ?_)
    refine At.seq fun K9 hk_9 => ?_
    refine At.region ?_
    refine op_assign (nxlf rfl) rfl rfl ?_
    refine At.opsNil ?_
    refine At.norm (hk_9 ?_)
    refine At.ret (?_)
    refine At.ret1 (L1 := []) rfl (.tmp rfl .nil) (.refl _) (.refl _) ?_
    exact ⟨true, rfl, ⟨fun _ j h0 hj => hs j (by omega) h0 (by omega), fun _ => rfl⟩, rfl⟩
/-! Addresses as keys. -/
theorem addr_keyed : Keyed Tryd.prog 34 := Keyed.of_law (deep_law_laid (m := 3) (by kernel_rfl) (by decide) (of_decide_eq_true (by kernel_rfl)) (by kernel_rfl) (by kernel_rfl))
end Go.Proofs.YtoabimaidpbkiaaDoor
/- fork.Check: is it a plan. No condition. -/
namespace Go.Proofs.YtoabimaidpbkiaaDoor
set_option linter.unusedVariables false
set_option linter.unusedSimpArgs false
open Go Go.RowKit
open Go.Maps (Keyed)
theorem u8s_len (l : List UInt8) : (u8s l).length = l.length := by simp [u8s]
theorem u8_wf (x : UInt8) : (Lit.int .u8 (x.toNat : Int)).wf = true := by
  have := x.toNat_lt
  simp [Lit.wf, IntKind.min, IntKind.max, IntKind.signed, IntKind.bits]
  omega
theorem keyLits_byte {d : Nat} (x : UInt8) : Tryd.prog.keyLits (d + 1) 5 [.int .u8 (x.toNat : Int)] = some [.int .u8 (x.toNat : Int)] := by
  simp [Program.keyLits, Tryd.underlying5, u8_wf]
theorem keyLits_addr {d : Nat} (cs : List Value) : Tryd.prog.keyLits (d + 1) 34 cs = if cs.length = Tryd.prog.cellsOf 34 then ((List.range 20).mapM fun i => Tryd.prog.keyLits d 5 ((cs.drop (i * Tryd.prog.cellsOf 5)).take (Tryd.prog.cellsOf 5))).map List.flatten else none := by
  simp only [Program.keyLits, Tryd.underlying34]
theorem cell_one {a : List UInt8} {i : Nat} (h : i < a.length) : ((u8s a).drop (i * 1)).take 1 = [.int .u8 ((a.getD i 0).toNat : Int)] := by
  have := get8 h
  obtain ⟨h1, h2⟩ := List.getElem?_eq_some_iff.1 this
  rw [Nat.mul_one, List.drop_eq_getElem_cons h1, List.take_succ_cons, List.take_zero, h2]
set_option maxRecDepth 100000 in
theorem addr_key {a : List UInt8} (h : a.length = 20) : ∃ k, keyOf Tryd.prog 34 (.agg (u8s a).toArray) = some k := by
  obtain ⟨m, hm⟩ : ∃ m, Tryd.prog.types.size = m + 1 := ⟨Tryd.prog.types.size - 1, by have : 0 < Tryd.prog.types.size := of_decide_eq_true (by kernel_rfl); omega⟩
  have hc : Tryd.prog.cellsOf 34 = 20 := by kernel_rfl
  have hc1 : Tryd.prog.cellsOf 5 = 1 := by kernel_rfl
  have one : ∀ i, i < 20 → Tryd.prog.keyLits (m + 1) 5 (((u8s a).drop (i * 1)).take 1) = some [.int .u8 ((a.getD i 0).toNat : Int)] := fun i hi => by
    rw [cell_one (by omega)]
    exact keyLits_byte _
  have all : ∀ is : List Nat, (∀ i ∈ is, i < 20) → ∃ ls, (is.mapM fun i => Tryd.prog.keyLits (m + 1) 5 (((u8s a).drop (i * 1)).take 1)) = some ls := by
    intro is
    induction is with
    | nil => exact fun _ => ⟨[], rfl⟩
    | cons i t ih =>
      intro hi
      obtain ⟨ls, hls⟩ := ih fun j hj => hi j (List.mem_cons_of_mem _ hj)
      refine ⟨[.int .u8 ((a.getD i 0).toNat : Int)] :: ls, ?_⟩
      rw [List.mapM_cons, one i (hi i (List.mem_cons_self ..)), hls]
      rfl
  obtain ⟨ls, hls⟩ := all (List.range 20) fun i hi => List.mem_range.1 hi
  have hk : Tryd.prog.keyLits (Tryd.prog.types.size + 1) 34 (u8s a) = some ls.flatten := by
    rw [hm, keyLits_addr, if_pos (by rw [u8s_len, hc, h]), hc1, hls]
    rfl
  refine ⟨.string (keyBytes ls.flatten), ?_⟩
  unfold keyOf
  rw [Tryd.underlying34]
  simp only
  rw [if_pos]
  · show (Tryd.prog.keyLits (Tryd.prog.types.size + 1) 34 (u8s a)).map _ = _
    rw [hk]; rfl
  · rw [show Tryd.prog.keyType 34 = true from by kernel_rfl, Bool.true_and]
    simp only [Value.formed, Tryd.underlying34]
    rw [hc]
    simp [u8s, h]
noncomputable def keyA (a : List UInt8) : Lit := (keyOf Tryd.prog 34 (.agg (u8s a).toArray)).getD (.bool true)
theorem keyA_spec {a : List UInt8} (h : a.length = 20) : keyOf Tryd.prog 34 (.agg (u8s a).toArray) = some (keyA a) := by
  obtain ⟨k, hk⟩ := addr_key h
  rw [keyA, hk]; rfl
theorem u8s_inj {a b : List UInt8} (h : u8s a = u8s b) : a = b := by
  have hl : a.length = b.length := by rw [← u8s_len a, h, u8s_len]
  apply List.ext_getElem hl
  intro i h1 h2
  have e1 := get8 (bs := a) (j := i) h1
  have e2 := get8 (bs := b) (j := i) h2
  rw [h, e2] at e1
  simp only [Option.some.injEq, Value.int.injEq, true_and] at e1
  rw [List.getD_eq_getElem?_getD, List.getD_eq_getElem?_getD, List.getElem?_eq_getElem h1, List.getElem?_eq_getElem h2, Option.getD_some, Option.getD_some] at e1
  exact UInt8.toNat_inj.1 (by omega)
theorem agg_inj {a b : List Value} (h : Value.agg a.toArray = Value.agg b.toArray) : a = b := by
  injection h with h
  exact List.toArray_inj h
theorem keyA_inj {a b : List UInt8} (ha : a.length = 20) (hb : b.length = 20) (h : keyA a = keyA b) : a = b := by
  have := addr_keyed.inj (keyA_spec ha) (by rw [h]; exact keyA_spec hb)
  exact u8s_inj (agg_inj this)
set_option maxRecDepth 100000 in
theorem keyA_key {a : List UInt8} (ha : a.length = 20) : WideAt.IsKeyLit (keyA a) := addr_keyed.key (keyA_spec ha)
noncomputable def keysTo (fr : List (List UInt8)) (j : Nat) : List Lit := ((fr.take j).map keyA).reverse
theorem keysTo_succ {fr : List (List UInt8)} {j : Nat} {a : List UInt8} (h : fr[j]? = some a) : keysTo fr (j + 1) = keyA a :: keysTo fr j := by
  obtain ⟨hl, rfl⟩ := List.getElem?_eq_some_iff.1 h
  rw [keysTo, keysTo, List.take_succ_eq_append_getElem hl, List.map_append, List.reverse_append]
  rfl
theorem nodup_rev (l : List Lit) : l.reverse.Nodup ↔ l.Nodup := by
  unfold List.Nodup
  rw [List.pairwise_reverse]
  exact ⟨fun h => h.imp fun e => e.symm, fun h => h.imp fun e => e.symm⟩
set_option maxRecDepth 100000 in
theorem keys_nodup {fr : List (List UInt8)} (h20 : ∀ a ∈ fr, a.length = 20) : Maps.size (setOf (keysTo fr fr.length)) = fr.length ↔ fr.Nodup := by
  have hk : ∀ k ∈ keysTo fr fr.length, WideAt.IsKeyLit k := fun k hk => by
    rw [keysTo, List.take_length] at hk
    simp only [List.mem_reverse, List.mem_map] at hk
    obtain ⟨a, ha, rfl⟩ := hk
    exact keyA_key (h20 a ha)
  have h := (setOf_laws _ hk).2.2.2.2
  have hl : (keysTo fr fr.length).length = fr.length := by simp [keysTo]
  rw [hl] at h
  rw [h, keysTo, List.take_length, nodup_rev]
  clear h hl hk
  induction fr with
  | nil => simp
  | cons a t ih =>
    have ih' : (t.map keyA).Nodup ↔ t.Nodup := ih fun b hb => h20 b (List.mem_cons_of_mem _ hb)
    rw [List.map_cons, List.nodup_cons, List.nodup_cons]
    refine and_congr ?_ ih'
    refine not_congr ⟨fun hm => ?_, fun hm => List.mem_map_of_mem hm⟩
    obtain ⟨b, hb, e⟩ := List.mem_map.1 hm
    have := keyA_inj (h20 b (List.mem_cons_of_mem _ hb)) (h20 a (List.mem_cons_self ..)) e
    rw [← this]; exact hb
theorem addr_at {fr : List (List UInt8)} {j : Nat} {a : List UInt8} (h20 : ∀ a ∈ fr, a.length = 20) (h : fr[j]? = some a) : ((fr.flatMap u8s).drop (j * 20)).take 20 = u8s a := by
  induction fr generalizing j with
  | nil => simp at h
  | cons b t ih =>
    have hb : (u8s b).length = 20 := by rw [u8s_len]; exact h20 b (List.mem_cons_self ..)
    cases j with
    | zero =>
      simp only [List.getElem?_cons_zero, Option.some.injEq] at h
      subst h
      rw [Nat.zero_mul, List.drop_zero, List.flatMap_cons, List.take_append_of_le_length (by omega), List.take_of_length_le (by omega)]
    | succ j =>
      have := ih (j := j) (fun c hc => h20 c (List.mem_cons_of_mem _ hc)) (by simpa using h)
      rw [List.flatMap_cons, show (j + 1) * 20 = (u8s b).length + j * 20 by omega, List.drop_append, List.drop_eq_nil_of_le (by omega), List.nil_append, Nat.add_sub_cancel_left]
      exact this
/-- Is it a plan. -/
def GoodC (bl ti : List UInt64) (fr : List (List UInt8)) : Prop := (bl.getD 0 0).toNat = 0 ∧ Srt bl ∧ Srt ti ∧ fr.Nodup
open Classical in
noncomputable def chk (p : Prop) : Int := if p then 0 else 10
theorem chk_t {p : Prop} (h : p) : chk p = 0 := by rw [chk, if_pos h]
theorem chk_f {p : Prop} (h : ¬ p) : chk p = 10 := by rw [chk, if_neg h]
end Go.Proofs.YtoabimaidpbkiaaDoor
/- fork.Check and the reference's: a plan, or none. No condition. -/
namespace Go.Proofs.YtoabimaidpbkiaaDoor
set_option linter.unusedVariables false
set_option linter.unusedSimpArgs false
open Go Go.RowKit
open Go.Maps (Keyed)
theorem get_lt' {α : Type} {xs : List α} {i : Nat} (h : i < xs.length) : ∃ x, xs[i]? = some x := ⟨_, List.getElem?_eq_getElem h⟩
theorem not_false_b {b : Bool} (h : (!b) = false) : b = true := by cases b <;> simp_all
theorem mem_of_get {α : Type} {xs : List α} {i : Nat} {x : α} (h : xs[i]? = some x) : x ∈ xs := by
  obtain ⟨h1, rfl⟩ := List.getElem?_eq_some_iff.1 h
  exact List.getElem_mem h1
theorem take20 {l : List Value} (h : l.length = 20) : (l.drop 0).take 20 = l := by rw [List.drop_zero, List.take_of_length_le (by omega)]
theorem one_all (a : List UInt8) : (u8s a).all (·.oneCell') = true := by
  rw [List.all_eq_true]
  exact fun v hv => one_u8s a v hv
/-- A part of a block as a slice. -/
theorem part64 {N : Heaplet} {b o k : Nat} {e : TypeId} {cs : List Value} {l : List UInt64} (h : Blk N b e cs) (hd : (cs.drop o).take k = u64s l) (hk : l.length = k) (hm : k ≤ 9223372036854775807) : RSl N 1 (some ⟨b, o, none⟩) k k (u64s l) := by
  refine ⟨by rw [u64s_len, hk, Nat.mul_one], Nat.le_refl _, hm, fun h0 => ⟨b, o, rfl, ?_⟩⟩
  have e := h.rng.sub (o := o) (ds := u64s l) fun i hi => by
    have h2 : ((cs.drop o).take k)[i]? = some (u64s l)[i] := by rw [hd]; exact List.getElem?_eq_getElem hi
    rw [List.getElem?_take] at h2
    split at h2
    · rwa [List.getElem?_drop] at h2
    · cases h2
  rwa [Nat.zero_add] at e
section
variable {N : Heaplet} {ch dao : UInt64} {bl ti : List UInt64} {ao : Option Addr} {n cap : Nat} {tw : List UInt8} {fr : List (List UInt8)}
set_option maxRecDepth 100000 in
set_option maxHeartbeats 2000000 in
theorem FCheck_f (hb : bl.length = 14) (ht : ti.length = 2) (ho : tw.length = 20) (hA : RSl N 20 ao n cap (fr.flatMap u8s)) (hfn : fr.length = n) (h20 : ∀ a ∈ fr, a.length = 20) : Fn Tryd.prog 20 #[.agg (cfg ch dao bl ti ao n cap tw).toArray] [] [N] (fun v L => v = .int .i64 (chk (GoodC bl ti fr)) ∧ L = []) := by
  have hcap := hA.cap63
  have hkn := keys_nodup h20
  refine Fn.enter (vs := [.agg (cfg ch dao bl ti ao n cap tw).toArray]) Tryd.func20 rfl rfl rfl ?_
  intro E R hR
  have hA := hA.le (hR N (by simp))
  change At _ _ E [R] _
  refine At.seq fun K1 hk_1 => ?_
  refine At.region ?_
  refine op_box (nxla rfl) rfl rfl rfl (fun N1 b1 B1 => ?_)
  change Blk N1 b1 _ (cfg ch dao bl ti ao n cap tw) at B1
  refine op_assign (nxlf rfl) rfl rfl ?_
  refine At.opsNil ?_
  refine At.norm (hk_1 ?_)
  refine At.seq fun K2 hk_2 => ?_
  refine At.region ?_
  refine op_makeMap 34 (nxla rfl) rfl (fun N6 b6 m6 => ?_)
  refine op_assign (nxlf rfl) rfl rfl ?_
  refine At.opsNil ?_
  refine At.norm (hk_2 ?_)
  refine At.seq fun K3 hk_3 => ?_
  refine At.seq fun K4 hk_4 => ?_
  refine At.region ?_
  refine op_fieldAddr (nxlf rfl) fl42_4 rfl rfl ?_
  refine op_loadB (nxlf rfl) sc40 rfl B1 (by first | rfl | first | exact cfg_from hb ht | exact cfg_blk (i := 0) hb (by omega)) mem1 rfl ?_
  refine op_lenS (nxlf rfl) se40 rfl rfl ?_
  refine op_move (nxlf rfl) rfl rfl ?_
  refine At.opsNil ?_
  refine At.norm (hk_4 ?_)
  refine At.block ?_
  refine At.perm sel2 ?_
  refine At.perm sel1 ?_
  refine At.perm sel2 ?_
  refine At.loop (fun fr_ hp_ ms_ => ∃ (j : Nat) (N6 : Heaplet), fr_ = [(1, .pointer (some ⟨b1, 0, none⟩)), (3, .map (some b6)), (8, .slice ao n cap), (9, .int .i64 (n : Int)), (10, .int .i64 (j : Int))] ∧ hp_ = [N1, N6, R] ∧ n - j = ms_ ∧ (j ≤ n) ∧ (MapN Tryd.prog 34 N6 b6 j (setOf (keysTo fr j)))) ?_ (.refl _) ⟨0, N6, rfl, rfl, rfl, by omega, m6⟩ ?_
  · exact .cons (by first | exact lkI rfl (by omega) | rfl) (.cons (by first | exact lkI rfl (by omega) | rfl) (.cons (by first | exact lkI rfl (by omega) | rfl) (.cons (by first | exact lkI rfl (by omega) | rfl) (.cons (by first | exact lkI rfl (by omega) | rfl) .nil))))
  rintro _ _ _ ⟨j, N6, rfl, rfl, rfl, hj, m6⟩
  refine At.seq fun K5 hk_5 => ?_
  refine At.region ?_
  refine op_lss (nxlf rfl) rfl rfl rfl ?_
  refine At.opsNil ?_
  refine At.norm (hk_5 ?_)
  refine At.seq fun K6 hk_6 => ?_
  refine At.condP rfl (fun c11 => ?_) (fun c11 => ?_)
  · obtain ⟨a, ha⟩ := get_lt' (xs := fr) (i := j) (by omega)
    have hal := h20 a (mem_of_get ha)
    have hul : (u8s a).length = 20 := by rw [u8s_len, hal]
    refine At.skip ?_
    refine At.norm (hk_6 ?_)
    refine At.seq fun K7 hk_7 => ?_
    refine At.block ?_
    refine At.seq fun K8 hk_8 => ?_
    refine At.region ?_
    refine op_idxE (nxlf rfl) se40 rfl rfl hA (show _ = (((j : Nat)) : Int) from by omega) (by omega) rfl ?_
    refine op_loadAggE (ds := u8s a) (nxlf rfl) ag34 rfl hA (addr_at h20 ha) hul (by omega) mem2 rfl ?_
    refine op_alloc (nxla rfl) ze34 rfl (fun N5 b5 B5 => ?_)
    change Blk N5 b5 _ [.int .u8 0, .int .u8 0, .int .u8 0, .int .u8 0, .int .u8 0, .int .u8 0, .int .u8 0, .int .u8 0, .int .u8 0, .int .u8 0, .int .u8 0, .int .u8 0, .int .u8 0, .int .u8 0, .int .u8 0, .int .u8 0, .int .u8 0, .int .u8 0, .int .u8 0, .int .u8 0] at B5
    refine op_store (nxl rfl) sz34 rfl rfl (cells_agg (u8s a)) hul (one_all a) B5 (by rw [hul]; decide) sel0 (fun N5 B5 => ?_)
    rw [setL_all hul rfl] at B5
    refine At.opsNil ?_
    refine At.norm (hk_8 ?_)
    refine At.region ?_
    refine op_move (nxlf rfl) rfl rfl ?_
    refine op_loadAggB (ds := u8s a) (nxlf rfl) ag34 rfl B5 (take20 hul) hul mem0 rfl ?_
    refine op_build (out := []) (nxlf rfl) ze70 pl70 .nil rfl rfl ?_
    refine op_mapUpdate (nxl rfl) addr_keyed Tryd.underlying69 rfl rfl rfl m6 (by unfold maxLen; omega) (keyA_spec hal) sel2 (fun N6 m6 => ?_)
    refine At.opsNil ?_
    refine At.inNorm ?_
    refine At.norm (hk_7 ?_)
    refine At.region ?_
    refine op_addI (nxlf rfl) rfl rfl (by omega) (by omega) rfl ?_
    refine op_move (nxlf rfl) rfl rfl ?_
    refine At.opsNil ?_
    refine At.norm ?_
    refine At.sub (L' := [N6, N1, R]) (.cons_cons _ (.cons _ (.cons_cons _ (.cons_cons _ (.slnil))))) ?_
    refine At.perm sel2 ?_
    refine At.perm sel1 ?_
    refine At.perm sel2 ?_
    refine At.back ?_ (.refl _) ⟨j + 1, N6, rfl, rfl, rfl, by omega, by rw [keysTo_succ ha, setOf]; exact m6⟩ ?_
    · exact .cons (by first | exact lkI rfl (by omega) | rfl) (.cons (by first | exact lkI rfl (by omega) | rfl) (.cons (by first | exact lkI rfl (by omega) | rfl) (.cons (by first | exact lkI rfl (by omega) | rfl) (.cons (by first | exact lkI rfl (by omega) | rfl) .nil))))
    · omega
  · refine At.exit (At.thenExit (At.thenExit (At.inHit ?_)))
    refine At.norm (hk_3 ?_)
    refine At.seq fun K9 hk_9 => ?_
    refine At.seq fun K10 hk_10 => ?_
    refine At.region ?_
    have hjn : j = n := by omega
    subst hjn
    have sB := part64 (o := 0 + 1) B1 (cfg_blks hb) hb (by omega)
    have sT := part64 (o := 0 + 15) B1 (cfg_times hb ht) ht (by omega)
    refine op_fieldAddr (nxlf rfl) fl42_1 rfl rfl ?_
    refine op_idxA (nxlf rfl) ae38 rfl rfl (show _ = (((0 : Nat)) : Int) from by omega) (by omega) rfl ?_
    refine op_loadB (nxlf rfl) sc22 rfl B1 (by first | exact get64A (by omega) | rfl | first | exact cfg_from hb ht | exact cfg_blk (i := 0) hb (by omega)) mem0 rfl ?_
    refine op_neq (nxlf rfl) rfl rfl rfl ?_
    refine op_move (nxlf rfl) rfl rfl ?_
    refine At.partP (d := 22) rfl (fun g22 => ?_) (fun g22 => ?_)
    · refine op_skip rfl rfl rfl rfl rfl rfl rfl ?_
      refine op_skip rfl rfl rfl rfl rfl rfl rfl ?_
      refine op_skip rfl rfl rfl rfl rfl rfl rfl ?_
      refine op_skip rfl rfl rfl rfl rfl rfl rfl ?_
      refine op_pickT (nxlf rfl) rfl rfl rfl ?_
      refine op_move (nxlf rfl) rfl rfl ?_
      refine op_skip rfl rfl rfl rfl rfl rfl rfl ?_
      refine op_skip rfl rfl rfl rfl rfl rfl rfl ?_
      refine op_skip rfl rfl rfl rfl rfl rfl rfl ?_
      refine op_skip rfl rfl rfl rfl rfl rfl rfl ?_
      refine op_pickT (nxlf rfl) rfl rfl rfl ?_
      refine op_move (nxlf rfl) rfl rfl ?_
      refine op_skip rfl rfl rfl rfl rfl rfl rfl ?_
      refine op_skip rfl rfl rfl rfl rfl rfl rfl ?_
      refine op_skip rfl rfl rfl rfl rfl rfl rfl ?_
      refine op_skip rfl rfl rfl rfl rfl rfl rfl ?_
      refine op_skip rfl rfl rfl rfl rfl rfl rfl ?_
      refine op_skip rfl rfl rfl rfl rfl rfl rfl ?_
      refine op_pickT (nxlf rfl) rfl rfl rfl ?_
      refine At.opsNil ?_
      refine At.norm (hk_10 ?_)
      refine At.condT rfl ?_
      refine At.seq fun K11 hk_11 => ?_
      refine At.region ?_
      refine op_assign (nxlf rfl) rfl rfl ?_
      refine At.opsNil ?_
      refine At.norm (hk_11 ?_)
      refine At.ret (At.thenRet (?_))
      refine At.sub (L' := [R]) (.cons _ (.cons _ (.cons_cons _ (.slnil)))) ?_
      refine At.ret1 (L1 := []) rfl (.tmp rfl .nil) (.refl _) (.refl _) ?_
      refine ⟨?_, rfl⟩
      rw [← hfn] at *
      first
        | (rw [chk_f fun h => g22 (by rw [h.1]; rfl)]; done)
        | (rw [chk_f fun h => absurd ((congrArg not (h25.2 h.2.1)).symm.trans g28) (by decide)]; done)
        | (rw [chk_f fun h => absurd ((congrArg not (h31.2 h.2.2.1)).symm.trans g34) (by decide)]; done)
        | (rw [chk_f fun h => c41 (congrArg Int.ofNat (hkn.2 h.2.2.2))]; done)
        | (rw [chk_t ⟨by omega, h25.1 (not_false_b g28), h31.1 (not_false_b g34), hkn.1 (by omega)⟩]; done)
    · refine op_fieldAddr (nxgf rfl rfl rfl rfl) fl42_1 rfl rfl ?_
      refine op_sliceA (nxgf rfl rfl rfl rfl) ae38 rfl .none .none .none (by omega) (by omega) (by omega) (by simp) rfl ?_
      refine op_callA (nxga rfl rfl rfl rfl) (.cons rfl .nil) (IsSorted_f sB) Tryd.func31 rfl rfl (by simp) rfl ?_
      rintro v25 L25 ⟨b25, rfl, h25, rfl⟩
      change At _ _ _ [N1, N6, R] _
      refine op_not (nxgf rfl rfl rfl rfl) rfl rfl ?_
      refine op_pickF (nxlf rfl) rfl rfl rfl ?_
      refine op_move (nxlf rfl) rfl rfl ?_
      refine At.part (d := 28) rfl (fun g28 => ?_) (fun g28 => ?_)
      · refine op_skip rfl rfl rfl rfl rfl rfl rfl ?_
        refine op_skip rfl rfl rfl rfl rfl rfl rfl ?_
        refine op_skip rfl rfl rfl rfl rfl rfl rfl ?_
        refine op_skip rfl rfl rfl rfl rfl rfl rfl ?_
        refine op_pickT (nxlf rfl) rfl rfl rfl ?_
        refine op_move (nxlf rfl) rfl rfl ?_
        refine op_skip rfl rfl rfl rfl rfl rfl rfl ?_
        refine op_skip rfl rfl rfl rfl rfl rfl rfl ?_
        refine op_skip rfl rfl rfl rfl rfl rfl rfl ?_
        refine op_skip rfl rfl rfl rfl rfl rfl rfl ?_
        refine op_skip rfl rfl rfl rfl rfl rfl rfl ?_
        refine op_skip rfl rfl rfl rfl rfl rfl rfl ?_
        refine op_pickT (nxlf rfl) rfl rfl rfl ?_
        refine At.opsNil ?_
        refine At.norm (hk_10 ?_)
        refine At.condT rfl ?_
        refine At.seq fun K12 hk_12 => ?_
        refine At.region ?_
        refine op_assign (nxlf rfl) rfl rfl ?_
        refine At.opsNil ?_
        refine At.norm (hk_12 ?_)
        refine At.ret (At.thenRet (?_))
        refine At.sub (L' := [R]) (.cons _ (.cons _ (.cons_cons _ (.slnil)))) ?_
        refine At.ret1 (L1 := []) rfl (.tmp rfl .nil) (.refl _) (.refl _) ?_
        refine ⟨?_, rfl⟩
        rw [← hfn] at *
        first
          | (rw [chk_f fun h => g22 (by rw [h.1]; rfl)]; done)
          | (rw [chk_f fun h => absurd ((congrArg not (h25.2 h.2.1)).symm.trans g28) (by decide)]; done)
          | (rw [chk_f fun h => absurd ((congrArg not (h31.2 h.2.2.1)).symm.trans g34) (by decide)]; done)
          | (rw [chk_f fun h => c41 (congrArg Int.ofNat (hkn.2 h.2.2.2))]; done)
          | (rw [chk_t ⟨by omega, h25.1 (not_false_b g28), h31.1 (not_false_b g34), hkn.1 (by omega)⟩]; done)
      · refine op_fieldAddr (nxgf rfl rfl rfl rfl) fl42_2 rfl rfl ?_
        refine op_sliceA (nxgf rfl rfl rfl rfl) ae39 rfl .none .none .none (by omega) (by omega) (by omega) (by simp) rfl ?_
        refine op_callA (nxga rfl rfl rfl rfl) (.cons rfl .nil) (IsSorted_f sT) Tryd.func31 rfl rfl (by simp) rfl ?_
        rintro v31 L31 ⟨b31, rfl, h31, rfl⟩
        change At _ _ _ [N1, N6, R] _
        refine op_not (nxgf rfl rfl rfl rfl) rfl rfl ?_
        refine op_pickF (nxlf rfl) rfl rfl rfl ?_
        refine op_move (nxlf rfl) rfl rfl ?_
        refine At.part (d := 34) rfl (fun g34 => ?_) (fun g34 => ?_)
        · refine op_skip rfl rfl rfl rfl rfl rfl rfl ?_
          refine op_skip rfl rfl rfl rfl rfl rfl rfl ?_
          refine op_skip rfl rfl rfl rfl rfl rfl rfl ?_
          refine op_skip rfl rfl rfl rfl rfl rfl rfl ?_
          refine op_skip rfl rfl rfl rfl rfl rfl rfl ?_
          refine op_skip rfl rfl rfl rfl rfl rfl rfl ?_
          refine op_pickT (nxlf rfl) rfl rfl rfl ?_
          refine At.opsNil ?_
          refine At.norm (hk_10 ?_)
          refine At.condT rfl ?_
          refine At.seq fun K13 hk_13 => ?_
          refine At.region ?_
          refine op_assign (nxlf rfl) rfl rfl ?_
          refine At.opsNil ?_
          refine At.norm (hk_13 ?_)
          refine At.ret (At.thenRet (?_))
          refine At.sub (L' := [R]) (.cons _ (.cons _ (.cons_cons _ (.slnil)))) ?_
          refine At.ret1 (L1 := []) rfl (.tmp rfl .nil) (.refl _) (.refl _) ?_
          refine ⟨?_, rfl⟩
          rw [← hfn] at *
          first
            | (rw [chk_f fun h => g22 (by rw [h.1]; rfl)]; done)
            | (rw [chk_f fun h => absurd ((congrArg not (h25.2 h.2.1)).symm.trans g28) (by decide)]; done)
            | (rw [chk_f fun h => absurd ((congrArg not (h31.2 h.2.2.1)).symm.trans g34) (by decide)]; done)
            | (rw [chk_f fun h => c41 (congrArg Int.ofNat (hkn.2 h.2.2.2))]; done)
            | (rw [chk_t ⟨by omega, h25.1 (not_false_b g28), h31.1 (not_false_b g34), hkn.1 (by omega)⟩]; done)
        · refine op_move (nxgf rfl rfl rfl rfl) rfl rfl ?_
          refine op_lenM (nxgf rfl rfl rfl rfl) Tryd.underlying69 rfl m6 mem1 rfl ?_
          refine op_fieldAddr (nxgf rfl rfl rfl rfl) fl42_4 rfl rfl ?_
          refine op_loadB (nxgf rfl rfl rfl rfl) sc40 rfl B1 (by first | rfl | first | exact cfg_from hb ht | exact cfg_blk (i := 0) hb (by omega)) mem0 rfl ?_
          refine op_lenS (nxgf rfl rfl rfl rfl) se40 rfl rfl ?_
          refine op_neq (nxgf rfl rfl rfl rfl) rfl rfl rfl ?_
          refine op_pickF (nxlf rfl) rfl rfl rfl ?_
          refine At.opsNil ?_
          refine At.norm (hk_10 ?_)
          refine At.condP rfl (fun c41 => ?_) (fun c41 => ?_)
          · refine At.seq fun K14 hk_14 => ?_
            refine At.region ?_
            refine op_assign (nxlf rfl) rfl rfl ?_
            refine At.opsNil ?_
            refine At.norm (hk_14 ?_)
            refine At.ret (At.thenRet (?_))
            refine At.sub (L' := [R]) (.cons _ (.cons _ (.cons_cons _ (.slnil)))) ?_
            refine At.ret1 (L1 := []) rfl (.tmp rfl .nil) (.refl _) (.refl _) ?_
            refine ⟨?_, rfl⟩
            rw [← hfn] at *
            first
              | (rw [chk_f fun h => g22 (by rw [h.1]; rfl)]; done)
              | (rw [chk_f fun h => absurd ((congrArg not (h25.2 h.2.1)).symm.trans g28) (by decide)]; done)
              | (rw [chk_f fun h => absurd ((congrArg not (h31.2 h.2.2.1)).symm.trans g34) (by decide)]; done)
              | (rw [chk_f fun h => c41 (congrArg Int.ofNat (hkn.2 h.2.2.2))]; done)
              | (rw [chk_t ⟨by omega, h25.1 (not_false_b g28), h31.1 (not_false_b g34), hkn.1 (by omega)⟩]; done)
          · refine At.skip ?_
            refine At.norm (hk_9 ?_)
            refine At.seq fun K15 hk_15 => ?_
            refine At.region ?_
            refine op_assign (nxlf rfl) rfl rfl ?_
            refine At.opsNil ?_
            refine At.norm (hk_15 ?_)
            refine At.ret (?_)
            refine At.sub (L' := [R]) (.cons _ (.cons _ (.cons_cons _ (.slnil)))) ?_
            refine At.ret1 (L1 := []) rfl (.tmp rfl .nil) (.refl _) (.refl _) ?_
            refine ⟨?_, rfl⟩
            rw [← hfn] at *
            first
              | (rw [chk_f fun h => g22 (by rw [h.1]; rfl)]; done)
              | (rw [chk_f fun h => absurd ((congrArg not (h25.2 h.2.1)).symm.trans g28) (by decide)]; done)
              | (rw [chk_f fun h => absurd ((congrArg not (h31.2 h.2.2.1)).symm.trans g34) (by decide)]; done)
              | (rw [chk_f fun h => c41 (congrArg Int.ofNat (hkn.2 h.2.2.2))]; done)
              | (rw [chk_t ⟨by omega, h25.1 (not_false_b g28), h31.1 (not_false_b g34), hkn.1 (by omega)⟩]; done)
end
end Go.Proofs.YtoabimaidpbkiaaDoor
/- The reference's Check; the fork at a block, in the program and in the reference. No condition. -/
namespace Go.Proofs.YtoabimaidpbkiaaDoor
set_option linter.unusedVariables false
set_option linter.unusedSimpArgs false
open Go Go.RowKit
theorem below_succ {P : Nat → Prop} {i : Nat} (h : ∀ j, j < i → P j) (hi : P i) : ∀ j, j < i + 1 → P j := by
  intro j hj
  rcases Nat.lt_or_ge j i with h1 | h1
  · exact h j h1
  · obtain rfl : j = i := by omega
    exact hi
theorem srt_two {ti : List UInt64} (ht : ti.length = 2) : Srt ti ↔ (ti.getD 0 0).toNat ≤ (ti.getD 1 0).toNat := by
  constructor
  · intro h; exact h 1 (by omega) (by omega)
  · intro h i h0 hi
    obtain rfl : i = 1 := by omega
    exact h
theorem nodup_of {fr : List (List UInt8)} (h : ∀ (i k : Nat) (a b : List UInt8), k < i → fr[i]? = some a → fr[k]? = some b → a ≠ b) : fr.Nodup := by
  unfold List.Nodup
  rw [List.pairwise_iff_getElem]
  intro k i hk hi hki e
  exact h i k fr[i] fr[k] hki (List.getElem?_eq_getElem hi) (List.getElem?_eq_getElem hk) e.symm
theorem nodup_at {fr : List (List UInt8)} (h : fr.Nodup) {i k : Nat} {a b : List UInt8} (hki : k < i) (hi : fr[i]? = some a) (hk : fr[k]? = some b) : a ≠ b := by
  unfold List.Nodup at h
  rw [List.pairwise_iff_getElem] at h
  obtain ⟨h1, rfl⟩ := List.getElem?_eq_some_iff.1 hi
  obtain ⟨h2, rfl⟩ := List.getElem?_eq_some_iff.1 hk
  exact (h k i h2 h1 hki).symm
section
variable {N : Heaplet} {ch dao : UInt64} {bl ti : List UInt64} {ao : Option Addr} {n cap : Nat} {tw : List UInt8} {fr : List (List UInt8)}
set_option maxRecDepth 100000 in
set_option maxHeartbeats 2000000 in
theorem rCheck_f (hb : bl.length = 14) (ht : ti.length = 2) (ho : tw.length = 20) (hA : RSl N 20 ao n cap (fr.flatMap u8s)) (hfn : fr.length = n) (h20 : ∀ a ∈ fr, a.length = 20) : Fn Tryd.prog 21 #[.agg (cfg ch dao bl ti ao n cap tw).toArray] [] [N] (fun v L => v = .int .i64 (chk (GoodC bl ti fr)) ∧ L = []) := by
  have hcap := hA.cap63
  have h2 := srt_two ht
  refine Fn.enter (vs := [.agg (cfg ch dao bl ti ao n cap tw).toArray]) Tryd.func21 rfl rfl rfl ?_
  intro E R hR
  have hA := hA.le (hR N (by simp))
  change At _ _ E [R] _
  refine At.seq fun K1 hk_1 => ?_
  refine At.region ?_
  refine op_box (nxla rfl) rfl rfl rfl (fun N1 b1 B1 => ?_)
  change Blk N1 b1 _ (cfg ch dao bl ti ao n cap tw) at B1
  refine op_assign (nxlf rfl) rfl rfl ?_
  refine At.opsNil ?_
  refine At.norm (hk_1 ?_)
  refine At.seq fun K2 hk_2 => ?_
  refine At.seq fun K3 hk_3 => ?_
  refine At.region ?_
  refine op_fieldAddr (nxlf rfl) fl42_1 rfl rfl ?_
  refine op_idxA (nxlf rfl) ae38 rfl rfl (show _ = (((0 : Nat)) : Int) from by omega) (by omega) rfl ?_
  refine op_loadB (nxlf rfl) sc22 rfl B1 (cfg_blk (i := 0) hb (by omega)) mem0 rfl ?_
  refine op_neq (nxlf rfl) rfl rfl rfl ?_
  refine op_move (nxlf rfl) rfl rfl ?_
  refine At.partP (d := 10) rfl (fun g10 => ?_) (fun g10 => ?_)
  · refine op_skip rfl rfl rfl rfl rfl rfl rfl ?_
    refine op_skip rfl rfl rfl rfl rfl rfl rfl ?_
    refine op_skip rfl rfl rfl rfl rfl rfl rfl ?_
    refine op_skip rfl rfl rfl rfl rfl rfl rfl ?_
    refine op_skip rfl rfl rfl rfl rfl rfl rfl ?_
    refine op_skip rfl rfl rfl rfl rfl rfl rfl ?_
    refine op_skip rfl rfl rfl rfl rfl rfl rfl ?_
    refine op_pickT (nxlf rfl) rfl rfl rfl ?_
    refine At.opsNil ?_
    refine At.norm (hk_3 ?_)
    refine At.condT rfl ?_
    refine At.seq fun K4 hk_4 => ?_
    refine At.region ?_
    refine op_assign (nxlf rfl) rfl rfl ?_
    refine At.opsNil ?_
    refine At.norm (hk_4 ?_)
    refine At.ret (At.thenRet (?_))
    refine At.sub (L' := [R]) (.cons _ (.cons_cons _ (.slnil))) ?_
    refine At.ret1 (L1 := []) rfl (.tmp rfl .nil) (.refl _) (.refl _) ?_
    refine ⟨?_, rfl⟩
    first
      | (rw [chk_f fun h => nodup_at h.2.2.2 (show q < p by omega) ha hb2 c55]; done)
      | (rw [chk_f fun h => by have := h.2.1 i (by omega) (by omega); omega]; done)
      | (rw [chk_f fun h => by have h5 := h2.1 h.2.2.1; have h6 := h.1; omega]; done)
      | (rw [chk_t ⟨by omega, hsb, h2.2 (by omega), nodup_of fun i k a b hki e1 e2 => hd i k a b hki (by have := (List.getElem?_eq_some_iff.1 e1).1; omega) e1 e2⟩]; done)
  · refine op_fieldAddr (nxgf rfl rfl rfl rfl) fl42_2 rfl rfl ?_
    refine op_idxA (nxgf rfl rfl rfl rfl) ae39 rfl rfl (show _ = (((0 : Nat)) : Int) from by omega) (by omega) rfl ?_
    refine op_loadB (nxgf rfl rfl rfl rfl) sc22 rfl B1 (cfg_time (i := 0) hb ht (by omega)) mem0 rfl ?_
    refine op_fieldAddr (nxgf rfl rfl rfl rfl) fl42_2 rfl rfl ?_
    refine op_idxA (nxgf rfl rfl rfl rfl) ae39 rfl rfl (show _ = (((1 : Nat)) : Int) from by omega) (by omega) rfl ?_
    refine op_loadB (nxgf rfl rfl rfl rfl) sc22 rfl B1 (cfg_time (i := 1) hb ht (by omega)) mem0 rfl ?_
    refine op_gtr (nxgf rfl rfl rfl rfl) rfl rfl rfl ?_
    refine op_pickF (nxlf rfl) rfl rfl rfl ?_
    refine At.opsNil ?_
    refine At.norm (hk_3 ?_)
    refine At.condP rfl (fun c18 => ?_) (fun c18 => ?_)
    · refine At.seq fun K5 hk_5 => ?_
      refine At.region ?_
      refine op_assign (nxlf rfl) rfl rfl ?_
      refine At.opsNil ?_
      refine At.norm (hk_5 ?_)
      refine At.ret (At.thenRet (?_))
      refine At.sub (L' := [R]) (.cons _ (.cons_cons _ (.slnil))) ?_
      refine At.ret1 (L1 := []) rfl (.tmp rfl .nil) (.refl _) (.refl _) ?_
      refine ⟨?_, rfl⟩
      first
        | (rw [chk_f fun h => nodup_at h.2.2.2 (show q < p by omega) ha hb2 c55]; done)
        | (rw [chk_f fun h => by have := h.2.1 i (by omega) (by omega); omega]; done)
        | (rw [chk_f fun h => by have h5 := h2.1 h.2.2.1; have h6 := h.1; omega]; done)
        | (rw [chk_t ⟨by omega, hsb, h2.2 (by omega), nodup_of fun i k a b hki e1 e2 => hd i k a b hki (by have := (List.getElem?_eq_some_iff.1 e1).1; omega) e1 e2⟩]; done)
    · refine At.skip ?_
      refine At.norm (hk_2 ?_)
      refine At.seq fun K6 hk_6 => ?_
      refine At.seq fun K7 hk_7 => ?_
      refine At.region ?_
      refine op_assign (nxlf rfl) rfl rfl ?_
      refine At.opsNil ?_
      refine At.norm (hk_7 ?_)
      refine At.block ?_
      refine At.loop (fun fr_ hp_ ms_ => ∃ (i : Nat), fr_ = [(1, .pointer (some ⟨b1, 0, none⟩)), (3, .int .i64 (i : Int))] ∧ hp_ = [N1, R] ∧ 14 - i = ms_ ∧ (1 ≤ i) ∧ (i ≤ 14) ∧ (∀ j, 0 < j → j < i → (bl.getD (j - 1) 0).toNat ≤ (bl.getD j 0).toNat)) ?_ (.refl _) ⟨1, rfl, rfl, rfl, by omega, by omega, fun j h0 h1 => by omega⟩ ?_
      · exact .cons (by first | exact lkI rfl (by omega) | rfl) (.cons (by first | exact lkI rfl (by omega) | rfl) .nil)
      rintro _ _ _ ⟨i, rfl, rfl, rfl, h1, hi, hs⟩
      refine At.seq fun K8 hk_8 => ?_
      refine At.seq fun K9 hk_9 => ?_
      refine At.region ?_
      refine op_move (nxlf rfl) rfl rfl ?_
      refine op_lss (nxlf rfl) rfl rfl rfl ?_
      refine At.opsNil ?_
      refine At.norm (hk_9 ?_)
      refine At.condP rfl (fun c20 => ?_) (fun c20 => ?_)
      · refine At.skip ?_
        refine At.norm (hk_8 ?_)
        refine At.seq fun K10 hk_10 => ?_
        refine At.block ?_
        refine At.seq fun K11 hk_11 => ?_
        refine At.drawnS [N1, R] [] [] [0,1,2,3,4,5,6,7,8,9] (by kernel_rfl) (by kernel_rfl) (.refl _) ?_
        refine op_move (nxsf rfl rfl rfl) rfl rfl ?_
        refine op_subI (nxsf rfl rfl rfl) rfl rfl (by omega) (by omega) rfl ?_
        refine op_fieldAddr (nxsf rfl rfl rfl) fl42_1 rfl rfl ?_
        refine op_idxA (nxsf rfl rfl rfl) ae38 rfl rfl (show _ = (((i - 1 : Nat)) : Int) from by omega) (by omega) rfl ?_
        refine op_loadB (nxsf rfl rfl rfl) sc22 rfl B1 (cfg_blk (i := i - 1) hb (by omega)) mem0 rfl ?_
        refine op_move (nxsf rfl rfl rfl) rfl rfl ?_
        refine op_fieldAddr (nxsf rfl rfl rfl) fl42_1 rfl rfl ?_
        refine op_idxA (nxsf rfl rfl rfl) ae38 rfl rfl (show _ = (((i : Nat)) : Int) from by omega) (by omega) rfl ?_
        refine op_loadB (nxsf rfl rfl rfl) sc22 rfl B1 (cfg_blk (i := i) hb (by omega)) mem0 rfl ?_
        refine op_gtr (nxsf rfl rfl rfl) rfl rfl rfl ?_
        refine At.sNil ?_
        refine At.norm (hk_11 ?_)
        refine At.condP rfl (fun c32 => ?_) (fun c32 => ?_)
        · refine At.seq fun K12 hk_12 => ?_
          refine At.region ?_
          refine op_assign (nxlf rfl) rfl rfl ?_
          refine At.opsNil ?_
          refine At.norm (hk_12 ?_)
          refine At.ret (At.inRet (At.thenRet (At.thenRet (At.inRet (At.thenRet (?_))))))
          refine At.sub (L' := [R]) (.cons _ (.cons_cons _ (.slnil))) ?_
          refine At.ret1 (L1 := []) rfl (.tmp rfl .nil) (.refl _) (.refl _) ?_
          refine ⟨?_, rfl⟩
          first
            | (rw [chk_f fun h => nodup_at h.2.2.2 (show q < p by omega) ha hb2 c55]; done)
            | (rw [chk_f fun h => by have := h.2.1 i (by omega) (by omega); omega]; done)
            | (rw [chk_f fun h => by have h5 := h2.1 h.2.2.1; have h6 := h.1; omega]; done)
            | (rw [chk_t ⟨by omega, hsb, h2.2 (by omega), nodup_of fun i k a b hki e1 e2 => hd i k a b hki (by have := (List.getElem?_eq_some_iff.1 e1).1; omega) e1 e2⟩]; done)
        · refine At.skip ?_
          refine At.inNorm ?_
          refine At.norm (hk_10 ?_)
          refine At.region ?_
          refine op_move (nxlf rfl) rfl rfl ?_
          refine op_addI (nxlf rfl) rfl rfl (by omega) (by omega) rfl ?_
          refine op_assign (nxlf rfl) rfl rfl ?_
          refine At.opsNil ?_
          refine At.norm ?_
          refine At.back ?_ (.refl _) ⟨i + 1, rfl, rfl, rfl, by omega, by omega, fun j h0 hj => below_succ (P := fun j => 0 < j → (bl.getD (j - 1) 0).toNat ≤ (bl.getD j 0).toNat) (fun j hj h0 => hs j h0 hj) (fun _ => by omega) j hj h0⟩ ?_
          · exact .cons (by first | exact lkI rfl (by omega) | rfl) (.cons (by first | exact lkI rfl (by omega) | rfl) .nil)
          · omega
      · refine At.exit (At.thenExit (At.thenExit (At.inHit ?_)))
        refine At.norm (hk_6 ?_)
        refine At.seq fun K13 hk_13 => ?_
        refine At.seq fun K14 hk_14 => ?_
        refine At.region ?_
        refine op_assign (nxlf rfl) rfl rfl ?_
        refine At.opsNil ?_
        refine At.norm (hk_14 ?_)
        refine At.block ?_
        have hsb : Srt bl := fun j h0 hj => hs j h0 (by omega)
        refine At.loop (fun fr_ hp_ ms_ => ∃ (p : Nat), fr_ = [(1, .pointer (some ⟨b1, 0, none⟩)), (4, .int .i64 (p : Int))] ∧ hp_ = [N1, R] ∧ n - p = ms_ ∧ (p ≤ n) ∧ (∀ (i k : Nat) (a b : List UInt8), k < i → i < p → fr[i]? = some a → fr[k]? = some b → a ≠ b)) ?_ (.refl _) ⟨0, rfl, rfl, rfl, by omega, fun i k a b h1 h2 => by omega⟩ ?_
        · exact .cons (by first | exact lkI rfl (by omega) | rfl) (.cons (by first | exact lkI rfl (by omega) | rfl) .nil)
        rintro _ _ _ ⟨p, rfl, rfl, rfl, hp, hd⟩
        refine At.seq fun K15 hk_15 => ?_
        refine At.seq fun K16 hk_16 => ?_
        refine At.region ?_
        refine op_move (nxlf rfl) rfl rfl ?_
        refine op_fieldAddr (nxlf rfl) fl42_4 rfl rfl ?_
        refine op_loadB (nxlf rfl) sc40 rfl B1 (by first | rfl | first | exact cfg_from hb ht | exact cfg_blk hb (by omega) | exact cfg_time hb ht (by omega)) mem0 rfl ?_
        refine op_lenS (nxlf rfl) se40 rfl rfl ?_
        refine op_lss (nxlf rfl) rfl rfl rfl ?_
        refine At.opsNil ?_
        refine At.norm (hk_16 ?_)
        refine At.condP rfl (fun c37 => ?_) (fun c37 => ?_)
        · obtain ⟨a, ha⟩ := get_lt' (xs := fr) (i := p) (by omega)
          have hal := h20 a (mem_of_get ha)
          have hul : (u8s a).length = 20 := by rw [u8s_len, hal]
          refine At.skip ?_
          refine At.norm (hk_15 ?_)
          refine At.seq fun K17 hk_17 => ?_
          refine At.block ?_
          refine At.seq fun K18 hk_18 => ?_
          refine At.region ?_
          refine op_assign (nxlf rfl) rfl rfl ?_
          refine At.opsNil ?_
          refine At.norm (hk_18 ?_)
          refine At.block ?_
          refine At.loop (fun fr_ hp_ ms_ => ∃ (q : Nat), fr_ = [(1, .pointer (some ⟨b1, 0, none⟩)), (4, .int .i64 (p : Int)), (5, .int .i64 (q : Int))] ∧ hp_ = [N1, R] ∧ p - q = ms_ ∧ (q ≤ p) ∧ (∀ (k : Nat) (b : List UInt8), k < q → fr[k]? = some b → a ≠ b)) ?_ (.refl _) ⟨0, rfl, rfl, rfl, by omega, fun k b h => by omega⟩ ?_
          · exact .cons (by first | exact lkI rfl (by omega) | rfl) (.cons (by first | exact lkI rfl (by omega) | rfl) (.cons (by first | exact lkI rfl (by omega) | rfl) .nil))
          rintro _ _ _ ⟨q, rfl, rfl, rfl, hqp, hq⟩
          refine At.seq fun K19 hk_19 => ?_
          refine At.seq fun K20 hk_20 => ?_
          refine At.region ?_
          refine op_move (nxlf rfl) rfl rfl ?_
          refine op_move (nxlf rfl) rfl rfl ?_
          refine op_lss (nxlf rfl) rfl rfl rfl ?_
          refine At.opsNil ?_
          refine At.norm (hk_20 ?_)
          refine At.condP rfl (fun c42 => ?_) (fun c42 => ?_)
          · obtain ⟨b, hb2⟩ := get_lt' (xs := fr) (i := q) (by omega)
            have hbl2 := h20 b (mem_of_get hb2)
            have hub : (u8s b).length = 20 := by rw [u8s_len, hbl2]
            refine At.skip ?_
            refine At.norm (hk_19 ?_)
            refine At.seq fun K21 hk_21 => ?_
            refine At.block ?_
            refine At.seq fun K22 hk_22 => ?_
            refine At.drawnS [N1, R] [] [] [0,1,2,3,4,5,6,7,8,9,10] (by kernel_rfl) (by kernel_rfl) (.refl _) ?_
            refine op_fieldAddr (nxsf rfl rfl rfl) fl42_4 rfl rfl ?_
            refine op_loadB (nxsf rfl rfl rfl) sc40 rfl B1 (by first | rfl | first | exact cfg_from hb ht | exact cfg_blk hb (by omega) | exact cfg_time hb ht (by omega)) mem0 rfl ?_
            refine op_move (nxsf rfl rfl rfl) rfl rfl ?_
            refine op_idxE (nxsf rfl rfl rfl) se40 rfl rfl hA (show _ = (((p : Nat)) : Int) from by omega) (by omega) rfl ?_
            refine op_loadAggE (ds := u8s a) (nxsf rfl rfl rfl) ag34 rfl hA (addr_at h20 ha) hul (by omega) mem1 rfl ?_
            refine op_fieldAddr (nxsf rfl rfl rfl) fl42_4 rfl rfl ?_
            refine op_loadB (nxsf rfl rfl rfl) sc40 rfl B1 (by first | rfl | first | exact cfg_from hb ht | exact cfg_blk hb (by omega) | exact cfg_time hb ht (by omega)) mem0 rfl ?_
            refine op_move (nxsf rfl rfl rfl) rfl rfl ?_
            refine op_idxE (nxsf rfl rfl rfl) se40 rfl rfl hA (show _ = (((q : Nat)) : Int) from by omega) (by omega) rfl ?_
            refine op_loadAggE (ds := u8s b) (nxsf rfl rfl rfl) ag34 rfl hA (addr_at h20 hb2) hub (by omega) mem1 rfl ?_
            refine op_eqW8 (a := a) (b := b) (nxsf rfl rfl rfl) ae34 Tryd.underlying5 (by kernel_rfl) rfl rfl hal hbl2 rfl ?_
            refine At.sNil ?_
            refine At.norm (hk_22 ?_)
            refine At.condP rfl (fun c55 => ?_) (fun c55 => ?_)
            · refine At.seq fun K23 hk_23 => ?_
              refine At.region ?_
              refine op_assign (nxlf rfl) rfl rfl ?_
              refine At.opsNil ?_
              refine At.norm (hk_23 ?_)
              refine At.ret (At.inRet (At.thenRet (At.thenRet (At.inRet (At.inRet (At.thenRet (At.thenRet (At.inRet (At.thenRet (?_))))))))))
              refine At.sub (L' := [R]) (.cons _ (.cons_cons _ (.slnil))) ?_
              refine At.ret1 (L1 := []) rfl (.tmp rfl .nil) (.refl _) (.refl _) ?_
              refine ⟨?_, rfl⟩
              first
                | (rw [chk_f fun h => nodup_at h.2.2.2 (show q < p by omega) ha hb2 c55]; done)
                | (rw [chk_f fun h => by have := h.2.1 i (by omega) (by omega); omega]; done)
                | (rw [chk_f fun h => by have h5 := h2.1 h.2.2.1; have h6 := h.1; omega]; done)
                | (rw [chk_t ⟨by omega, hsb, h2.2 (by omega), nodup_of fun i k a b hki e1 e2 => hd i k a b hki (by have := (List.getElem?_eq_some_iff.1 e1).1; omega) e1 e2⟩]; done)
            · refine At.skip ?_
              refine At.inNorm ?_
              refine At.norm (hk_21 ?_)
              refine At.region ?_
              refine op_move (nxlf rfl) rfl rfl ?_
              refine op_addI (nxlf rfl) rfl rfl (by omega) (by omega) rfl ?_
              refine op_assign (nxlf rfl) rfl rfl ?_
              refine At.opsNil ?_
              refine At.norm ?_
              refine At.back ?_ (.refl _) ⟨q + 1, rfl, rfl, rfl, by omega, fun k b' hk => below_succ (P := fun k => ∀ b : List UInt8, fr[k]? = some b → a ≠ b) (fun k hk b e => hq k b hk e) (fun b3 e => by rw [hb2] at e; cases e; exact c55) k hk b'⟩ ?_
              · exact .cons (by first | exact lkI rfl (by omega) | rfl) (.cons (by first | exact lkI rfl (by omega) | rfl) (.cons (by first | exact lkI rfl (by omega) | rfl) .nil))
              · omega
          · refine At.exit (At.thenExit (At.thenExit (At.inHit ?_)))
            refine At.inNorm ?_
            refine At.norm (hk_17 ?_)
            refine At.region ?_
            refine op_move (nxlf rfl) rfl rfl ?_
            refine op_addI (nxlf rfl) rfl rfl (by omega) (by omega) rfl ?_
            refine op_assign (nxlf rfl) rfl rfl ?_
            refine At.opsNil ?_
            refine At.norm ?_
            refine At.back ?_ (.refl _) ⟨p + 1, rfl, rfl, rfl, by omega, fun i k a' b' hki hi => below_succ (P := fun i => ∀ (k : Nat) (a b : List UInt8), k < i → fr[i]? = some a → fr[k]? = some b → a ≠ b) (fun i hi k a b h e1 e2 => hd i k a b h hi e1 e2) (fun k a2 b2 hk e1 e2 => by rw [ha] at e1; cases e1; exact hq k b2 (by omega) e2) i hi k a' b' hki⟩ ?_
            · exact .cons (by first | exact lkI rfl (by omega) | rfl) (.cons (by first | exact lkI rfl (by omega) | rfl) .nil)
            · omega
        · refine At.exit (At.thenExit (At.thenExit (At.inHit ?_)))
          refine At.norm (hk_13 ?_)
          refine At.seq fun K24 hk_24 => ?_
          refine At.region ?_
          refine op_assign (nxlf rfl) rfl rfl ?_
          refine At.opsNil ?_
          refine At.norm (hk_24 ?_)
          refine At.ret (?_)
          refine At.sub (L' := [R]) (.cons _ (.cons_cons _ (.slnil))) ?_
          refine At.ret1 (L1 := []) rfl (.tmp rfl .nil) (.refl _) (.refl _) ?_
          refine ⟨?_, rfl⟩
          first
            | (rw [chk_f fun h => nodup_at h.2.2.2 (show q < p by omega) ha hb2 c55]; done)
            | (rw [chk_f fun h => by have := h.2.1 i (by omega) (by omega); omega]; done)
            | (rw [chk_f fun h => by have h5 := h2.1 h.2.2.1; have h6 := h.1; omega]; done)
            | (rw [chk_t ⟨by omega, hsb, h2.2 (by omega), nodup_of fun i k a b hki e1 e2 => hd i k a b hki (by have := (List.getElem?_eq_some_iff.1 e1).1; omega) e1 e2⟩]; done)
end
end Go.Proofs.YtoabimaidpbkiaaDoor
/- The fork at a block, in the program and in the reference; a plan in new memory. No condition. -/
namespace Go.Proofs.YtoabimaidpbkiaaDoor
set_option linter.unusedVariables false
set_option linter.unusedSimpArgs false
open Go Go.RowKit
def comeB (x now : UInt64) : Bool := decide (x.toNat ≤ now.toNat ∧ x.toNat ≠ 18446744073709551615)
theorem FComes_f (x now : UInt64) : Fn Tryd.prog 29 #[.int .u64 (x.toNat : Int), .int .u64 (now.toNat : Int)] [] [] (fun v L => v = .bool (comeB x now) ∧ L = []) := by
  refine Fn.enter (vs := [.int .u64 (x.toNat : Int), .int .u64 (now.toNat : Int)]) Tryd.func29 rfl rfl rfl ?_
  intro E R hR
  change At _ _ E [R] _
  refine At.seq fun K1 hk_1 => ?_
  refine At.region ?_
  refine op_assign (nxlf rfl) rfl rfl ?_
  refine At.opsNil ?_
  refine At.norm (hk_1 ?_)
  refine At.seq fun K2 hk_2 => ?_
  refine At.region ?_
  refine op_move (nxlf rfl) rfl rfl ?_
  refine op_move (nxlf rfl) rfl rfl ?_
  refine op_leq (nxlf rfl) rfl rfl rfl ?_
  refine op_move (nxlf rfl) rfl rfl ?_
  refine At.partP (d := 8) rfl (fun g8 => ?_) (fun g8 => ?_)
  · refine op_move (nxgf rfl rfl rfl rfl) rfl rfl ?_
    refine op_neq (nxgf rfl rfl rfl rfl) rfl rfl rfl ?_
    refine op_pickT (nxlf rfl) rfl rfl rfl ?_
    refine op_assign (nxlf rfl) rfl rfl ?_
    refine At.opsNil ?_
    refine At.norm (hk_2 ?_)
    refine At.ret (?_)
    refine At.ret1 (L1 := []) rfl (.tmp rfl .nil) (.refl _) (.refl _) ?_
    refine ⟨?_, rfl⟩
    unfold comeB
    first
      | (congr 1; exact decide_eq_decide.2 ⟨fun h => ⟨by omega, by omega⟩, fun h => by omega⟩)
      | (rw [decide_eq_false (fun h => by omega)]; done)
  · refine op_skip rfl rfl rfl rfl rfl rfl rfl ?_
    refine op_skip rfl rfl rfl rfl rfl rfl rfl ?_
    refine op_pickF (nxlf rfl) rfl rfl rfl ?_
    refine op_assign (nxlf rfl) rfl rfl ?_
    refine At.opsNil ?_
    refine At.norm (hk_2 ?_)
    refine At.ret (?_)
    refine At.ret1 (L1 := []) rfl (.tmp rfl .nil) (.refl _) (.refl _) ?_
    refine ⟨?_, rfl⟩
    unfold comeB
    first
      | (congr 1; exact decide_eq_decide.2 ⟨fun h => ⟨by omega, by omega⟩, fun h => by omega⟩)
      | (rw [decide_eq_false (fun h => by omega)]; done)
theorem rCome_f (x now : UInt64) : Fn Tryd.prog 30 #[.int .u64 (x.toNat : Int), .int .u64 (now.toNat : Int)] [] [] (fun v L => v = .bool (comeB x now) ∧ L = []) := by
  refine Fn.enter (vs := [.int .u64 (x.toNat : Int), .int .u64 (now.toNat : Int)]) Tryd.func30 rfl rfl rfl ?_
  intro E R hR
  change At _ _ E [R] _
  refine At.seq fun K1 hk_1 => ?_
  refine At.region ?_
  refine op_assign (nxlf rfl) rfl rfl ?_
  refine At.opsNil ?_
  refine At.norm (hk_1 ?_)
  refine At.seq fun K2 hk_2 => ?_
  refine At.region ?_
  refine op_move (nxlf rfl) rfl rfl ?_
  refine op_neq (nxlf rfl) rfl rfl rfl ?_
  refine op_move (nxlf rfl) rfl rfl ?_
  refine At.partP (d := 7) rfl (fun g7 => ?_) (fun g7 => ?_)
  · refine op_move (nxgf rfl rfl rfl rfl) rfl rfl ?_
    refine op_move (nxgf rfl rfl rfl rfl) rfl rfl ?_
    refine op_leq (nxgf rfl rfl rfl rfl) rfl rfl rfl ?_
    refine op_pickT (nxlf rfl) rfl rfl rfl ?_
    refine op_assign (nxlf rfl) rfl rfl ?_
    refine At.opsNil ?_
    refine At.norm (hk_2 ?_)
    refine At.ret (?_)
    refine At.ret1 (L1 := []) rfl (.tmp rfl .nil) (.refl _) (.refl _) ?_
    refine ⟨?_, rfl⟩
    unfold comeB
    first
      | (congr 1; exact decide_eq_decide.2 ⟨fun h => ⟨by omega, by omega⟩, fun h => by omega⟩)
      | (rw [decide_eq_false (fun h => by omega)]; done)
  · refine op_skip rfl rfl rfl rfl rfl rfl rfl ?_
    refine op_skip rfl rfl rfl rfl rfl rfl rfl ?_
    refine op_skip rfl rfl rfl rfl rfl rfl rfl ?_
    refine op_pickF (nxlf rfl) rfl rfl rfl ?_
    refine op_assign (nxlf rfl) rfl rfl ?_
    refine At.opsNil ?_
    refine At.norm (hk_2 ?_)
    refine At.ret (?_)
    refine At.ret1 (L1 := []) rfl (.tmp rfl .nil) (.refl _) (.refl _) ?_
    refine ⟨?_, rfl⟩
    unfold comeB
    first
      | (congr 1; exact decide_eq_decide.2 ⟨fun h => ⟨by omega, by omega⟩, fun h => by omega⟩)
      | (rw [decide_eq_false (fun h => by omega)]; done)
/-- The last place where f holds; 0: none. -/
def lastI (f : Nat → Bool) : Nat → Nat
  | 0 => 0
  | k + 1 => if f k = true then k else lastI f k
def tmI (a : Nat) (g : Nat → Bool) : Nat → Nat
  | 0 => a
  | i + 1 => if 13 ≤ tmI a g i ∧ g i = true then 14 + i else tmI a g i
theorem lastI_le (f : Nat → Bool) : ∀ k, lastI f (k + 1) ≤ k
  | 0 => by unfold lastI; split <;> simp [lastI]
  | k + 1 => by
    have := lastI_le f k
    rw [lastI]
    split <;> omega
theorem lastI_t {f : Nat → Bool} {k : Nat} (h : f k = true) : lastI f (k + 1) = k := by rw [lastI, if_pos h]
theorem lastI_f {f : Nat → Bool} {k : Nat} (h : f k = false) : lastI f (k + 1) = lastI f k := by rw [lastI, if_neg (by rw [h]; exact Bool.false_ne_true)]
theorem tmI_t {a : Nat} {g : Nat → Bool} {i : Nat} (h : 13 ≤ tmI a g i) (h2 : g i = true) : tmI a g (i + 1) = 14 + i := by rw [tmI, if_pos ⟨h, h2⟩]
theorem tmI_f {a : Nat} {g : Nat → Bool} {i : Nat} (h : ¬ (13 ≤ tmI a g i ∧ g i = true)) : tmI a g (i + 1) = tmI a g i := by rw [tmI, if_neg h]
def blF (bl : List UInt64) (nu : UInt64) (i : Nat) : Bool := comeB (bl.getD i 0) nu
def atV (bl ti : List UInt64) (nu tm : UInt64) : Nat := tmI (lastI (blF bl nu) 14) (blF ti tm) 2
theorem tmI_le {a : Nat} {g : Nat → Bool} (h : a ≤ 13) : tmI a g 1 ≤ 14 ∧ tmI a g 2 ≤ 15 := by
  have h1 : tmI a g 1 ≤ 14 := by
    rw [show (1 : Nat) = 0 + 1 from rfl, tmI]
    split <;> simp [tmI] <;> omega
  refine ⟨h1, ?_⟩
  rw [show (2 : Nat) = 1 + 1 from rfl, tmI]
  split <;> omega
def atF (A : Nat) (b0 b1 : Bool) : Nat := if 13 ≤ (if A = 13 ∧ b0 = true then 14 else A) ∧ b1 = true then 15 else (if A = 13 ∧ b0 = true then 14 else A)
theorem at_tt {A : Nat} {b0 b1 : Bool} (h : (A : Int) = 13) (h0 : b0 = true) (h1 : b1 = true) : atF A b0 b1 = 15 := by
  have e : A = 13 := by omega
  subst e; subst h0; subst h1; rfl
theorem at_tf {A : Nat} {b0 b1 : Bool} (h : (A : Int) = 13) (h0 : b0 = true) (h1 : b1 = false) : atF A b0 b1 = 14 := by
  have e : A = 13 := by omega
  subst e; subst h0; subst h1; rfl
theorem at_ft {A : Nat} {b0 b1 : Bool} (h : (A : Int) = 13) (h0 : b0 = false) (h1 : b1 = true) : atF A b0 b1 = 15 := by
  have e : A = 13 := by omega
  subst e; subst h0; subst h1; rfl
theorem at_ff {A : Nat} {b0 b1 : Bool} (h0 : b0 = false) (h1 : b1 = false) : atF A b0 b1 = A := by
  subst h0; subst h1
  simp [atF]
theorem at_no {A : Nat} {b0 b1 : Bool} (h : ¬ (A : Int) = 13) (hA : A ≤ 13) : atF A b0 b1 = A := by
  have e : ¬ A = 13 := by omega
  have e2 : (if A = 13 ∧ b0 = true then 14 else A) = A := if_neg (fun x => e x.1)
  unfold atF
  rw [e2, if_neg (fun x => by have := x.1; omega)]
/-- In the reference's words. -/
theorem atV_eq (bl ti : List UInt64) (nu tm : UInt64) : atV bl ti nu tm = atF (lastI (blF bl nu) 14) (comeB (ti.getD 0 0) tm) (comeB (ti.getD 1 0) tm) := by
  have hle := lastI_le (blF bl nu) 13
  have e : tmI (lastI (blF bl nu) 14) (blF ti tm) 1 = if lastI (blF bl nu) 14 = 13 ∧ comeB (ti.getD 0 0) tm = true then 14 else lastI (blF bl nu) 14 := by
    rw [show (1 : Nat) = 0 + 1 from rfl, tmI, tmI]
    by_cases h : 13 ≤ lastI (blF bl nu) 14
    · have h' : lastI (blF bl nu) 14 = 13 := Nat.le_antisymm hle h
      simp only [h', Nat.le_refl, true_and]; rfl
    · have h' : ¬ lastI (blF bl nu) 14 = 13 := by omega
      rw [if_neg (fun e => h e.1), if_neg (fun e => h' e.1)]
  rw [atV, show (2 : Nat) = 1 + 1 from rfl, tmI, e]
  rfl
open Classical in
noncomputable def atI (p : Prop) (k : Nat) : Int := if p then (k : Int) else 0
theorem atI_t {p : Prop} {k : Nat} (h : p) : atI p k = k := by rw [atI, if_pos h]
theorem atI_f {p : Prop} {k : Nat} (h : ¬ p) : atI p k = 0 := by rw [atI, if_neg h]
theorem chk_ne {p : Prop} (h : chk p ≠ 0) : ¬ p := fun hp => h (chk_t hp)
theorem chk_eq {p : Prop} (h : ¬ chk p ≠ 0) : p := Classical.byContradiction fun hp => h (by rw [chk_f hp]; decide)
section
variable {N : Heaplet} {ch dao : UInt64} {bl ti : List UInt64} {ao : Option Addr} {n cap : Nat} {tw : List UInt8} {fr : List (List UInt8)}
set_option maxRecDepth 100000 in
set_option maxHeartbeats 2000000 in
theorem FAt_f (hb : bl.length = 14) (ht : ti.length = 2) (ho : tw.length = 20) (hA : RSl N 20 ao n cap (fr.flatMap u8s)) (hfn : fr.length = n) (h20 : ∀ a ∈ fr, a.length = 20) (nu tm : UInt64) : Fn Tryd.prog 18 #[.agg (cfg ch dao bl ti ao n cap tw).toArray, .int .u64 (nu.toNat : Int), .int .u64 (tm.toNat : Int)] [] [N] (fun v L => v = .tuple #[.int .i64 (atI (GoodC bl ti fr) (atV bl ti nu tm)), .int .i64 (chk (GoodC bl ti fr))] ∧ L = []) := by
  have hl := cfg_len (ch := ch) (dao := dao) (ao := ao) (n := n) (cap := cap) hb ht ho
  have hub : (u64s bl).length = 14 := by rw [u64s_len, hb]
  have hut : (u64s ti).length = 2 := by rw [u64s_len, ht]
  have hle := lastI_le (blF bl nu) 13
  have hle2 := tmI_le (g := blF ti tm) hle
  refine Fn.enter (vs := [.agg (cfg ch dao bl ti ao n cap tw).toArray, .int .u64 (nu.toNat : Int), .int .u64 (tm.toNat : Int)]) Tryd.func18 rfl rfl rfl ?_
  intro E R hR
  have hA := hA.le (hR N (by simp))
  change At _ _ E [R] _
  refine At.seq fun K1 hk_1 => ?_
  refine At.region ?_
  refine op_box (nxla rfl) rfl rfl rfl (fun N3 b3 B3 => ?_)
  change Blk N3 b3 _ (cfg ch dao bl ti ao n cap tw) at B3
  refine op_assign (nxlf rfl) rfl rfl ?_
  refine op_assign (nxlf rfl) rfl rfl ?_
  refine At.opsNil ?_
  refine At.norm (hk_1 ?_)
  refine At.seq fun K2 hk_2 => ?_
  refine At.seq fun K3 hk_3 => ?_
  refine At.region ?_
  refine op_loadAggB (ds := cfg ch dao bl ti ao n cap tw) (nxlf rfl) ag42 rfl B3 (cfg_all hb ht ho) hl mem0 rfl ?_
  refine op_callA (nxla rfl) (.cons rfl .nil) (FCheck_f hb ht ho hA hfn h20) Tryd.func20 rfl rfl (by simp) rfl ?_
  rintro v14 L14 ⟨rfl, rfl⟩
  change At _ _ _ [N3, R] _
  refine op_neq (nxlf rfl) rfl rfl rfl ?_
  refine At.opsNil ?_
  refine At.norm (hk_3 ?_)
  refine At.condP rfl (fun c15 => ?_) (fun c15 => ?_)
  · have hnp := chk_ne c15
    refine At.seq fun K4 hk_4 => ?_
    refine At.region ?_
    refine op_assign (nxlf rfl) rfl rfl ?_
    refine op_assign (nxlf rfl) rfl rfl ?_
    refine At.opsNil ?_
    refine At.norm (hk_4 ?_)
    refine At.ret (At.thenRet (?_))
    refine At.sub (L' := [R]) (.cons _ (.cons_cons _ (.slnil))) ?_
    refine At.retN (L1 := []) rfl (.tmp rfl (.tmp rfl .nil)) rfl (.refl _) (.refl _) ?_
    exact ⟨by rw [atI_f hnp, chk_f hnp], rfl⟩
  · have hp := chk_eq c15
    refine At.skip ?_
    refine At.norm (hk_2 ?_)
    refine At.seq fun K5 hk_5 => ?_
    refine At.region ?_
    refine op_assign (nxlf rfl) rfl rfl ?_
    refine At.opsNil ?_
    refine At.norm (hk_5 ?_)
    refine At.seq fun K6 hk_6 => ?_
    refine At.seq fun K7 hk_7 => ?_
    refine At.region ?_
    refine op_fieldAddr (nxlf rfl) fl42_1 rfl rfl ?_
    refine op_loadAggB (ds := u64s bl) (nxlf rfl) ag38 rfl B3 (cfg_blks hb) hub mem0 rfl ?_
    refine op_move (nxlf rfl) rfl rfl ?_
    refine At.opsNil ?_
    refine At.norm (hk_7 ?_)
    refine At.block ?_
    refine At.loop (fun fr_ hp_ ms_ => ∃ (k : Nat), fr_ = [(2, .int .u64 (tm.toNat : Int)), (1, .int .u64 (nu.toNat : Int)), (3, .pointer (some ⟨b3, 0, none⟩)), (8, .int .i64 (lastI (blF bl nu) k : Int)), (17, .agg (u64s bl).toArray), (18, .int .i64 (k : Int))] ∧ hp_ = [N3, R] ∧ 14 - k = ms_ ∧ (k ≤ 14)) ?_ (.refl _) ⟨0, rfl, rfl, rfl, by omega⟩ ?_
    · exact .cons (by first | exact lkI rfl (by omega) | rfl) (.cons (by first | exact lkI rfl (by omega) | rfl) (.cons (by first | exact lkI rfl (by omega) | rfl) (.cons (by first | exact lkI rfl (by omega) | rfl) (.cons (by first | exact lkI rfl (by omega) | rfl) (.cons (by first | exact lkI rfl (by omega) | rfl) .nil)))))
    rintro _ _ _ ⟨k, rfl, rfl, rfl, hk⟩
    refine At.seq fun K8 hk_8 => ?_
    refine At.region ?_
    refine op_lss (nxlf rfl) rfl rfl rfl ?_
    refine At.opsNil ?_
    refine At.norm (hk_8 ?_)
    refine At.seq fun K9 hk_9 => ?_
    refine At.condP rfl (fun c19 => ?_) (fun c19 => ?_)
    · refine At.skip ?_
      refine At.norm (hk_9 ?_)
      refine At.seq fun K10 hk_10 => ?_
      refine At.block ?_
      refine At.seq fun K11 hk_11 => ?_
      refine At.region ?_
      refine op_move (nxlf rfl) rfl rfl ?_
      refine op_idxV (nxlf rfl) ae38 sc22 rfl rfl (show _ = (((k : Nat)) : Int) from by omega) (by omega) (by rw [List.getElem?_toArray]; exact get64 (bs := bl) (by omega)) rfl ?_
      refine op_assign (nxlf rfl) rfl rfl ?_
      refine op_assign (nxlf rfl) rfl rfl ?_
      refine At.opsNil ?_
      refine At.norm (hk_11 ?_)
      refine At.seq fun K12 hk_12 => ?_
      refine At.region ?_
      refine op_move (nxlf rfl) rfl rfl ?_
      refine op_move (nxlf rfl) rfl rfl ?_
      refine op_callA (nxla rfl) (.cons rfl (.cons rfl .nil)) (FComes_f (bl.getD k 0) nu) Tryd.func29 rfl rfl (by simp) rfl ?_
      rintro v24 L24 ⟨rfl, rfl⟩
      change At _ _ _ [N3, R] _
      refine At.opsNil ?_
      refine At.norm (hk_12 ?_)
      refine At.condB rfl (fun c24 => ?_) (fun c24 => ?_)
      · refine At.region ?_
        refine op_move (nxlf rfl) rfl rfl ?_
        refine op_assign (nxlf rfl) rfl rfl ?_
        refine At.opsNil ?_
        refine At.inNorm ?_
        refine At.norm (hk_10 ?_)
        refine At.region ?_
        refine op_addI (nxlf rfl) rfl rfl (by omega) (by omega) rfl ?_
        refine op_move (nxlf rfl) rfl rfl ?_
        refine At.opsNil ?_
        refine At.norm ?_
        have e1 := lastI_t (f := blF bl nu) (k := k) c24
        refine At.back ?_ (.refl _) ⟨k + 1, rfl, rfl, rfl, by omega⟩ ?_
        · exact .cons (by first | exact lkI rfl (by omega) | rfl) (.cons (by first | exact lkI rfl (by omega) | rfl) (.cons (by first | exact lkI rfl (by omega) | rfl) (.cons (by first | exact lkI rfl (by omega) | rfl) (.cons (by first | exact lkI rfl (by omega) | rfl) (.cons (by first | exact lkI rfl (by omega) | rfl) .nil)))))
        · omega
      · refine At.skip ?_
        refine At.inNorm ?_
        refine At.norm (hk_10 ?_)
        refine At.region ?_
        refine op_addI (nxlf rfl) rfl rfl (by omega) (by omega) rfl ?_
        refine op_move (nxlf rfl) rfl rfl ?_
        refine At.opsNil ?_
        refine At.norm ?_
        have e1 := lastI_f (f := blF bl nu) (k := k) c24
        refine At.back ?_ (.refl _) ⟨k + 1, rfl, rfl, rfl, by omega⟩ ?_
        · exact .cons (by first | exact lkI rfl (by omega) | rfl) (.cons (by first | exact lkI rfl (by omega) | rfl) (.cons (by first | exact lkI rfl (by omega) | rfl) (.cons (by first | exact lkI rfl (by omega) | rfl) (.cons (by first | exact lkI rfl (by omega) | rfl) (.cons (by first | exact lkI rfl (by omega) | rfl) .nil)))))
        · omega
    · refine At.exit (At.thenExit (At.thenExit (At.inHit ?_)))
      refine At.norm (hk_6 ?_)
      refine At.seq fun K13 hk_13 => ?_
      refine At.seq fun K14 hk_14 => ?_
      refine At.region ?_
      have hk14 : k = 14 := by omega
      subst hk14
      refine op_fieldAddr (nxlf rfl) fl42_2 rfl rfl ?_
      refine op_loadAggB (ds := u64s ti) (nxlf rfl) ag39 rfl B3 (cfg_times hb ht) hut mem0 rfl ?_
      refine op_move (nxlf rfl) rfl rfl ?_
      refine At.opsNil ?_
      refine At.norm (hk_14 ?_)
      refine At.block ?_
      refine At.sub (L' := [R]) (.cons _ (.cons_cons _ (.slnil))) ?_
      refine At.loop (fun fr_ hp_ ms_ => ∃ (i : Nat), fr_ = [(2, .int .u64 (tm.toNat : Int)), (8, .int .i64 (tmI (lastI (blF bl nu) 14) (blF ti tm) i : Int)), (28, .agg (u64s ti).toArray), (29, .int .i64 (i : Int))] ∧ hp_ = [R] ∧ 2 - i = ms_ ∧ (i ≤ 2)) ?_ (.refl _) ⟨0, rfl, rfl, rfl, by omega⟩ ?_
      · exact .cons (by first | exact lkI rfl (by omega) | rfl) (.cons (by first | exact lkI rfl (by omega) | rfl) (.cons (by first | exact lkI rfl (by omega) | rfl) (.cons (by first | exact lkI rfl (by omega) | rfl) .nil)))
      rintro _ _ _ ⟨i, rfl, rfl, rfl, hi⟩
      refine At.seq fun K15 hk_15 => ?_
      refine At.region ?_
      refine op_lss (nxlf rfl) rfl rfl rfl ?_
      refine At.opsNil ?_
      refine At.norm (hk_15 ?_)
      refine At.seq fun K16 hk_16 => ?_
      refine At.condP rfl (fun c30 => ?_) (fun c30 => ?_)
      · refine At.skip ?_
        refine At.norm (hk_16 ?_)
        refine At.seq fun K17 hk_17 => ?_
        refine At.block ?_
        refine At.seq fun K18 hk_18 => ?_
        refine At.region ?_
        refine op_move (nxlf rfl) rfl rfl ?_
        refine op_idxV (nxlf rfl) ae39 sc22 rfl rfl (show _ = (((i : Nat)) : Int) from by omega) (by omega) (by rw [List.getElem?_toArray]; exact get64 (bs := ti) (by omega)) rfl ?_
        refine op_assign (nxlf rfl) rfl rfl ?_
        refine op_assign (nxlf rfl) rfl rfl ?_
        refine At.opsNil ?_
        refine At.norm (hk_18 ?_)
        refine At.seq fun K19 hk_19 => ?_
        refine At.region ?_
        refine op_move (nxlf rfl) rfl rfl ?_
        refine op_geq (nxlf rfl) rfl rfl rfl ?_
        refine op_move (nxlf rfl) rfl rfl ?_
        refine At.partP (d := 35) rfl (fun g35 => ?_) (fun g35 => ?_)
        · refine op_move (nxgf rfl rfl rfl rfl) rfl rfl ?_
          refine op_move (nxgf rfl rfl rfl rfl) rfl rfl ?_
          refine op_callA (nxga rfl rfl rfl rfl) (.cons rfl (.cons rfl .nil)) (FComes_f (ti.getD i 0) tm) Tryd.func29 rfl rfl (by simp) rfl ?_
          rintro v38 L38 ⟨rfl, rfl⟩
          change At _ _ _ [R] _
          refine op_pickT (nxlf rfl) rfl rfl rfl ?_
          refine At.opsNil ?_
          refine At.norm (hk_19 ?_)
          refine At.condB rfl (fun c39 => ?_) (fun c39 => ?_)
          · refine At.region ?_
            refine op_move (nxlf rfl) rfl rfl ?_
            refine op_addI (nxlf rfl) rfl rfl (by omega) (by omega) rfl ?_
            refine op_assign (nxlf rfl) rfl rfl ?_
            refine At.opsNil ?_
            refine At.inNorm ?_
            refine At.norm (hk_17 ?_)
            refine At.region ?_
            refine op_addI (nxlf rfl) rfl rfl (by omega) (by omega) rfl ?_
            refine op_move (nxlf rfl) rfl rfl ?_
            refine At.opsNil ?_
            refine At.norm ?_
            have e1 := tmI_t (a := lastI (blF bl nu) 14) (g := blF ti tm) (i := i) (by omega) c39
            refine At.back ?_ (.refl _) ⟨i + 1, rfl, rfl, rfl, by omega⟩ ?_
            · exact .cons (by first | exact lkI rfl (by omega) | rfl) (.cons (by first | exact lkI rfl (by omega) | rfl) (.cons (by first | exact lkI rfl (by omega) | rfl) (.cons (by first | exact lkI rfl (by omega) | rfl) .nil)))
            · omega
          · refine At.skip ?_
            refine At.inNorm ?_
            refine At.norm (hk_17 ?_)
            refine At.region ?_
            refine op_addI (nxlf rfl) rfl rfl (by omega) (by omega) rfl ?_
            refine op_move (nxlf rfl) rfl rfl ?_
            refine At.opsNil ?_
            refine At.norm ?_
            have e1 := tmI_f (a := lastI (blF bl nu) 14) (g := blF ti tm) (i := i) (fun h => absurd (h.2.symm.trans c39) (by decide))
            refine At.back ?_ (.refl _) ⟨i + 1, rfl, rfl, rfl, by omega⟩ ?_
            · exact .cons (by first | exact lkI rfl (by omega) | rfl) (.cons (by first | exact lkI rfl (by omega) | rfl) (.cons (by first | exact lkI rfl (by omega) | rfl) (.cons (by first | exact lkI rfl (by omega) | rfl) .nil)))
            · omega
        · refine op_skip rfl rfl rfl rfl rfl rfl rfl ?_
          refine op_skip rfl rfl rfl rfl rfl rfl rfl ?_
          refine op_skip rfl rfl rfl rfl rfl rfl rfl ?_
          refine op_pickF (nxlf rfl) rfl rfl rfl ?_
          refine At.opsNil ?_
          refine At.norm (hk_19 ?_)
          refine At.condF rfl ?_
          refine At.skip ?_
          refine At.inNorm ?_
          refine At.norm (hk_17 ?_)
          refine At.region ?_
          refine op_addI (nxlf rfl) rfl rfl (by omega) (by omega) rfl ?_
          refine op_move (nxlf rfl) rfl rfl ?_
          refine At.opsNil ?_
          refine At.norm ?_
          have e1 := tmI_f (a := lastI (blF bl nu) 14) (g := blF ti tm) (i := i) (fun h => by omega)
          refine At.back ?_ (.refl _) ⟨i + 1, rfl, rfl, rfl, by omega⟩ ?_
          · exact .cons (by first | exact lkI rfl (by omega) | rfl) (.cons (by first | exact lkI rfl (by omega) | rfl) (.cons (by first | exact lkI rfl (by omega) | rfl) (.cons (by first | exact lkI rfl (by omega) | rfl) .nil)))
          · omega
      · refine At.exit (At.thenExit (At.thenExit (At.inHit ?_)))
        refine At.norm (hk_13 ?_)
        refine At.seq fun K20 hk_20 => ?_
        refine At.region ?_
        refine op_move (nxlf rfl) rfl rfl ?_
        refine op_assign (nxlf rfl) rfl rfl ?_
        refine op_assign (nxlf rfl) rfl rfl ?_
        refine At.opsNil ?_
        refine At.norm (hk_20 ?_)
        refine At.ret (?_)
        refine At.retN (L1 := []) rfl (.tmp rfl (.tmp rfl .nil)) rfl (.refl _) (.refl _) ?_
        have hi2 : i = 2 := by omega
        subst hi2
        exact ⟨by rw [atI_t hp, chk_t hp]; rfl, rfl⟩
set_option maxRecDepth 100000 in
set_option maxHeartbeats 2000000 in
theorem rAt_f (hb : bl.length = 14) (ht : ti.length = 2) (ho : tw.length = 20) (hA : RSl N 20 ao n cap (fr.flatMap u8s)) (hfn : fr.length = n) (h20 : ∀ a ∈ fr, a.length = 20) (nu tm : UInt64) : Fn Tryd.prog 19 #[.agg (cfg ch dao bl ti ao n cap tw).toArray, .int .u64 (nu.toNat : Int), .int .u64 (tm.toNat : Int)] [] [N] (fun v L => v = .tuple #[.int .i64 (atI (GoodC bl ti fr) (atV bl ti nu tm)), .int .i64 (chk (GoodC bl ti fr))] ∧ L = []) := by
  have hl := cfg_len (ch := ch) (dao := dao) (ao := ao) (n := n) (cap := cap) hb ht ho
  have hle : lastI (blF bl nu) 14 ≤ 13 := lastI_le (blF bl nu) 13
  have hfin := atV_eq bl ti nu tm
  refine Fn.enter (vs := [.agg (cfg ch dao bl ti ao n cap tw).toArray, .int .u64 (nu.toNat : Int), .int .u64 (tm.toNat : Int)]) Tryd.func19 rfl rfl rfl ?_
  intro E R hR
  have hA := hA.le (hR N (by simp))
  change At _ _ E [R] _
  refine At.seq fun K1 hk_1 => ?_
  refine At.region ?_
  refine op_box (nxla rfl) rfl rfl rfl (fun N3 b3 B3 => ?_)
  change Blk N3 b3 _ (cfg ch dao bl ti ao n cap tw) at B3
  refine op_assign (nxlf rfl) rfl rfl ?_
  refine op_assign (nxlf rfl) rfl rfl ?_
  refine At.opsNil ?_
  refine At.norm (hk_1 ?_)
  refine At.seq fun K2 hk_2 => ?_
  refine At.seq fun K3 hk_3 => ?_
  refine At.region ?_
  refine op_loadAggB (ds := cfg ch dao bl ti ao n cap tw) (nxlf rfl) ag42 rfl B3 (cfg_all hb ht ho) hl mem0 rfl ?_
  refine op_callA (nxla rfl) (.cons rfl .nil) (rCheck_f hb ht ho hA hfn h20) Tryd.func21 rfl rfl (by simp) rfl ?_
  rintro v11 L11 ⟨rfl, rfl⟩
  change At _ _ _ [N3, R] _
  refine op_neq (nxlf rfl) rfl rfl rfl ?_
  refine At.opsNil ?_
  refine At.norm (hk_3 ?_)
  refine At.condP rfl (fun c12 => ?_) (fun c12 => ?_)
  · have hnp := chk_ne c12
    refine At.seq fun K4 hk_4 => ?_
    refine At.region ?_
    refine op_assign (nxlf rfl) rfl rfl ?_
    refine op_assign (nxlf rfl) rfl rfl ?_
    refine At.opsNil ?_
    refine At.norm (hk_4 ?_)
    refine At.ret (At.thenRet (?_))
    refine At.sub (L' := [R]) (.cons _ (.cons_cons _ (.slnil))) ?_
    refine At.retN (L1 := []) rfl (.tmp rfl (.tmp rfl .nil)) rfl (.refl _) (.refl _) ?_
    first
      | exact ⟨by rw [atI_f hnp, chk_f hnp], rfl⟩
      | exact ⟨by rw [atI_t hp, chk_t hp, hfin, at_tt g26 c32 c41]; rfl, rfl⟩
      | exact ⟨by rw [atI_t hp, chk_t hp, hfin, at_tf g26 c32 c41]; rfl, rfl⟩
      | exact ⟨by rw [atI_t hp, chk_t hp, hfin, at_ft g26 c32 c41]; rfl, rfl⟩
      | exact ⟨by rw [atI_t hp, chk_t hp, hfin, at_ff c32 c41], rfl⟩
      | (exfalso; omega)
      | exact ⟨by rw [atI_t hp, chk_t hp, hfin, at_no g26 hle], rfl⟩
  · have hp := chk_eq c12
    refine At.skip ?_
    refine At.norm (hk_2 ?_)
    refine At.seq fun K5 hk_5 => ?_
    refine At.region ?_
    refine op_assign (nxlf rfl) rfl rfl ?_
    refine At.opsNil ?_
    refine At.norm (hk_5 ?_)
    refine At.seq fun K6 hk_6 => ?_
    refine At.seq fun K7 hk_7 => ?_
    refine At.region ?_
    refine op_assign (nxlf rfl) rfl rfl ?_
    refine At.opsNil ?_
    refine At.norm (hk_7 ?_)
    refine At.block ?_
    refine At.loop (fun fr_ hp_ ms_ => ∃ (k : Nat), fr_ = [(2, .int .u64 (tm.toNat : Int)), (1, .int .u64 (nu.toNat : Int)), (3, .pointer (some ⟨b3, 0, none⟩)), (8, .int .i64 (lastI (blF bl nu) k : Int)), (9, .int .i64 (k : Int))] ∧ hp_ = [N3, R] ∧ 14 - k = ms_ ∧ (k ≤ 14)) ?_ (.refl _) ⟨0, rfl, rfl, rfl, by omega⟩ ?_
    · exact .cons (by first | exact lkI rfl (by omega) | rfl) (.cons (by first | exact lkI rfl (by omega) | rfl) (.cons (by first | exact lkI rfl (by omega) | rfl) (.cons (by first | exact lkI rfl (by omega) | rfl) (.cons (by first | exact lkI rfl (by omega) | rfl) .nil))))
    rintro _ _ _ ⟨k, rfl, rfl, rfl, hk⟩
    refine At.seq fun K8 hk_8 => ?_
    refine At.seq fun K9 hk_9 => ?_
    refine At.region ?_
    refine op_move (nxlf rfl) rfl rfl ?_
    refine op_lss (nxlf rfl) rfl rfl rfl ?_
    refine At.opsNil ?_
    refine At.norm (hk_9 ?_)
    refine At.condP rfl (fun c14 => ?_) (fun c14 => ?_)
    · refine At.skip ?_
      refine At.norm (hk_8 ?_)
      refine At.seq fun K10 hk_10 => ?_
      refine At.block ?_
      refine At.seq fun K11 hk_11 => ?_
      refine At.region ?_
      refine op_move (nxlf rfl) rfl rfl ?_
      refine op_fieldAddr (nxlf rfl) fl42_1 rfl rfl ?_
      refine op_idxA (nxlf rfl) ae38 rfl rfl (show _ = (((k : Nat)) : Int) from by omega) (by omega) rfl ?_
      refine op_loadB (nxlf rfl) sc22 rfl B3 (cfg_blk (i := k) hb (by omega)) mem0 rfl ?_
      refine op_move (nxlf rfl) rfl rfl ?_
      refine op_callA (nxla rfl) (.cons rfl (.cons rfl .nil)) (rCome_f (bl.getD k 0) nu) Tryd.func30 rfl rfl (by simp) rfl ?_
      rintro v22 L22 ⟨rfl, rfl⟩
      change At _ _ _ [N3, R] _
      refine At.opsNil ?_
      refine At.norm (hk_11 ?_)
      refine At.condB rfl (fun c22 => ?_) (fun c22 => ?_)
      · refine At.region ?_
        refine op_move (nxlf rfl) rfl rfl ?_
        refine op_assign (nxlf rfl) rfl rfl ?_
        refine At.opsNil ?_
        refine At.inNorm ?_
        refine At.norm (hk_10 ?_)
        refine At.region ?_
        refine op_move (nxlf rfl) rfl rfl ?_
        refine op_addI (nxlf rfl) rfl rfl (by omega) (by omega) rfl ?_
        refine op_assign (nxlf rfl) rfl rfl ?_
        refine At.opsNil ?_
        refine At.norm ?_
        have e1 := lastI_t (f := blF bl nu) (k := k) c22
        refine At.back ?_ (.refl _) ⟨k + 1, rfl, rfl, rfl, by omega⟩ ?_
        · exact .cons (by first | exact lkI rfl (by omega) | rfl) (.cons (by first | exact lkI rfl (by omega) | rfl) (.cons (by first | exact lkI rfl (by omega) | rfl) (.cons (by first | exact lkI rfl (by omega) | rfl) (.cons (by first | exact lkI rfl (by omega) | rfl) .nil))))
        · omega
      · refine At.skip ?_
        refine At.inNorm ?_
        refine At.norm (hk_10 ?_)
        refine At.region ?_
        refine op_move (nxlf rfl) rfl rfl ?_
        refine op_addI (nxlf rfl) rfl rfl (by omega) (by omega) rfl ?_
        refine op_assign (nxlf rfl) rfl rfl ?_
        refine At.opsNil ?_
        refine At.norm ?_
        have e1 := lastI_f (f := blF bl nu) (k := k) c22
        refine At.back ?_ (.refl _) ⟨k + 1, rfl, rfl, rfl, by omega⟩ ?_
        · exact .cons (by first | exact lkI rfl (by omega) | rfl) (.cons (by first | exact lkI rfl (by omega) | rfl) (.cons (by first | exact lkI rfl (by omega) | rfl) (.cons (by first | exact lkI rfl (by omega) | rfl) (.cons (by first | exact lkI rfl (by omega) | rfl) .nil))))
        · omega
    · refine At.exit (At.thenExit (At.thenExit (At.inHit ?_)))
      refine At.norm (hk_6 ?_)
      refine At.seq fun K12 hk_12 => ?_
      refine At.seq fun K13 hk_13 => ?_
      refine At.region ?_
      have hk14 : k = 14 := by omega
      subst hk14
      refine op_move (nxlf rfl) rfl rfl ?_
      refine op_eql (nxlf rfl) rfl rfl rfl ?_
      refine op_move (nxlf rfl) rfl rfl ?_
      refine At.partP (d := 26) rfl (fun g26 => ?_) (fun g26 => ?_)
      · refine op_fieldAddr (nxgf rfl rfl rfl rfl) fl42_2 rfl rfl ?_
        refine op_idxA (nxgf rfl rfl rfl rfl) ae39 rfl rfl (show _ = (((0 : Nat)) : Int) from by omega) (by omega) rfl ?_
        refine op_loadB (nxgf rfl rfl rfl rfl) sc22 rfl B3 (cfg_time (i := 0) hb ht (by omega)) mem0 rfl ?_
        refine op_move (nxgf rfl rfl rfl rfl) rfl rfl ?_
        refine op_callA (nxga rfl rfl rfl rfl) (.cons rfl (.cons rfl .nil)) (rCome_f (ti.getD 0 0) tm) Tryd.func30 rfl rfl (by simp) rfl ?_
        rintro v31 L31 ⟨rfl, rfl⟩
        change At _ _ _ [N3, R] _
        refine op_pickT (nxlf rfl) rfl rfl rfl ?_
        refine At.opsNil ?_
        refine At.norm (hk_13 ?_)
        refine At.condB rfl (fun c32 => ?_) (fun c32 => ?_)
        · refine At.region ?_
          refine op_assign (nxlf rfl) rfl rfl ?_
          refine At.opsNil ?_
          refine At.norm (hk_12 ?_)
          refine At.seq fun K14 hk_14 => ?_
          refine At.seq fun K15 hk_15 => ?_
          refine At.region ?_
          refine op_move (nxlf rfl) rfl rfl ?_
          refine op_geq (nxlf rfl) rfl rfl rfl ?_
          refine op_move (nxlf rfl) rfl rfl ?_
          refine At.partP (d := 35) rfl (fun g35 => ?_) (fun g35 => ?_)
          · refine op_fieldAddr (nxgf rfl rfl rfl rfl) fl42_2 rfl rfl ?_
            refine op_idxA (nxgf rfl rfl rfl rfl) ae39 rfl rfl (show _ = (((1 : Nat)) : Int) from by omega) (by omega) rfl ?_
            refine op_loadB (nxgf rfl rfl rfl rfl) sc22 rfl B3 (cfg_time (i := 1) hb ht (by omega)) mem0 rfl ?_
            refine op_move (nxgf rfl rfl rfl rfl) rfl rfl ?_
            refine op_callA (nxga rfl rfl rfl rfl) (.cons rfl (.cons rfl .nil)) (rCome_f (ti.getD 1 0) tm) Tryd.func30 rfl rfl (by simp) rfl ?_
            rintro v40 L40 ⟨rfl, rfl⟩
            change At _ _ _ [N3, R] _
            refine op_pickT (nxlf rfl) rfl rfl rfl ?_
            refine At.opsNil ?_
            refine At.norm (hk_15 ?_)
            refine At.condB rfl (fun c41 => ?_) (fun c41 => ?_)
            · refine At.region ?_
              refine op_assign (nxlf rfl) rfl rfl ?_
              refine At.opsNil ?_
              refine At.norm (hk_14 ?_)
              refine At.seq fun K16 hk_16 => ?_
              refine At.region ?_
              refine op_move (nxlf rfl) rfl rfl ?_
              refine op_assign (nxlf rfl) rfl rfl ?_
              refine op_assign (nxlf rfl) rfl rfl ?_
              refine At.opsNil ?_
              refine At.norm (hk_16 ?_)
              refine At.ret (?_)
              refine At.sub (L' := [R]) (.cons _ (.cons_cons _ (.slnil))) ?_
              refine At.retN (L1 := []) rfl (.tmp rfl (.tmp rfl .nil)) rfl (.refl _) (.refl _) ?_
              first
                | exact ⟨by rw [atI_f hnp, chk_f hnp], rfl⟩
                | exact ⟨by rw [atI_t hp, chk_t hp, hfin, at_tt g26 c32 c41]; rfl, rfl⟩
                | exact ⟨by rw [atI_t hp, chk_t hp, hfin, at_tf g26 c32 c41]; rfl, rfl⟩
                | exact ⟨by rw [atI_t hp, chk_t hp, hfin, at_ft g26 c32 c41]; rfl, rfl⟩
                | exact ⟨by rw [atI_t hp, chk_t hp, hfin, at_ff c32 c41], rfl⟩
                | (exfalso; omega)
                | exact ⟨by rw [atI_t hp, chk_t hp, hfin, at_no g26 hle], rfl⟩
            · refine At.skip ?_
              refine At.norm (hk_14 ?_)
              refine At.seq fun K17 hk_17 => ?_
              refine At.region ?_
              refine op_move (nxlf rfl) rfl rfl ?_
              refine op_assign (nxlf rfl) rfl rfl ?_
              refine op_assign (nxlf rfl) rfl rfl ?_
              refine At.opsNil ?_
              refine At.norm (hk_17 ?_)
              refine At.ret (?_)
              refine At.sub (L' := [R]) (.cons _ (.cons_cons _ (.slnil))) ?_
              refine At.retN (L1 := []) rfl (.tmp rfl (.tmp rfl .nil)) rfl (.refl _) (.refl _) ?_
              first
                | exact ⟨by rw [atI_f hnp, chk_f hnp], rfl⟩
                | exact ⟨by rw [atI_t hp, chk_t hp, hfin, at_tt g26 c32 c41]; rfl, rfl⟩
                | exact ⟨by rw [atI_t hp, chk_t hp, hfin, at_tf g26 c32 c41]; rfl, rfl⟩
                | exact ⟨by rw [atI_t hp, chk_t hp, hfin, at_ft g26 c32 c41]; rfl, rfl⟩
                | exact ⟨by rw [atI_t hp, chk_t hp, hfin, at_ff c32 c41], rfl⟩
                | (exfalso; omega)
                | exact ⟨by rw [atI_t hp, chk_t hp, hfin, at_no g26 hle], rfl⟩
          · refine op_skip rfl rfl rfl rfl rfl rfl rfl ?_
            refine op_skip rfl rfl rfl rfl rfl rfl rfl ?_
            refine op_skip rfl rfl rfl rfl rfl rfl rfl ?_
            refine op_skip rfl rfl rfl rfl rfl rfl rfl ?_
            refine op_skip rfl rfl rfl rfl rfl rfl rfl ?_
            refine op_pickF (nxlf rfl) rfl rfl rfl ?_
            refine At.opsNil ?_
            refine At.norm (hk_15 ?_)
            refine At.condF rfl ?_
            refine At.skip ?_
            refine At.norm (hk_14 ?_)
            refine At.seq fun K18 hk_18 => ?_
            refine At.region ?_
            refine op_move (nxlf rfl) rfl rfl ?_
            refine op_assign (nxlf rfl) rfl rfl ?_
            refine op_assign (nxlf rfl) rfl rfl ?_
            refine At.opsNil ?_
            refine At.norm (hk_18 ?_)
            refine At.ret (?_)
            refine At.sub (L' := [R]) (.cons _ (.cons_cons _ (.slnil))) ?_
            refine At.retN (L1 := []) rfl (.tmp rfl (.tmp rfl .nil)) rfl (.refl _) (.refl _) ?_
            first
              | exact ⟨by rw [atI_f hnp, chk_f hnp], rfl⟩
              | exact ⟨by rw [atI_t hp, chk_t hp, hfin, at_tt g26 c32 c41]; rfl, rfl⟩
              | exact ⟨by rw [atI_t hp, chk_t hp, hfin, at_tf g26 c32 c41]; rfl, rfl⟩
              | exact ⟨by rw [atI_t hp, chk_t hp, hfin, at_ft g26 c32 c41]; rfl, rfl⟩
              | exact ⟨by rw [atI_t hp, chk_t hp, hfin, at_ff c32 c41], rfl⟩
              | (exfalso; omega)
              | exact ⟨by rw [atI_t hp, chk_t hp, hfin, at_no g26 hle], rfl⟩
        · refine At.skip ?_
          refine At.norm (hk_12 ?_)
          refine At.seq fun K19 hk_19 => ?_
          refine At.seq fun K20 hk_20 => ?_
          refine At.region ?_
          refine op_move (nxlf rfl) rfl rfl ?_
          refine op_geq (nxlf rfl) rfl rfl rfl ?_
          refine op_move (nxlf rfl) rfl rfl ?_
          refine At.partP (d := 35) rfl (fun g35 => ?_) (fun g35 => ?_)
          · refine op_fieldAddr (nxgf rfl rfl rfl rfl) fl42_2 rfl rfl ?_
            refine op_idxA (nxgf rfl rfl rfl rfl) ae39 rfl rfl (show _ = (((1 : Nat)) : Int) from by omega) (by omega) rfl ?_
            refine op_loadB (nxgf rfl rfl rfl rfl) sc22 rfl B3 (cfg_time (i := 1) hb ht (by omega)) mem0 rfl ?_
            refine op_move (nxgf rfl rfl rfl rfl) rfl rfl ?_
            refine op_callA (nxga rfl rfl rfl rfl) (.cons rfl (.cons rfl .nil)) (rCome_f (ti.getD 1 0) tm) Tryd.func30 rfl rfl (by simp) rfl ?_
            rintro v40 L40 ⟨rfl, rfl⟩
            change At _ _ _ [N3, R] _
            refine op_pickT (nxlf rfl) rfl rfl rfl ?_
            refine At.opsNil ?_
            refine At.norm (hk_20 ?_)
            refine At.condB rfl (fun c41 => ?_) (fun c41 => ?_)
            · refine At.region ?_
              refine op_assign (nxlf rfl) rfl rfl ?_
              refine At.opsNil ?_
              refine At.norm (hk_19 ?_)
              refine At.seq fun K21 hk_21 => ?_
              refine At.region ?_
              refine op_move (nxlf rfl) rfl rfl ?_
              refine op_assign (nxlf rfl) rfl rfl ?_
              refine op_assign (nxlf rfl) rfl rfl ?_
              refine At.opsNil ?_
              refine At.norm (hk_21 ?_)
              refine At.ret (?_)
              refine At.sub (L' := [R]) (.cons _ (.cons_cons _ (.slnil))) ?_
              refine At.retN (L1 := []) rfl (.tmp rfl (.tmp rfl .nil)) rfl (.refl _) (.refl _) ?_
              first
                | exact ⟨by rw [atI_f hnp, chk_f hnp], rfl⟩
                | exact ⟨by rw [atI_t hp, chk_t hp, hfin, at_tt g26 c32 c41]; rfl, rfl⟩
                | exact ⟨by rw [atI_t hp, chk_t hp, hfin, at_tf g26 c32 c41]; rfl, rfl⟩
                | exact ⟨by rw [atI_t hp, chk_t hp, hfin, at_ft g26 c32 c41]; rfl, rfl⟩
                | exact ⟨by rw [atI_t hp, chk_t hp, hfin, at_ff c32 c41], rfl⟩
                | (exfalso; omega)
                | exact ⟨by rw [atI_t hp, chk_t hp, hfin, at_no g26 hle], rfl⟩
            · refine At.skip ?_
              refine At.norm (hk_19 ?_)
              refine At.seq fun K22 hk_22 => ?_
              refine At.region ?_
              refine op_move (nxlf rfl) rfl rfl ?_
              refine op_assign (nxlf rfl) rfl rfl ?_
              refine op_assign (nxlf rfl) rfl rfl ?_
              refine At.opsNil ?_
              refine At.norm (hk_22 ?_)
              refine At.ret (?_)
              refine At.sub (L' := [R]) (.cons _ (.cons_cons _ (.slnil))) ?_
              refine At.retN (L1 := []) rfl (.tmp rfl (.tmp rfl .nil)) rfl (.refl _) (.refl _) ?_
              first
                | exact ⟨by rw [atI_f hnp, chk_f hnp], rfl⟩
                | exact ⟨by rw [atI_t hp, chk_t hp, hfin, at_tt g26 c32 c41]; rfl, rfl⟩
                | exact ⟨by rw [atI_t hp, chk_t hp, hfin, at_tf g26 c32 c41]; rfl, rfl⟩
                | exact ⟨by rw [atI_t hp, chk_t hp, hfin, at_ft g26 c32 c41]; rfl, rfl⟩
                | exact ⟨by rw [atI_t hp, chk_t hp, hfin, at_ff c32 c41], rfl⟩
                | (exfalso; omega)
                | exact ⟨by rw [atI_t hp, chk_t hp, hfin, at_no g26 hle], rfl⟩
          · refine op_skip rfl rfl rfl rfl rfl rfl rfl ?_
            refine op_skip rfl rfl rfl rfl rfl rfl rfl ?_
            refine op_skip rfl rfl rfl rfl rfl rfl rfl ?_
            refine op_skip rfl rfl rfl rfl rfl rfl rfl ?_
            refine op_skip rfl rfl rfl rfl rfl rfl rfl ?_
            refine op_pickF (nxlf rfl) rfl rfl rfl ?_
            refine At.opsNil ?_
            refine At.norm (hk_20 ?_)
            refine At.condF rfl ?_
            refine At.skip ?_
            refine At.norm (hk_19 ?_)
            refine At.seq fun K23 hk_23 => ?_
            refine At.region ?_
            refine op_move (nxlf rfl) rfl rfl ?_
            refine op_assign (nxlf rfl) rfl rfl ?_
            refine op_assign (nxlf rfl) rfl rfl ?_
            refine At.opsNil ?_
            refine At.norm (hk_23 ?_)
            refine At.ret (?_)
            refine At.sub (L' := [R]) (.cons _ (.cons_cons _ (.slnil))) ?_
            refine At.retN (L1 := []) rfl (.tmp rfl (.tmp rfl .nil)) rfl (.refl _) (.refl _) ?_
            first
              | exact ⟨by rw [atI_f hnp, chk_f hnp], rfl⟩
              | exact ⟨by rw [atI_t hp, chk_t hp, hfin, at_tt g26 c32 c41]; rfl, rfl⟩
              | exact ⟨by rw [atI_t hp, chk_t hp, hfin, at_tf g26 c32 c41]; rfl, rfl⟩
              | exact ⟨by rw [atI_t hp, chk_t hp, hfin, at_ft g26 c32 c41]; rfl, rfl⟩
              | exact ⟨by rw [atI_t hp, chk_t hp, hfin, at_ff c32 c41], rfl⟩
              | (exfalso; omega)
              | exact ⟨by rw [atI_t hp, chk_t hp, hfin, at_no g26 hle], rfl⟩
      · refine op_skip rfl rfl rfl rfl rfl rfl rfl ?_
        refine op_skip rfl rfl rfl rfl rfl rfl rfl ?_
        refine op_skip rfl rfl rfl rfl rfl rfl rfl ?_
        refine op_skip rfl rfl rfl rfl rfl rfl rfl ?_
        refine op_skip rfl rfl rfl rfl rfl rfl rfl ?_
        refine op_pickF (nxlf rfl) rfl rfl rfl ?_
        refine At.opsNil ?_
        refine At.norm (hk_13 ?_)
        refine At.condF rfl ?_
        refine At.skip ?_
        refine At.norm (hk_12 ?_)
        refine At.seq fun K24 hk_24 => ?_
        refine At.seq fun K25 hk_25 => ?_
        refine At.region ?_
        refine op_move (nxlf rfl) rfl rfl ?_
        refine op_geq (nxlf rfl) rfl rfl rfl ?_
        refine op_move (nxlf rfl) rfl rfl ?_
        refine At.partP (d := 35) rfl (fun g35 => ?_) (fun g35 => ?_)
        · refine op_fieldAddr (nxgf rfl rfl rfl rfl) fl42_2 rfl rfl ?_
          refine op_idxA (nxgf rfl rfl rfl rfl) ae39 rfl rfl (show _ = (((1 : Nat)) : Int) from by omega) (by omega) rfl ?_
          refine op_loadB (nxgf rfl rfl rfl rfl) sc22 rfl B3 (cfg_time (i := 1) hb ht (by omega)) mem0 rfl ?_
          refine op_move (nxgf rfl rfl rfl rfl) rfl rfl ?_
          refine op_callA (nxga rfl rfl rfl rfl) (.cons rfl (.cons rfl .nil)) (rCome_f (ti.getD 1 0) tm) Tryd.func30 rfl rfl (by simp) rfl ?_
          rintro v40 L40 ⟨rfl, rfl⟩
          change At _ _ _ [N3, R] _
          refine op_pickT (nxlf rfl) rfl rfl rfl ?_
          refine At.opsNil ?_
          refine At.norm (hk_25 ?_)
          refine At.condB rfl (fun c41 => ?_) (fun c41 => ?_)
          · refine At.region ?_
            refine op_assign (nxlf rfl) rfl rfl ?_
            refine At.opsNil ?_
            refine At.norm (hk_24 ?_)
            refine At.seq fun K26 hk_26 => ?_
            refine At.region ?_
            refine op_move (nxlf rfl) rfl rfl ?_
            refine op_assign (nxlf rfl) rfl rfl ?_
            refine op_assign (nxlf rfl) rfl rfl ?_
            refine At.opsNil ?_
            refine At.norm (hk_26 ?_)
            refine At.ret (?_)
            refine At.sub (L' := [R]) (.cons _ (.cons_cons _ (.slnil))) ?_
            refine At.retN (L1 := []) rfl (.tmp rfl (.tmp rfl .nil)) rfl (.refl _) (.refl _) ?_
            first
              | exact ⟨by rw [atI_f hnp, chk_f hnp], rfl⟩
              | exact ⟨by rw [atI_t hp, chk_t hp, hfin, at_tt g26 c32 c41]; rfl, rfl⟩
              | exact ⟨by rw [atI_t hp, chk_t hp, hfin, at_tf g26 c32 c41]; rfl, rfl⟩
              | exact ⟨by rw [atI_t hp, chk_t hp, hfin, at_ft g26 c32 c41]; rfl, rfl⟩
              | exact ⟨by rw [atI_t hp, chk_t hp, hfin, at_ff c32 c41], rfl⟩
              | (exfalso; omega)
              | exact ⟨by rw [atI_t hp, chk_t hp, hfin, at_no g26 hle], rfl⟩
          · refine At.skip ?_
            refine At.norm (hk_24 ?_)
            refine At.seq fun K27 hk_27 => ?_
            refine At.region ?_
            refine op_move (nxlf rfl) rfl rfl ?_
            refine op_assign (nxlf rfl) rfl rfl ?_
            refine op_assign (nxlf rfl) rfl rfl ?_
            refine At.opsNil ?_
            refine At.norm (hk_27 ?_)
            refine At.ret (?_)
            refine At.sub (L' := [R]) (.cons _ (.cons_cons _ (.slnil))) ?_
            refine At.retN (L1 := []) rfl (.tmp rfl (.tmp rfl .nil)) rfl (.refl _) (.refl _) ?_
            first
              | exact ⟨by rw [atI_f hnp, chk_f hnp], rfl⟩
              | exact ⟨by rw [atI_t hp, chk_t hp, hfin, at_tt g26 c32 c41]; rfl, rfl⟩
              | exact ⟨by rw [atI_t hp, chk_t hp, hfin, at_tf g26 c32 c41]; rfl, rfl⟩
              | exact ⟨by rw [atI_t hp, chk_t hp, hfin, at_ft g26 c32 c41]; rfl, rfl⟩
              | exact ⟨by rw [atI_t hp, chk_t hp, hfin, at_ff c32 c41], rfl⟩
              | (exfalso; omega)
              | exact ⟨by rw [atI_t hp, chk_t hp, hfin, at_no g26 hle], rfl⟩
        · refine op_skip rfl rfl rfl rfl rfl rfl rfl ?_
          refine op_skip rfl rfl rfl rfl rfl rfl rfl ?_
          refine op_skip rfl rfl rfl rfl rfl rfl rfl ?_
          refine op_skip rfl rfl rfl rfl rfl rfl rfl ?_
          refine op_skip rfl rfl rfl rfl rfl rfl rfl ?_
          refine op_pickF (nxlf rfl) rfl rfl rfl ?_
          refine At.opsNil ?_
          refine At.norm (hk_25 ?_)
          refine At.condF rfl ?_
          refine At.skip ?_
          refine At.norm (hk_24 ?_)
          refine At.seq fun K28 hk_28 => ?_
          refine At.region ?_
          refine op_move (nxlf rfl) rfl rfl ?_
          refine op_assign (nxlf rfl) rfl rfl ?_
          refine op_assign (nxlf rfl) rfl rfl ?_
          refine At.opsNil ?_
          refine At.norm (hk_28 ?_)
          refine At.ret (?_)
          refine At.sub (L' := [R]) (.cons _ (.cons_cons _ (.slnil))) ?_
          refine At.retN (L1 := []) rfl (.tmp rfl (.tmp rfl .nil)) rfl (.refl _) (.refl _) ?_
          first
            | exact ⟨by rw [atI_f hnp, chk_f hnp], rfl⟩
            | exact ⟨by rw [atI_t hp, chk_t hp, hfin, at_tt g26 c32 c41]; rfl, rfl⟩
            | exact ⟨by rw [atI_t hp, chk_t hp, hfin, at_tf g26 c32 c41]; rfl, rfl⟩
            | exact ⟨by rw [atI_t hp, chk_t hp, hfin, at_ft g26 c32 c41]; rfl, rfl⟩
            | exact ⟨by rw [atI_t hp, chk_t hp, hfin, at_ff c32 c41], rfl⟩
            | (exfalso; omega)
            | exact ⟨by rw [atI_t hp, chk_t hp, hfin, at_no g26 hle], rfl⟩
end
end Go.Proofs.YtoabimaidpbkiaaDoor
