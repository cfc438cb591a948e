/- Several texts in one: see the remarks ahead of each part. No condition but those told there. -/
import Derived.Test.YtefljbbpaideaaaK3
/- limb.Add, limb.Sub: sums and differences of numbers in limbs. Condition: numbers of at most 2^40 limbs; for Sub: the second is no greater. -/
namespace Go.Proofs.Ytefljbbpaideaaa
set_option linter.unusedVariables false
set_option linter.unusedSimpArgs false
open Go Go.RowKit
theorem bytesN_pad {w V : Nat} (h : V < 256 ^ w) : List.replicate (w - (bytesOf V).length) 0 ++ bytesOf V = bytesN w V := by
  have hl := length_bytesOf V
  have h1 := byteLen_le.2 h
  have h2 : (List.replicate (w - (bytesOf V).length) (0 : UInt8) ++ bytesOf V).length = w := by rw [List.length_append, List.length_replicate]; omega
  have hz : be (List.replicate (w - (bytesOf V).length) (0 : UInt8)) = 0 := by
    generalize w - (bytesOf V).length = m
    induction m with
    | zero => rfl
    | succ m ih => rw [List.replicate_succ, be_cons, ih]; simp
  have h3 : be (List.replicate (w - (bytesOf V).length) (0 : UInt8) ++ bytesOf V) = be (bytesN w V) := by
    rw [be_append, be_bytesOf, hz, be_bytesN, Nat.mod_eq_of_lt h]; simp
  exact be_inj (by rw [h2, length_bytesN]) h3
/-- Limbs in new memory: a number without zeros at its upper end. -/
def LimbsP (V : Nat) (v : Value) (L : List Heaplet) : Prop :=
  ∃ M a c, v = .slice a (limbsOf V).length c ∧ L = [M] ∧ RSl M 1 a (limbsOf V).length c (u64s (limbsOf V))
theorem RSl.trimmed {N : Heaplet} {ao : Option Addr} {n cap : Nat} {l : List UInt64} (h : RSl N 1 ao n cap (u64s l)) (ht : l.take (limbsOf (v64 l)).length = limbsOf (v64 l)) (hle : (limbsOf (v64 l)).length ≤ n) :
    RSl N 1 ao (limbsOf (v64 l)).length (limbsOf (v64 l)).length (u64s (limbsOf (v64 l))) := by
  have := h.take (hi := (limbsOf (v64 l)).length) (m := (limbsOf (v64 l)).length) (Nat.le_refl _) (Nat.le_trans hle h.2.1) hle
  rwa [Nat.mul_one, u64s_takeR, ht] at this
theorem getD_big {α : Type} {l : List α} {k : Nat} {z : α} (h : l.length ≤ k) : l.getD k z = z := by
  rw [List.getD_eq_getElem?_getD, List.getElem?_eq_none h]; rfl
theorem set_rep {α : Type} {w : List α} {j m : Nat} {z y : α} (hw : w.length = j) (h : 0 < m) : (w ++ List.replicate m z).set j y = (w ++ [y]) ++ List.replicate (m - 1) z := by
  obtain ⟨k, rfl⟩ : ∃ k, m = k + 1 := ⟨m - 1, by omega⟩
  rw [List.replicate_succ, set_mid hw]; rfl
theorem getD_app {α : Type} {p r : List α} {j : Nat} {z : α} (h : j < p.length) : (p ++ r).getD j z = p.getD j z := by
  rw [List.getD_eq_getElem?_getD, List.getD_eq_getElem?_getD, List.getElem?_append_left h]
theorem limbs_mono {A B : Nat} (h : A ≤ B) : (limbsOf A).length ≤ (limbsOf B).length := by
  rw [length_limbsOf, length_limbsOf]
  have := bitLen_mono h
  omega
theorem Add_f {N M : Heaplet} {ao bo : Option Addr} {n m ca cb : Nat} {a b : List UInt64} (ha : RSl N 1 ao n ca (u64s a)) (hb : RSl M 1 bo m cb (u64s b)) (hn : n ≤ 1099511627776) (hm : m ≤ 1099511627776) :
    Fn Try.prog 132 #[.slice ao n ca, .slice bo m cb] [] [N, M] (LimbsP (v64 a + v64 b)) := by
  have hca := ha.cap63
  have hcb := hb.cap63
  have hal := ha.len64
  have hbl := hb.len64
  refine Fn.enter (vs := [.slice ao n ca, .slice bo m cb]) Try.func132 rfl rfl rfl ?_
  intro E R hR
  have ha := ha.le (hR N (by simp))
  have hb := hb.le (hR M (by simp))
  change At _ _ E [R] _
  refine At.seq fun K1 hk_1 => ?_
  refine At.region ?_
  refine op_assign (nxlf rfl) rfl rfl ?_
  refine At.opsNil ?_
  refine At.norm (hk_1 ?_)
  refine At.seq fun K2 hk_2 => ?_
  refine At.meet (fun fr_ hp_ => ∃ (x y : List UInt64) (xo yo : Option Addr) (xn xc yn yc : Nat), fr_ = [(0, .slice xo xn xc), (1, .slice yo yn yc)] ∧ hp_ = [R] ∧ (RSl R 1 xo xn xc (u64s x)) ∧ (RSl R 1 yo yn yc (u64s y)) ∧ (v64 x + v64 y = v64 a + v64 b) ∧ (yn ≤ xn) ∧ (xn ≤ 1099511627776)) ?_ (fun K2_ jk_2 => ?_)
  rotate_left
  · skip
    refine At.seq fun K3 hk_3 => ?_
    refine At.region ?_
    refine op_move (nxlf rfl) rfl rfl ?_
    refine op_lenS (nxlf rfl) se95 rfl rfl ?_
    refine op_move (nxlf rfl) rfl rfl ?_
    refine op_lenS (nxlf rfl) se95 rfl rfl ?_
    refine op_lss (nxlf rfl) rfl rfl rfl ?_
    refine At.opsNil ?_
    refine At.norm (hk_3 ?_)
    refine At.condP rfl (fun c13 => ?_) (fun c13 => ?_)
    · refine At.region ?_
      refine op_move (nxlf rfl) rfl rfl ?_
      refine op_move (nxlf rfl) rfl rfl ?_
      refine op_assign (nxlf rfl) rfl rfl ?_
      refine op_assign (nxlf rfl) rfl rfl ?_
      refine At.opsNil ?_
      refine At.norm (jk_2 ?_ (.refl _) ⟨b, a, bo, ao, m, cb, n, ca, rfl, rfl, hb, ha, Nat.add_comm _ _, by omega, hm⟩)
      exact .cons (by first | exact lkI rfl (by omega) | rfl) (.cons (by first | exact lkI rfl (by omega) | rfl) .nil)
    · refine At.skip ?_
      refine At.norm (jk_2 ?_ (.refl _) ⟨a, b, ao, bo, n, ca, m, cb, rfl, rfl, ha, hb, rfl, by omega, hn⟩)
      exact .cons (by first | exact lkI rfl (by omega) | rfl) (.cons (by first | exact lkI rfl (by omega) | rfl) .nil)
  rintro _ _ ⟨x, y, xo, yo, xn, xc, yn, yc, rfl, rfl, hx, hy, hs, hle, hxn⟩
  have hxl := hx.len64
  have hyl := hy.len64
  have hxc := hx.cap63
  have hyc := hy.cap63
  refine hk_2 ?_
  refine At.seq fun K4 hk_4 => ?_
  refine At.region ?_
  refine op_move (nxlf rfl) rfl rfl ?_
  refine op_lenS (nxlf rfl) se95 rfl rfl ?_
  refine op_addI (nxlf rfl) rfl rfl (by omega) (by omega) rfl ?_
  refine op_make (nxla rfl) Try.underlying95 te22 rfl rfl (show _ = (((xn + 1 : Nat)) : Int) from by omega) (show _ = (((xn + 1 : Nat)) : Int) from by omega) (by omega) (by unfold maxLen; omega) rfl (fun N19 a19 r19 => ?_)
  rw [made_one _ _ rfl, zero_u64s] at r19
  have s19 := r19.rsl
  refine op_assign (nxlf rfl) rfl rfl ?_
  refine op_assign (nxlf rfl) rfl rfl ?_
  refine At.opsNil ?_
  refine At.norm (hk_4 ?_)
  refine At.seq fun K5 hk_5 => ?_
  refine At.seq fun K6 hk_6 => ?_
  refine At.region ?_
  refine op_move (nxlf rfl) rfl rfl ?_
  refine op_lenS (nxlf rfl) se95 rfl rfl ?_
  refine op_move (nxlf rfl) rfl rfl ?_
  refine At.opsNil ?_
  refine At.norm (hk_6 ?_)
  refine At.block ?_
  refine At.loop (fun fr_ hp_ ms_ => ∃ (k : Nat) (c : UInt64) (w : List UInt64) (N19 : Heaplet), fr_ = [(0, .slice xo xn xc), (1, .slice yo yn yc), (5, .slice a19 (xn + 1) (xn + 1)), (6, .int .u64 (c.toNat : Int)), (21, .int .i64 (xn : Int)), (22, .int .i64 (k : Int))] ∧ hp_ = [N19, R] ∧ xn - k = ms_ ∧ (k ≤ xn) ∧ (w.length = k) ∧ (c.toNat ≤ 1) ∧ (v64 w + c.toNat * 2 ^ (64 * k) = v64 (x.take k) + v64 (y.take k)) ∧ (Row N19 22 1 a19 (xn + 1) (xn + 1) (u64s (w ++ List.replicate (xn + 1 - k) 0)))) ?_ (.refl _) ⟨0, 0, [], N19, rfl, rfl, rfl, by omega, rfl, by decide, by simp; rfl, r19⟩ ?_
  · exact .cons (by first | exact lkI rfl (by omega) | rfl) (.cons (by first | exact lkI rfl (by omega) | rfl) (.cons (by first | exact lkI rfl (by omega) | rfl) (.cons (by first | exact lkI rfl (by omega) | rfl) (.cons (by first | exact lkI rfl (by omega) | rfl) (.cons (by first | exact lkI rfl (by omega) | rfl) .nil)))))
  rintro _ _ _ ⟨k, c, w, N19, rfl, rfl, rfl, hk, hw, hc, hv, r19⟩
  have s19 := r19.rsl
  refine At.seq fun K7 hk_7 => ?_
  refine At.region ?_
  refine op_lss (nxlf rfl) rfl rfl rfl ?_
  refine At.opsNil ?_
  refine At.norm (hk_7 ?_)
  refine At.seq fun K8 hk_8 => ?_
  refine At.condP rfl (fun c23 => ?_) (fun c23 => ?_)
  · refine At.skip ?_
    refine At.norm (hk_8 ?_)
    refine At.seq fun K9 hk_9 => ?_
    refine At.block ?_
    refine At.seq fun K10 hk_10 => ?_
    refine At.region ?_
    refine op_move (nxlf rfl) rfl rfl ?_
    refine op_assign (nxlf rfl) rfl rfl ?_
    refine At.opsNil ?_
    refine At.norm (hk_10 ?_)
    refine At.seq fun K11 hk_11 => ?_
    refine At.region ?_
    refine op_assign (nxlf rfl) rfl rfl ?_
    refine At.opsNil ?_
    refine At.norm (hk_11 ?_)
    refine At.seq fun K12 hk_12 => ?_
    refine At.meet (fun fr_ hp_ => fr_ = [(0, .slice xo xn xc), (1, .slice yo yn yc), (5, .slice a19 (xn + 1) (xn + 1)), (6, .int .u64 (c.toNat : Int)), (7, .int .i64 (k : Int)), (8, .int .u64 ((y.getD k 0).toNat : Int)), (21, .int .i64 (xn : Int)), (22, .int .i64 (k : Int))] ∧ hp_ = [N19, R] ∧ (True)) ?_ (fun K12_ jk_12 => ?_)
    rotate_left
    · skip
      refine At.seq fun K13 hk_13 => ?_
      refine At.region ?_
      refine op_move (nxlf rfl) rfl rfl ?_
      refine op_move (nxlf rfl) rfl rfl ?_
      refine op_lenS (nxlf rfl) se95 rfl rfl ?_
      refine op_lss (nxlf rfl) rfl rfl rfl ?_
      refine At.opsNil ?_
      refine At.norm (hk_13 ?_)
      refine At.condP rfl (fun c28 => ?_) (fun c28 => ?_)
      · refine At.region ?_
        refine op_move (nxlf rfl) rfl rfl ?_
        refine op_move (nxlf rfl) rfl rfl ?_
        refine op_idx1 (nxlf rfl) se95 rfl rfl hy (show _ = (((k : Nat)) : Int) from by omega) (by omega) rfl ?_
        refine op_loadE (nxlf rfl) sc22 rfl hy (by first | exact get8 (by omega) | exact get64 (by omega) | exact get32 (by omega)) (by first | exact mem0 | exact mem1 | exact mem2 | exact mem3 | exact mem4 | exact mem5 | exact mem6 | exact mem7 | exact mem8 | exact mem9) rfl ?_
        refine op_assign (nxlf rfl) rfl rfl ?_
        refine At.opsNil ?_
        refine At.norm (jk_12 ?_ (.refl _) ⟨rfl, rfl, trivial⟩)
        exact .cons (by first | exact lkI rfl (by omega) | rfl) (.cons (by first | exact lkI rfl (by omega) | rfl) (.cons (by first | exact lkI rfl (by omega) | rfl) (.cons (by first | exact lkI rfl (by omega) | rfl) (.cons (by first | exact lkI rfl (by omega) | rfl) (.cons (by first | exact lkI rfl (by omega) | rfl) (.cons (by first | exact lkI rfl (by omega) | rfl) (.cons (by first | exact lkI rfl (by omega) | rfl) .nil)))))))
      · have hz : (y.getD k 0).toNat = 0 := by rw [getD_big (by omega)]; rfl
        refine At.skip ?_
        refine At.norm (jk_12 ?_ (.refl _) ⟨rfl, rfl, trivial⟩)
        exact .cons (by first | exact lkI rfl (by omega) | rfl) (.cons (by first | exact lkI rfl (by omega) | rfl) (.cons (by first | exact lkI rfl (by omega) | rfl) (.cons (by first | exact lkI rfl (by omega) | rfl) (.cons (by first | exact lkI rfl (by omega) | rfl) (.cons (by first | exact lkI rfl (by omega) | rfl) (.cons (by first | exact lkI rfl (by omega) | rfl) (.cons (by first | exact lkI rfl (by omega) | rfl) .nil)))))))
    rintro _ _ ⟨rfl, rfl, ht⟩
    refine hk_12 ?_
    refine At.region ?_
    refine op_move (nxlf rfl) rfl rfl ?_
    refine op_move (nxlf rfl) rfl rfl ?_
    refine op_move (nxlf rfl) rfl rfl ?_
    refine op_move (nxlf rfl) rfl rfl ?_
    refine op_idx1 (nxlf rfl) se95 rfl rfl hx (show _ = (((k : Nat)) : Int) from by omega) (by omega) rfl ?_
    refine op_loadE (nxlf rfl) sc22 rfl hx (by first | exact get8 (by omega) | exact get64 (by omega) | exact get32 (by omega)) (by first | exact mem0 | exact mem1 | exact mem2 | exact mem3 | exact mem4 | exact mem5 | exact mem6 | exact mem7 | exact mem8 | exact mem9) rfl ?_
    refine op_move (nxlf rfl) rfl rfl ?_
    refine op_move (nxlf rfl) rfl rfl ?_
    refine op_ext (nxla rfl) (.cons rfl (.cons rfl (.cons rfl .nil))) (Add64_x (x.getD k 0) (y.getD k 0) c hc) rfl ?_
    refine op_move (nxlf rfl) rfl rfl ?_
    refine op_extract (nxlf rfl) rfl rfl rfl ?_
    refine op_extract (nxlf rfl) rfl rfl rfl ?_
    refine op_idx1 (nxlf rfl) se95 rfl rfl s19 (show _ = (((k : Nat)) : Int) from by omega) (by omega) rfl ?_
    refine op_storeE (nxl rfl) sz22 rfl rfl rfl rfl rfl r19 (by simp <;> omega) (by simp) sel0 (fun N19 r19 => ?_)
    simp only [setL] at r19
    rw [set_u64s, set_fill hw (by omega)] at r19
    have s19 := r19.rsl
    refine op_assign (nxlf rfl) rfl rfl ?_
    refine At.opsNil ?_
    refine At.inNorm ?_
    refine At.norm (hk_9 ?_)
    refine At.region ?_
    refine op_addI (nxlf rfl) rfl rfl (by omega) (by omega) rfl ?_
    refine op_move (nxlf rfl) rfl rfl ?_
    refine At.opsNil ?_
    refine At.norm ?_
    refine At.back ?_ (.refl _) ⟨k + 1, addC (x.getD k 0) (y.getD k 0) c, w ++ [addS (x.getD k 0) (y.getD k 0) c], N19, rfl, rfl, rfl, by omega, by simp; omega, (add64_law _ _ _ hc).2, add_round hw hc hv, r19⟩ ?_
    · exact .cons (by first | exact lkI rfl (by omega) | rfl) (.cons (by first | exact lkI rfl (by omega) | rfl) (.cons (by first | exact lkI rfl (by omega) | rfl) (.cons (by first | exact lkI rfl (by omega) | rfl) (.cons (by first | exact lkI rfl (by omega) | rfl) (.cons (by first | exact lkI rfl (by omega) | rfl) .nil)))))
    · omega
  · refine At.exit (At.thenExit (At.thenExit (At.inHit ?_)))
    refine At.norm (hk_5 ?_)
    refine At.seq fun K14 hk_14 => ?_
    refine At.region ?_
    refine op_move (nxlf rfl) rfl rfl ?_
    refine op_move (nxlf rfl) rfl rfl ?_
    refine op_lenS (nxlf rfl) se95 rfl rfl ?_
    refine op_move (nxlf rfl) rfl rfl ?_
    refine op_idx1 (nxlf rfl) se95 rfl rfl s19 (show _ = (((k : Nat)) : Int) from by omega) (by omega) rfl ?_
    refine op_storeE (nxl rfl) sz22 rfl rfl rfl rfl rfl r19 (by simp <;> omega) (by simp) sel0 (fun N19 r19 => ?_)
    simp only [setL] at r19
    rw [set_u64s, set_fill hw (by omega), show xn + 1 - (k + 1) = 0 by omega, List.replicate_zero, List.append_nil] at r19
    have hfin : v64 (w ++ [c]) = v64 a + v64 b := by
      rw [v64_snoc, hw, Nat.mul_comm, hv, v64_take_all (by omega), v64_take_all (by omega), hs]
    have s19 := r19.rsl
    refine At.opsNil ?_
    refine At.norm (hk_14 ?_)
    refine At.seq fun K15 hk_15 => ?_
    refine At.region ?_
    refine op_move (nxlf rfl) rfl rfl ?_
    have s19 := r19.rsl
    refine op_callA (nxla rfl) (.cons rfl .nil) (Trim_f s19) Try.func140 rfl rfl (by simp) rfl ?_
    rintro v53 L53 ⟨rfl, rfl, t53, l53⟩
    change At _ _ _ [N19, R] _
    refine op_assign (nxlf rfl) rfl rfl ?_
    refine At.opsNil ?_
    refine At.norm (hk_15 ?_)
    refine At.ret (?_)
    refine At.ret1 (L1 := [N19]) rfl (.tmp rfl .nil) (.refl _) (.refl _) ?_
    have h := s19.trimmed t53 l53
    rw [hfin] at h ⊢
    exact ⟨N19, a19, _, rfl, rfl, h⟩
theorem Sub_f {N M : Heaplet} {ao bo : Option Addr} {n m ca cb : Nat} {a b : List UInt64} (ha : RSl N 1 ao n ca (u64s a)) (hb : RSl M 1 bo m cb (u64s b)) (hn : n ≤ 1099511627776) (hm : m ≤ 1099511627776) (hge : v64 b ≤ v64 a) :
    Fn Try.prog 136 #[.slice ao n ca, .slice bo m cb] [] [N, M] (LimbsP (v64 a - v64 b)) := by
  have hca := ha.cap63
  have hcb := hb.cap63
  refine Fn.enter (vs := [.slice ao n ca, .slice bo m cb]) Try.func136 rfl rfl rfl ?_
  intro E R hR
  have ha := ha.le (hR N (by simp))
  have hb := hb.le (hR M (by simp))
  change At _ _ E [R] _
  refine At.seq fun K1 hk_1 => ?_
  refine At.region ?_
  refine op_assign (nxlf rfl) rfl rfl ?_
  refine At.opsNil ?_
  refine At.norm (hk_1 ?_)
  refine At.seq fun K2 hk_2 => ?_
  refine At.region ?_
  refine op_move (nxlf rfl) rfl rfl ?_
  refine op_callA (nxla rfl) (.cons rfl .nil) (Trim_f ha) Try.func140 rfl rfl (by simp) rfl ?_
  rintro v10 L10 ⟨rfl, rfl, t10, l10⟩
  change At _ _ _ [R] _
  have hx := ha.trimmed t10 l10
  refine op_move (nxlf rfl) rfl rfl ?_
  refine op_callA (nxla rfl) (.cons rfl .nil) (Trim_f hb) Try.func140 rfl rfl (by simp) rfl ?_
  rintro v12 L12 ⟨rfl, rfl, t12, l12⟩
  change At _ _ _ [R] _
  have hy := hb.trimmed t12 l12
  have hxv := v64_limbsOf (v64 a)
  have hyv := v64_limbsOf (v64 b)
  have hle := limbs_mono hge
  rw [← hxv, ← hyv] at hge
  have hxn : (limbsOf (v64 a)).length ≤ 1099511627776 := by omega
  generalize hxe : limbsOf (v64 a) = x at *
  generalize hye : limbsOf (v64 b) = y at *
  refine op_assign (nxlf rfl) rfl rfl ?_
  refine op_assign (nxlf rfl) rfl rfl ?_
  refine At.opsNil ?_
  refine At.norm (hk_2 ?_)
  refine At.seq fun K3 hk_3 => ?_
  refine At.region ?_
  refine op_move (nxlf rfl) rfl rfl ?_
  refine op_lenS (nxlf rfl) se95 rfl rfl ?_
  refine op_make (nxla rfl) Try.underlying95 te22 rfl rfl (show _ = (((x.length : Nat)) : Int) from by omega) (show _ = (((x.length : Nat)) : Int) from by omega) (by omega) (by unfold maxLen; omega) rfl (fun N15 a15 r15 => ?_)
  rw [made_one _ _ rfl, zero_u64s] at r15
  have s15 := r15.rsl
  refine op_assign (nxlf rfl) rfl rfl ?_
  refine op_assign (nxlf rfl) rfl rfl ?_
  refine At.opsNil ?_
  refine At.norm (hk_3 ?_)
  refine At.seq fun K4 hk_4 => ?_
  refine At.seq fun K5 hk_5 => ?_
  refine At.region ?_
  refine op_move (nxlf rfl) rfl rfl ?_
  refine op_lenS (nxlf rfl) se95 rfl rfl ?_
  refine op_move (nxlf rfl) rfl rfl ?_
  refine At.opsNil ?_
  refine At.norm (hk_5 ?_)
  refine At.block ?_
  refine At.loop (fun fr_ hp_ ms_ => ∃ (k : Nat) (c : UInt64) (w : List UInt64) (N15 : Heaplet), fr_ = [(0, .slice ao x.length x.length), (1, .slice bo y.length y.length), (5, .slice a15 x.length x.length), (6, .int .u64 (c.toNat : Int)), (17, .int .i64 (x.length : Int)), (18, .int .i64 (k : Int))] ∧ hp_ = [N15, R] ∧ x.length - k = ms_ ∧ (k ≤ x.length) ∧ (w.length = k) ∧ (c.toNat ≤ 1) ∧ (v64 w + v64 (y.take k) = v64 (x.take k) + c.toNat * 2 ^ (64 * k)) ∧ (Row N15 22 1 a15 x.length x.length (u64s (w ++ List.replicate (x.length - k) 0)))) ?_ (.refl _) ⟨0, 0, [], N15, rfl, rfl, rfl, by omega, rfl, by decide, by simp; rfl, r15⟩ ?_
  · exact .cons (by first | exact lkI rfl (by omega) | rfl) (.cons (by first | exact lkI rfl (by omega) | rfl) (.cons (by first | exact lkI rfl (by omega) | rfl) (.cons (by first | exact lkI rfl (by omega) | rfl) (.cons (by first | exact lkI rfl (by omega) | rfl) (.cons (by first | exact lkI rfl (by omega) | rfl) .nil)))))
  rintro _ _ _ ⟨k, c, w, N15, rfl, rfl, rfl, hk, hw, hc, hv, r15⟩
  have s15 := r15.rsl
  refine At.seq fun K6 hk_6 => ?_
  refine At.region ?_
  refine op_lss (nxlf rfl) rfl rfl rfl ?_
  refine At.opsNil ?_
  refine At.norm (hk_6 ?_)
  refine At.seq fun K7 hk_7 => ?_
  refine At.condP rfl (fun c19 => ?_) (fun c19 => ?_)
  · refine At.skip ?_
    refine At.norm (hk_7 ?_)
    refine At.seq fun K8 hk_8 => ?_
    refine At.block ?_
    refine At.seq fun K9 hk_9 => ?_
    refine At.region ?_
    refine op_move (nxlf rfl) rfl rfl ?_
    refine op_assign (nxlf rfl) rfl rfl ?_
    refine At.opsNil ?_
    refine At.norm (hk_9 ?_)
    refine At.seq fun K10 hk_10 => ?_
    refine At.region ?_
    refine op_assign (nxlf rfl) rfl rfl ?_
    refine At.opsNil ?_
    refine At.norm (hk_10 ?_)
    refine At.seq fun K11 hk_11 => ?_
    refine At.meet (fun fr_ hp_ => fr_ = [(0, .slice ao x.length x.length), (1, .slice bo y.length y.length), (5, .slice a15 x.length x.length), (6, .int .u64 (c.toNat : Int)), (7, .int .i64 (k : Int)), (8, .int .u64 ((y.getD k 0).toNat : Int)), (17, .int .i64 (x.length : Int)), (18, .int .i64 (k : Int))] ∧ hp_ = [N15, R] ∧ (True)) ?_ (fun K11_ jk_11 => ?_)
    rotate_left
    · skip
      refine At.seq fun K12 hk_12 => ?_
      refine At.region ?_
      refine op_move (nxlf rfl) rfl rfl ?_
      refine op_move (nxlf rfl) rfl rfl ?_
      refine op_lenS (nxlf rfl) se95 rfl rfl ?_
      refine op_lss (nxlf rfl) rfl rfl rfl ?_
      refine At.opsNil ?_
      refine At.norm (hk_12 ?_)
      refine At.condP rfl (fun c24 => ?_) (fun c24 => ?_)
      · refine At.region ?_
        refine op_move (nxlf rfl) rfl rfl ?_
        refine op_move (nxlf rfl) rfl rfl ?_
        refine op_idx1 (nxlf rfl) se95 rfl rfl hy (show _ = (((k : Nat)) : Int) from by omega) (by omega) rfl ?_
        refine op_loadE (nxlf rfl) sc22 rfl hy (by first | exact get8 (by omega) | exact get64 (by omega) | exact get32 (by omega)) (by first | exact mem0 | exact mem1 | exact mem2 | exact mem3 | exact mem4 | exact mem5 | exact mem6 | exact mem7 | exact mem8 | exact mem9) rfl ?_
        refine op_assign (nxlf rfl) rfl rfl ?_
        refine At.opsNil ?_
        refine At.norm (jk_11 ?_ (.refl _) ⟨rfl, rfl, trivial⟩)
        exact .cons (by first | exact lkI rfl (by omega) | rfl) (.cons (by first | exact lkI rfl (by omega) | rfl) (.cons (by first | exact lkI rfl (by omega) | rfl) (.cons (by first | exact lkI rfl (by omega) | rfl) (.cons (by first | exact lkI rfl (by omega) | rfl) (.cons (by first | exact lkI rfl (by omega) | rfl) (.cons (by first | exact lkI rfl (by omega) | rfl) (.cons (by first | exact lkI rfl (by omega) | rfl) .nil)))))))
      · have hz : (y.getD k 0).toNat = 0 := by rw [getD_big (by omega)]; rfl
        refine At.skip ?_
        refine At.norm (jk_11 ?_ (.refl _) ⟨rfl, rfl, trivial⟩)
        exact .cons (by first | exact lkI rfl (by omega) | rfl) (.cons (by first | exact lkI rfl (by omega) | rfl) (.cons (by first | exact lkI rfl (by omega) | rfl) (.cons (by first | exact lkI rfl (by omega) | rfl) (.cons (by first | exact lkI rfl (by omega) | rfl) (.cons (by first | exact lkI rfl (by omega) | rfl) (.cons (by first | exact lkI rfl (by omega) | rfl) (.cons (by first | exact lkI rfl (by omega) | rfl) .nil)))))))
    rintro _ _ ⟨rfl, rfl, ht⟩
    refine hk_11 ?_
    refine At.region ?_
    refine op_move (nxlf rfl) rfl rfl ?_
    refine op_move (nxlf rfl) rfl rfl ?_
    refine op_move (nxlf rfl) rfl rfl ?_
    refine op_move (nxlf rfl) rfl rfl ?_
    refine op_idx1 (nxlf rfl) se95 rfl rfl hx (show _ = (((k : Nat)) : Int) from by omega) (by omega) rfl ?_
    refine op_loadE (nxlf rfl) sc22 rfl hx (by first | exact get8 (by omega) | exact get64 (by omega) | exact get32 (by omega)) (by first | exact mem0 | exact mem1 | exact mem2 | exact mem3 | exact mem4 | exact mem5 | exact mem6 | exact mem7 | exact mem8 | exact mem9) rfl ?_
    refine op_move (nxlf rfl) rfl rfl ?_
    refine op_move (nxlf rfl) rfl rfl ?_
    refine op_ext (nxla rfl) (.cons rfl (.cons rfl (.cons rfl .nil))) (Sub64_x (x.getD k 0) (y.getD k 0) c hc) rfl ?_
    refine op_move (nxlf rfl) rfl rfl ?_
    refine op_extract (nxlf rfl) rfl rfl rfl ?_
    refine op_extract (nxlf rfl) rfl rfl rfl ?_
    refine op_idx1 (nxlf rfl) se95 rfl rfl s15 (show _ = (((k : Nat)) : Int) from by omega) (by omega) rfl ?_
    refine op_storeE (nxl rfl) sz22 rfl rfl rfl rfl rfl r15 (by simp <;> omega) (by simp) sel0 (fun N15 r15 => ?_)
    simp only [setL] at r15
    rw [set_u64s, set_fill hw (by omega)] at r15
    have s15 := r15.rsl
    refine op_assign (nxlf rfl) rfl rfl ?_
    refine At.opsNil ?_
    refine At.inNorm ?_
    refine At.norm (hk_8 ?_)
    refine At.region ?_
    refine op_addI (nxlf rfl) rfl rfl (by omega) (by omega) rfl ?_
    refine op_move (nxlf rfl) rfl rfl ?_
    refine At.opsNil ?_
    refine At.norm ?_
    refine At.back ?_ (.refl _) ⟨k + 1, subC (x.getD k 0) (y.getD k 0) c, w ++ [subS (x.getD k 0) (y.getD k 0) c], N15, rfl, rfl, rfl, by omega, by simp; omega, (sub64_law _ _ _ hc).2, sub_round hw hc hv, r15⟩ ?_
    · exact .cons (by first | exact lkI rfl (by omega) | rfl) (.cons (by first | exact lkI rfl (by omega) | rfl) (.cons (by first | exact lkI rfl (by omega) | rfl) (.cons (by first | exact lkI rfl (by omega) | rfl) (.cons (by first | exact lkI rfl (by omega) | rfl) (.cons (by first | exact lkI rfl (by omega) | rfl) .nil)))))
    · omega
  · refine At.exit (At.thenExit (At.thenExit (At.inHit ?_)))
    refine At.norm (hk_4 ?_)
    refine At.seq fun K13 hk_13 => ?_
    refine At.region ?_
    refine op_move (nxlf rfl) rfl rfl ?_
    have s15 := r15.rsl
    have hkk : k = x.length := by omega
    rw [hkk, Nat.sub_self, List.replicate_zero, List.append_nil] at s15
    have hfin : v64 w = v64 a - v64 b := by
      rw [hkk, v64_take_all (Nat.le_refl _), v64_take_all (by omega), hxv, hyv] at hv
      have h1 := v64_lt w
      rw [hw, hkk] at h1
      have hc2 : c.toNat = 0 ∨ c.toNat = 1 := by omega
      rcases hc2 with hc2 | hc2
      · rw [hc2, Nat.zero_mul] at hv; omega
      · rw [hc2, Nat.one_mul] at hv; omega
    refine op_callA (nxla rfl) (.cons rfl .nil) (Trim_f s15) Try.func140 rfl rfl (by simp) rfl ?_
    rintro v44 L44 ⟨rfl, rfl, t44, l44⟩
    change At _ _ _ [N15, R] _
    refine op_assign (nxlf rfl) rfl rfl ?_
    refine At.opsNil ?_
    refine At.norm (hk_13 ?_)
    refine At.ret (?_)
    refine At.ret1 (L1 := [N15]) rfl (.tmp rfl .nil) (.refl _) (.refl _) ?_
    have h := s15.trimmed t44 l44
    rw [hfin] at h ⊢
    exact ⟨N15, a15, _, rfl, rfl, h⟩
end Go.Proofs.Ytefljbbpaideaaa
/- Plain laws: numbers in limbs compared, their bits, shifted. No condition. -/
namespace Go.Proofs.Ytefljbbpaideaaa
set_option linter.unusedVariables false
set_option linter.unusedSimpArgs false
/-- The order of two numbers. -/
def cmpN (a b : Nat) : Int := if a < b then -1 else if b < a then 1 else 0
theorem cmpN_lt {a b : Nat} (h : a < b) : cmpN a b = -1 := by rw [cmpN, if_pos h]
theorem cmpN_gt {a b : Nat} (h : b < a) : cmpN a b = 1 := by rw [cmpN, if_neg (by omega), if_pos h]
theorem cmpN_eq (a : Nat) : cmpN a a = 0 := by rw [cmpN, if_neg (Nat.lt_irrefl _), if_neg (Nat.lt_irrefl _)]
theorem limbs_len_lt {A B : Nat} (h : (limbsOf A).length < (limbsOf B).length) : A < B := by
  rcases Nat.lt_or_ge A B with h1 | h1
  · exact h1
  · have := limbs_mono h1; omega
theorem v64_split {l : List UInt64} {j : Nat} (h : j < l.length) : v64 l = v64 (l.take j) + 2 ^ (64 * j) * ((l.getD j 0).toNat + 18446744073709551616 * v64 (l.drop (j + 1))) := by
  have e : l = l.take (j + 1) ++ l.drop (j + 1) := (List.take_append_drop _ _).symm
  conv => lhs; rw [e]
  rw [v64_append, List.length_take, Nat.min_eq_left (by omega), v64_take_succD, pow64, Nat.mul_add, Nat.mul_assoc, Nat.add_assoc]
theorem cmp_at {x y : List UInt64} {j : Nat} (hl : x.length = y.length) (hj : j < x.length) (hd : x.drop (j + 1) = y.drop (j + 1)) (hlt : (x.getD j 0).toNat < (y.getD j 0).toNat) : v64 x < v64 y := by
  rw [v64_split hj, v64_split (l := y) (j := j) (by omega), hd]
  have h1 := v64_take_lt x j
  have h2 := Nat.mul_le_mul_left (2 ^ (64 * j)) (show (x.getD j 0).toNat + 18446744073709551616 * v64 (y.drop (j + 1)) + 1 ≤ (y.getD j 0).toNat + 18446744073709551616 * v64 (y.drop (j + 1)) by omega)
  rw [Nat.mul_add _ _ 1, Nat.mul_one] at h2
  omega
theorem drop_eq_succ {α : Type} {x y : List α} {j : Nat} {z : α} (hx : j < x.length) (hy : j < y.length) (he : x.getD j z = y.getD j z) (hd : x.drop (j + 1) = y.drop (j + 1)) : x.drop j = y.drop j := by
  rw [List.drop_eq_getElem_cons hx, List.drop_eq_getElem_cons hy, hd]
  rw [List.getD_eq_getElem?_getD, List.getD_eq_getElem?_getD, List.getElem?_eq_getElem hx, List.getElem?_eq_getElem hy] at he
  simp only [Option.getD_some] at he
  rw [he]
theorem limb_at (l : List UInt64) (i : Nat) : v64 l / 2 ^ (64 * i) % 2 ^ 64 = (l.getD i 0).toNat := by
  rcases Nat.lt_or_ge i l.length with h | h
  · rw [limb_v64 h, List.getD_eq_getElem?_getD, List.getElem?_eq_getElem h]; rfl
  · rw [getD_big h, Nat.div_eq_of_lt (Nat.lt_of_lt_of_le (v64_lt l) (Nat.pow_le_pow_right (by decide) (by omega)))]; rfl
theorem bit_at (l : List UInt64) (i : Nat) : (shr64 (l.getD (i / 64) 0) (i % 64) &&& 1).toNat = v64 l / 2 ^ i % 2 := by
  rw [UInt64.toNat_and, shr64_nat, ← limb_at]
  have e : (2 : Nat) ^ i = 2 ^ (64 * (i / 64)) * 2 ^ (i % 64) := by rw [← Nat.pow_add]; congr 1; omega
  rw [e, ← Nat.div_div_eq_div_mul]
  generalize v64 l / 2 ^ (64 * (i / 64)) = W
  have hr : i % 64 < 64 := Nat.mod_lt _ (by decide)
  generalize i % 64 = r at *
  rw [show ((1 : UInt64).toNat) = 2 ^ 1 - 1 from rfl, Nat.and_two_pow_sub_one_eq_mod]
  rw [show (2 : Nat) ^ 64 = 2 ^ r * 2 ^ (64 - r) from by rw [← Nat.pow_add]; congr 1; omega, Nat.mod_mul_right_div_self]
  exact Nat.mod_mod_of_dvd _ (Nat.pow_dvd_pow 2 (by omega))
theorem bit_big {l : List UInt64} {i : Nat} (h : l.length ≤ i / 64) : v64 l / 2 ^ i % 2 = 0 := by
  rw [Nat.div_eq_of_lt (Nat.lt_of_lt_of_le (v64_lt l) (Nat.pow_le_pow_right (by decide) (by omega)))]
/-! Shifts. -/
/-- The limbs of V shifted to the left, so many. -/
def shlN (L V s : Nat) : List UInt64 := limbsN L (V * 2 ^ s)
theorem length_shlN (L V s : Nat) : (shlN L V s).length = L := by simp [shlN, limbsN]
theorem getD_limbsN {L V i : Nat} (h : i < L) : (limbsN L V).getD i 0 = UInt64.ofNat (V / 2 ^ (64 * i)) := by
  rw [List.getD_eq_getElem?_getD, List.getElem?_eq_getElem (by simp [limbsN]; exact h)]
  simp [limbsN]
theorem shl_low {l : List UInt64} {s : Nat} (_hs : s < 64) : UInt64.ofNat (v64 l * 2 ^ s / 2 ^ (64 * 0)) = shl64 (l.getD 0 0) s := by
  apply UInt64.toNat_inj.1
  have h := limb_at l 0
  rw [UInt64.toNat_ofNat', shl64_nat, ← h, Nat.mul_zero, Nat.pow_zero, Nat.div_one, Nat.div_one, Nat.mod_mul_mod]
theorem mid_at {l : List UInt64} {i r : Nat} (hr : r ≤ 64) : v64 l / 2 ^ (64 * i + r) % 2 ^ 64 = (shr64 (l.getD i 0) r ||| shl64 (l.getD (i + 1) 0) (64 - r)).toNat := by
  rw [Nat.pow_add, ← Nat.div_div_eq_div_mul]
  have e : v64 l / 2 ^ (64 * i) = (l.getD i 0).toNat + 2 ^ 64 * (v64 l / 2 ^ (64 * (i + 1))) := by
    rw [← limb_at, pow64, ← Nat.div_div_eq_div_mul]
    exact (Nat.mod_add_div _ _).symm
  rw [e, limb_mid hr (limb_at l (i + 1))]
theorem shl_at {l : List UInt64} {s i : Nat} (h0 : 0 < i) (hs : s < 64) : UInt64.ofNat (v64 l * 2 ^ s / 2 ^ (64 * i)) = (shl64 (l.getD i 0) s ||| shr64 (l.getD (i - 1) 0) (64 - s)) := by
  apply UInt64.toNat_inj.1
  have h := mid_at (l := l) (i := i - 1) (r := 64 - s) (by omega)
  rw [show i - 1 + 1 = i by omega, show 64 - (64 - s) = s by omega] at h
  rw [UInt64.toNat_ofNat', UInt64.toNat_or, Nat.or_comm, ← UInt64.toNat_or, ← h]
  have e : (2 : Nat) ^ (64 * i) = 2 ^ (64 * (i - 1) + (64 - s)) * 2 ^ s := by rw [← Nat.pow_add]; congr 1; omega
  rw [e, Nat.mul_div_mul_right _ _ (Nat.pow_pos (by decide))]
/-- What stands when the places from i on are shifted. -/
def shSt (o : List UInt64) (L s i : Nat) : List UInt64 := o.take i ++ (shlN L (v64 o) s).drop i
theorem length_shSt {o : List UInt64} {L s i : Nat} (ho : o.length = L) (hi : i ≤ L) : (shSt o L s i).length = L := by
  rw [shSt, List.length_append, List.length_take, List.length_drop, length_shlN]; omega
theorem shSt_getD {o : List UInt64} {L s i j : Nat} (ho : o.length = L) (hi : i ≤ L) (hj : j < i) : (shSt o L s i).getD j 0 = o.getD j 0 := by
  rw [shSt, getD_app (by rw [List.length_take]; omega), List.getD_eq_getElem?_getD, List.getD_eq_getElem?_getD, List.getElem?_take, if_pos hj]
theorem shSt_set {o : List UInt64} {L s i : Nat} (ho : o.length = L) (hi : i < L) : (shSt o L s (i + 1)).set i (UInt64.ofNat (v64 o * 2 ^ s / 2 ^ (64 * i))) = shSt o L s i := by
  apply List.ext_getElem
  · rw [List.length_set, length_shSt ho (by omega), length_shSt ho (by omega)]
  · intro j h1 h2
    rw [length_shSt ho (by omega)] at h2
    rw [List.getElem_set]
    by_cases e : i = j
    · subst e
      rw [if_pos rfl]
      simp only [shSt]
      rw [List.getElem_append_right (by rw [List.length_take]; omega)]
      simp [shlN, limbsN, ho, Nat.min_eq_left (Nat.le_of_lt hi)]
    · rw [if_neg e]
      simp only [shSt, List.getElem_append, List.length_take]
      by_cases hlt : j < i
      · rw [dif_pos (by omega), dif_pos (by omega)]; simp
      · rw [dif_neg (by omega), dif_neg (by omega)]
        simp only [List.getElem_drop]
        congr 1
        omega
theorem shSt_all {o : List UInt64} {L s : Nat} (ho : o.length = L) : shSt o L s L = o := by
  rw [shSt, List.drop_of_length_le (by rw [length_shlN]; omega), List.append_nil, List.take_of_length_le (by omega)]
theorem shSt_none (o : List UInt64) (L s : Nat) : shSt o L s 0 = limbsN L (v64 o * 2 ^ s) := by simp [shSt, shlN]
theorem v64_pad (a : List UInt64) (m : Nat) : v64 (a ++ List.replicate m 0) = v64 a := by rw [v64_append, v64_replicate]; simp
end Go.Proofs.Ytefljbbpaideaaa
/- Plain laws: one step of the division of numbers in limbs, and the whole. No condition. -/
namespace Go.Proofs.Ytefljbbpaideaaa
set_option linter.unusedVariables false
set_option linter.unusedSimpArgs false
theorem v64_cons (x : UInt64) (l : List UInt64) : v64 (x :: l) = x.toNat + 18446744073709551616 * v64 l := by simp [v64, n64, val]
theorem shSt_set' {o : List UInt64} {L s I : Nat} (ho : o.length = L) (h0 : 0 < I) (hi : I ≤ L) : (shSt o L s I).set (I - 1) (UInt64.ofNat (v64 o * 2 ^ s / 2 ^ (64 * (I - 1)))) = shSt o L s (I - 1) := by
  have h := shSt_set (s := s) ho (show I - 1 < L by omega)
  rwa [show I - 1 + 1 = I by omega] at h
theorem getD_set_self {α : Type} {l : List α} {j : Nat} {y z : α} (h : j < l.length) : (l.set j y).getD j z = y := by
  rw [List.getD_eq_getElem?_getD, List.getElem?_set_self h]; rfl
theorem getD_set_ne {α : Type} {l : List α} {i j : Nat} {y z : α} (h : i ≠ j) : (l.set i y).getD j z = l.getD j z := by
  rw [List.getD_eq_getElem?_getD, List.getD_eq_getElem?_getD, List.getElem?_set_ne h]
theorem win_set {α : Type} {pre x post : List α} {o k : Nat} {d : α} (hp : pre.length = o) (hk : k < x.length) : (pre ++ x ++ post).set (o + k) d = pre ++ x.set k d ++ post := by
  subst hp
  rw [List.append_assoc, List.set_append_right _ _ (by omega), Nat.add_sub_cancel_left, List.set_append_left _ _ hk, List.append_assoc]
theorem set_drop {α : Type} {w u : List α} {k : Nat} {d : α} (hw : w.length = k) (hk : k < u.length) : (w ++ u.drop k).set k d = (w ++ [d]) ++ u.drop (k + 1) := by
  rw [List.drop_eq_getElem_cons hk, set_mid hw]
theorem getD_drop {α : Type} {w u : List α} {k : Nat} {z : α} (hw : w.length = k) (hk : k < u.length) : (w ++ u.drop k).getD k z = u.getD k z := by
  rw [List.drop_eq_getElem_cons hk, getD_mid hw, List.getD_eq_getElem?_getD, List.getElem?_eq_getElem hk]; rfl
/-- The two upper limbs. -/
theorem v64_top2 {u : List UInt64} {n : Nat} (hu : u.length = n + 1) (hn : 1 ≤ n) : v64 u = v64 (u.take (n - 1)) + 2 ^ (64 * (n - 1)) * ((u.getD n 0).toNat * 18446744073709551616 + (u.getD (n - 1) 0).toNat) := by
  have h := v64_split (l := u) (j := n - 1) (by omega)
  rw [show n - 1 + 1 = n by omega] at h
  have e : v64 (u.drop n) = (u.getD n 0).toNat := by
    rw [List.drop_eq_getElem_cons (by omega), List.drop_of_length_le (by omega), List.getD_eq_getElem?_getD, List.getElem?_eq_getElem (by omega)]
    simp [v64, n64, val]
  rw [h, e]
  congr 2
  omega
theorem v64_top1 {v : List UInt64} {n : Nat} (hv : v.length = n) (hn : 1 ≤ n) : v64 v = v64 (v.take (n - 1)) + 2 ^ (64 * (n - 1)) * (v.getD (n - 1) 0).toNat := by
  have h := v64_take_succD v (n - 1)
  rw [show n - 1 + 1 = n by omega, v64_take_all (by omega)] at h
  exact h
/-- The guess is not too small. -/
theorem qhat_ge {u v : List UInt64} {n Q : Nat} (hu : u.length = n + 1) (hv : v.length = n) (hn : 1 ≤ n) (hQ : Q * v64 v ≤ v64 u) (h0 : 0 < (v.getD (n - 1) 0).toNat) :
    Q ≤ ((u.getD n 0).toNat * 18446744073709551616 + (u.getD (n - 1) 0).toNat) / (v.getD (n - 1) 0).toNat := by
  rw [Nat.le_div_iff_mul_le h0]
  have h1 := v64_top2 hu hn
  have h2 := v64_top1 hv hn
  have h3 : v64 (u.take (n - 1)) < 2 ^ (64 * (n - 1)) := v64_take_lt _ _
  generalize (u.getD n 0).toNat * 18446744073709551616 + (u.getD (n - 1) 0).toNat = T at *
  generalize (v.getD (n - 1) 0).toNat = y at *
  generalize 2 ^ (64 * (n - 1)) = P at *
  have h4 : P * (Q * y) ≤ Q * v64 v := by
    rw [h2, Nat.mul_add, Nat.mul_left_comm Q]; omega
  have h5 : P * (Q * y) < P * (T + 1) := by rw [Nat.mul_add P T, Nat.mul_one]; omega
  have h6 := Nat.lt_of_mul_lt_mul_left h5
  omega
/-- One round of the step's second loop, and its end. -/
theorem step_end {U V x q : Nat} (h : x + q * V = U) (hx : x < V) : q = U / V ∧ x = U % V := by
  subst h
  have hV : 0 < V := by omega
  rw [Nat.add_mul_div_right _ _ hV, Nat.add_mul_mod_self_right, Nat.div_eq_of_lt hx, Nat.mod_eq_of_lt hx]
  exact ⟨by omega, rfl⟩
theorem step_start {U V x q Q bw P : Nat} (hV : 0 < V) (h : x + q * V = U + bw * P) (hQ : U / V ≤ q) (hb : bw = 0) : x < V := by
  rw [hb, Nat.zero_mul, Nat.add_zero] at h
  have h1 : U < (q + 1) * V := by
    exact Nat.lt_mul_of_div_lt (show U / V < q + 1 by omega) hV
  rw [Nat.add_mul, Nat.one_mul] at h1
  omega
theorem step_back {U V x x' q c P : Nat} (hx : x + q * V = U + 1 * P) (hU : U < P + V) (hP : x < P) (h : x' + c * P = x + V) (hc : c ≤ 1) (hx' : x' < P) :
    0 < q ∧ x' + (q - 1) * V = U + (1 - c) * P ∧ (1 - c = 0 → x' < V) := by
  have hq : 0 < q := by
    rcases Nat.eq_zero_or_pos q with h0 | h0
    · rw [h0, Nat.zero_mul] at hx; omega
    · exact h0
  obtain ⟨p, rfl⟩ : ∃ p, q = p + 1 := ⟨q - 1, by omega⟩
  rw [Nat.add_sub_cancel]
  rw [Nat.add_mul, Nat.one_mul] at hx
  have hc2 : c = 0 ∨ c = 1 := by omega
  rcases hc2 with rfl | rfl
  · rw [Nat.zero_mul, Nat.add_zero] at h
    refine ⟨hq, ?_, fun h => absurd h (by decide)⟩
    rw [h]; simp only [Nat.sub_zero, Nat.one_mul] at *; omega
  · rw [Nat.one_mul] at h
    refine ⟨hq, ?_, fun _ => by omega⟩
    rw [Nat.sub_self, Nat.zero_mul]; omega
/-! The whole division. -/
theorem v64_drop_zero {G : List UInt64} {k n : Nat} (h : v64 (G.drop k) < 2 ^ (64 * n)) : v64 (G.drop (k + n)) = 0 := by
  have e : G.drop k = (G.drop k).take n ++ G.drop (k + n) := by
    conv => lhs; rw [← List.take_append_drop n (G.drop k)]
    rw [List.drop_drop]
  rcases Nat.lt_or_ge (G.drop k).length n with h1 | h1
  · rw [List.drop_of_length_le (by rw [List.length_drop] at h1; omega)]; rfl
  · rw [e, v64_append, List.length_take, Nat.min_eq_left h1] at h
    rcases Nat.eq_zero_or_pos (v64 (G.drop (k + n))) with h2 | h2
    · exact h2
    · have := Nat.mul_le_mul_left (2 ^ (64 * n)) h2
      omega
theorem v64_take_drop (G : List UInt64) {k : Nat} (h : k ≤ G.length) : v64 G = v64 (G.take k) + 2 ^ (64 * k) * v64 (G.drop k) := by
  conv => lhs; rw [← List.take_append_drop k G]
  rw [v64_append, List.length_take, Nat.min_eq_left h]
/-- The window of the next step. -/
theorem win_lt {G : List UInt64} {j n V : Nat} (hj : j < G.length) (hV : v64 (G.drop (j + 1)) < V) (hVn : V ≤ 2 ^ (64 * n)) :
    v64 ((G.drop j).take (n + 1)) < V * 18446744073709551616 ∧ v64 (G.drop (j + (n + 1))) = 0 ∧ v64 ((G.drop j).take (n + 1)) = v64 (G.drop j) := by
  have hz : v64 (G.drop (j + (n + 1))) = 0 := by
    rw [show j + (n + 1) = (j + 1) + n by omega]
    exact v64_drop_zero (Nat.lt_of_lt_of_le hV hVn)
  have e1 : v64 ((G.drop j).take (n + 1)) = v64 (G.drop j) := by
    have h := congrArg v64 (List.take_append_drop (n + 1) (G.drop j))
    rw [v64_append, List.drop_drop, hz, Nat.mul_zero, Nat.add_zero] at h
    exact h
  refine ⟨?_, hz, e1⟩
  have e2 : v64 (G.drop j) = (G.getD j 0).toNat + 18446744073709551616 * v64 (G.drop (j + 1)) := by
    rw [List.drop_eq_getElem_cons hj, v64_cons, List.getD_eq_getElem?_getD, List.getElem?_eq_getElem hj]
    rfl
  have h1 := (G.getD j 0).toNat_lt
  rw [e1, e2]
  omega
theorem div_round {G u' qs h : List UInt64} {j n V U : Nat} {q : UInt64} (hj : j + (n + 1) ≤ G.length) (hqs : qs = List.replicate (j + 1) 0 ++ h) (hv : v64 G + v64 qs * V = U) (hw : v64 ((G.drop j).take (n + 1)) = v64 (G.drop j)) (hz : v64 (G.drop (j + (n + 1))) = 0)
    (hu : u'.length = n + 1) (hq : q.toNat = v64 ((G.drop j).take (n + 1)) / V) (hr : v64 u' = v64 ((G.drop j).take (n + 1)) % V) (hV : 0 < V) :
    v64 (G.take j ++ u' ++ G.drop (j + (n + 1))) + v64 (qs.set j q) * V = U ∧ v64 ((G.take j ++ u' ++ G.drop (j + (n + 1))).drop j) < V ∧ qs.set j q = List.replicate j 0 ++ (q :: h) := by
  have e0 : qs.set j q = List.replicate j 0 ++ (q :: h) := by
    rw [hqs, List.replicate_succ', List.append_assoc, List.cons_append, List.nil_append, set_mid (by simp)]
    simp
  have e1 : v64 (qs.set j q) = v64 qs + 2 ^ (64 * j) * q.toNat := by
    rw [e0, hqs, v64_append, v64_append, v64_replicate, v64_replicate, List.length_replicate, List.length_replicate, pow64]
    have : v64 (q :: h) = q.toNat + 18446744073709551616 * v64 h := by simp [v64, n64, val]
    rw [this, Nat.mul_add, Nat.mul_assoc]
    omega
  have e2 : v64 (G.take j ++ u' ++ G.drop (j + (n + 1))) = v64 (G.take j) + 2 ^ (64 * j) * v64 u' := by
    rw [v64_append, hz, v64_append, List.length_take, Nat.min_eq_left (by omega)]; simp
  have e3 := v64_take_drop G (k := j) (by omega)
  rw [← hw] at e3
  have e4 := Nat.div_add_mod (v64 ((G.drop j).take (n + 1))) V
  rw [← hr, ← hq] at e4
  refine ⟨?_, ?_, e0⟩
  · rw [e2, e1, Nat.add_mul, ← hv, e3, ← e4, Nat.mul_add (2 ^ (64 * j)), Nat.mul_comm V, Nat.mul_assoc]
    omega
  · rw [List.append_assoc, List.drop_append_of_le_length (by rw [List.length_take]; omega), List.drop_of_length_le (by rw [List.length_take]; omega), List.nil_append, v64_append, hz, hr]
    simp only [Nat.mul_zero, Nat.add_zero]
    exact Nat.mod_lt _ hV
theorem limbsN_succ (k N : Nat) : limbsN (k + 1) N = limbsN k N ++ [UInt64.ofNat (N / 2 ^ (64 * k))] := by
  simp [limbsN, List.range_succ]
theorem shl64_64 (x : UInt64) : shl64 x 64 = 0 := by
  apply UInt64.toNat_inj.1
  rw [shl64_nat, Nat.mul_mod_left]; rfl
theorem rest_at {l : List UInt64} {i r : Nat} (hr : r ≤ 64) : UInt64.ofNat (v64 l / 2 ^ r / 2 ^ (64 * i)) = (shr64 (l.getD i 0) r ||| shl64 (l.getD (i + 1) 0) (64 - r)) := by
  apply UInt64.toNat_inj.1
  rw [UInt64.toNat_ofNat', ← mid_at hr, Nat.div_div_eq_div_mul, ← Nat.pow_add, Nat.add_comm r]
theorem rest_at0 {l : List UInt64} {i : Nat} : UInt64.ofNat (v64 l / 2 ^ 0 / 2 ^ (64 * i)) = shr64 (l.getD i 0) 0 := by
  rw [rest_at (by omega), shl64_64]
  apply UInt64.toNat_inj.1
  rw [UInt64.toNat_or]; simp
/-- The divisor's upper bit is set when it is shifted. -/
theorem norm_ge {b : List UInt64} {n : Nat} (hb : b.length = n) (hn : 1 ≤ n) (h0 : 0 < (b.getD (n - 1) 0).toNat) :
    2 ^ (64 * (n - 1)) * 9223372036854775808 ≤ v64 b * 2 ^ (64 - bitLen (b.getD (n - 1) 0).toNat) ∧ v64 b * 2 ^ (64 - bitLen (b.getD (n - 1) 0).toNat) < 2 ^ (64 * n) := by
  have h1 := v64_top1 hb hn
  obtain ⟨h2, h3⟩ := div_pos64 h0
  have h4 : v64 (b.take (n - 1)) < 2 ^ (64 * (n - 1)) := v64_take_lt _ _
  have e : 2 ^ (64 * n) = 2 ^ (64 * (n - 1)) * 18446744073709551616 := by
    have := pow64 (n - 1); rwa [show n - 1 + 1 = n by omega] at this
  have hb64 := bitLen64 (b.getD (n - 1) 0)
  have hbl := lt_bitLen (b.getD (n - 1) 0).toNat
  have e2 : 2 ^ bitLen (b.getD (n - 1) 0).toNat * 2 ^ (64 - bitLen (b.getD (n - 1) 0).toNat) = 18446744073709551616 := by
    rw [← Nat.pow_add, show bitLen (b.getD (n - 1) 0).toNat + (64 - bitLen (b.getD (n - 1) 0).toNat) = 64 by omega]
  generalize (b.getD (n - 1) 0).toNat = y at *
  generalize 2 ^ (64 * (n - 1)) = P at *
  generalize 2 ^ (64 - bitLen y) = S at *
  constructor
  · rw [h1, Nat.add_mul, Nat.mul_assoc]
    have := Nat.mul_le_mul_left P h3
    omega
  · rw [e, h1]
    have h5 : v64 (b.take (n - 1)) + P * y < P * 2 ^ bitLen y := by
      have := Nat.mul_le_mul_left P (show y + 1 ≤ 2 ^ bitLen y by omega)
      rw [Nat.mul_add, Nat.mul_one] at this
      omega
    have hS : 0 < S := by
      rcases Nat.eq_zero_or_pos S with h | h
      · rw [h, Nat.mul_zero] at e2; omega
      · exact h
    have h6 := Nat.mul_lt_mul_of_pos_right h5 hS
    rwa [Nat.mul_assoc, e2] at h6
end Go.Proofs.Ytefljbbpaideaaa
/- limb.Mul, limb.Cmp, limb.Bit, limb.shifted. Condition: numbers of at most 2^40 limbs. -/
namespace Go.Proofs.Ytefljbbpaideaaa
set_option linter.unusedVariables false
set_option linter.unusedSimpArgs false
open Go Go.RowKit
theorem order_f (x y : UInt64) : Fn Try.prog 144 #[.int .u64 (x.toNat : Int), .int .u64 (y.toNat : Int)] [] [] (fun v L => v = .int .i64 (if x.toNat < y.toNat then -1 else 1) ∧ L = []) := by
  refine Fn.enter (vs := [.int .u64 (x.toNat : Int), .int .u64 (y.toNat : Int)]) Try.func144 rfl rfl rfl ?_
  intro E R hR
  change At _ _ E [R] _
  refine At.seq fun K1 hk_1 => ?_
  refine At.region ?_
  refine op_assign (nxlf rfl) rfl rfl ?_
  refine At.opsNil ?_
  refine At.norm (hk_1 ?_)
  refine At.seq fun K2 hk_2 => ?_
  refine At.seq fun K3 hk_3 => ?_
  refine At.region ?_
  refine op_move (nxlf rfl) rfl rfl ?_
  refine op_move (nxlf rfl) rfl rfl ?_
  refine op_lss (nxlf rfl) rfl rfl rfl ?_
  refine At.opsNil ?_
  refine At.norm (hk_3 ?_)
  refine At.condP rfl (fun c7 => ?_) (fun c7 => ?_)
  · refine At.seq fun K4 hk_4 => ?_
    refine At.region ?_
    refine op_assign (nxlf rfl) rfl rfl ?_
    refine At.opsNil ?_
    refine At.norm (hk_4 ?_)
    refine At.ret (At.thenRet (?_))
    refine At.ret1 (L1 := []) rfl (.tmp rfl .nil) (.refl _) (.refl _) ?_
    exact ⟨by rw [if_pos (by omega)], rfl⟩
  · refine At.skip ?_
    refine At.norm (hk_2 ?_)
    refine At.seq fun K5 hk_5 => ?_
    refine At.region ?_
    refine op_assign (nxlf rfl) rfl rfl ?_
    refine At.opsNil ?_
    refine At.norm (hk_5 ?_)
    refine At.ret (?_)
    refine At.ret1 (L1 := []) rfl (.tmp rfl .nil) (.refl _) (.refl _) ?_
    exact ⟨by rw [if_neg (by omega)], rfl⟩
theorem Bit_neg {ao : Option Addr} {n cap : Nat} {i : Int} (hi : i < 0) : Fn Try.prog 129 #[.slice ao n cap, .int .i64 i] [] [] (fun v L => v = .int .u64 0 ∧ L = []) := by
  refine Fn.enter (vs := [.slice ao n cap, .int .i64 i]) Try.func129 rfl rfl rfl ?_
  intro E R hR
  change At _ _ E [R] _
  refine At.seq fun K1 hk_1 => ?_
  refine At.region ?_
  refine op_assign (nxlf rfl) rfl rfl ?_
  refine At.opsNil ?_
  refine At.norm (hk_1 ?_)
  refine At.seq fun K2 hk_2 => ?_
  refine At.seq fun K3 hk_3 => ?_
  refine At.region ?_
  refine op_move (nxlf rfl) rfl rfl ?_
  refine op_lss (nxlf rfl) rfl rfl rfl ?_
  refine op_move (nxlf rfl) rfl rfl ?_
  refine At.partP (d := 7) rfl (fun g7 => ?_) (fun g7 => ?_)
  · refine op_skip rfl rfl rfl rfl rfl rfl rfl ?_
    refine op_skip rfl rfl rfl rfl rfl rfl rfl ?_
    refine op_skip rfl rfl rfl rfl rfl rfl rfl ?_
    refine op_skip rfl rfl rfl rfl rfl rfl rfl ?_
    refine op_skip rfl rfl rfl rfl rfl rfl rfl ?_
    refine op_pickT (nxlf rfl) rfl rfl rfl ?_
    refine At.opsNil ?_
    refine At.norm (hk_3 ?_)
    refine At.condT rfl ?_
    refine At.seq fun K4 hk_4 => ?_
    refine At.region ?_
    refine op_assign (nxlf rfl) rfl rfl ?_
    refine At.opsNil ?_
    refine At.norm (hk_4 ?_)
    refine At.ret (At.thenRet (?_))
    refine At.ret1 (L1 := []) rfl (.tmp rfl .nil) (.refl _) (.refl _) ?_
    exact ⟨rfl, rfl⟩
  · exfalso; omega
theorem Bit_f {N : Heaplet} {ao : Option Addr} {n cap : Nat} {l : List UInt64} (h : RSl N 1 ao n cap (u64s l)) (i : Nat) (hi : i ≤ 9223372036854775807) : Fn Try.prog 129 #[.slice ao n cap, .int .i64 (i : Int)] [] [N] (fun v L => v = .int .u64 ((v64 l / 2 ^ i % 2 : Nat) : Int) ∧ L = []) := by
  have hlen := h.len64
  have hcap := h.cap63
  refine Fn.enter (vs := [.slice ao n cap, .int .i64 (i : Int)]) Try.func129 rfl rfl rfl ?_
  intro E R hR
  have h := h.le (hR N (by simp))
  change At _ _ E [R] _
  refine At.seq fun K1 hk_1 => ?_
  refine At.region ?_
  refine op_assign (nxlf rfl) rfl rfl ?_
  refine At.opsNil ?_
  refine At.norm (hk_1 ?_)
  refine At.seq fun K2 hk_2 => ?_
  refine At.seq fun K3 hk_3 => ?_
  refine At.region ?_
  refine op_move (nxlf rfl) rfl rfl ?_
  refine op_lss (nxlf rfl) rfl rfl rfl ?_
  refine op_move (nxlf rfl) rfl rfl ?_
  refine At.partP (d := 7) rfl (fun g7 => ?_) (fun g7 => ?_)
  · exfalso; omega
  · refine op_move (nxgf rfl rfl rfl rfl) rfl rfl ?_
    refine op_quoI (nxgf rfl rfl rfl rfl) rfl rfl (by omega) (by omega) (by omega) rfl ?_
    refine op_move (nxgf rfl rfl rfl rfl) rfl rfl ?_
    refine op_lenS (nxgf rfl rfl rfl rfl) se95 rfl rfl ?_
    refine op_geq (nxgf rfl rfl rfl rfl) rfl rfl rfl ?_
    refine op_pickF (nxlf rfl) rfl rfl rfl ?_
    refine At.opsNil ?_
    refine At.norm (hk_3 ?_)
    refine At.condP rfl (fun c13 => ?_) (fun c13 => ?_)
    · refine At.seq fun K4 hk_4 => ?_
      refine At.region ?_
      refine op_assign (nxlf rfl) rfl rfl ?_
      refine At.opsNil ?_
      refine At.norm (hk_4 ?_)
      refine At.ret (At.thenRet (?_))
      refine At.ret1 (L1 := []) rfl (.tmp rfl .nil) (.refl _) (.refl _) ?_
      exact ⟨by rw [bit_big (by omega)]; rfl, rfl⟩
    · refine At.skip ?_
      refine At.norm (hk_2 ?_)
      refine At.seq fun K5 hk_5 => ?_
      refine At.region ?_
      refine op_move (nxlf rfl) rfl rfl ?_
      refine op_move (nxlf rfl) rfl rfl ?_
      refine op_quoI (nxlf rfl) rfl rfl (by omega) (by omega) (by omega) rfl ?_
      refine op_idx1 (nxlf rfl) se95 rfl rfl (by assumption) (show _ = (((i / 64 : Nat)) : Int) from by omega) (by omega) rfl ?_
      refine op_loadE (nxlf rfl) sc22 rfl (by assumption) (by first | exact get8 (by omega) | exact get64 (by omega) | exact get32 (by omega)) (by first | exact mem0 | exact mem1 | exact mem2 | exact mem3 | exact mem4 | exact mem5 | exact mem6 | exact mem7 | exact mem8 | exact mem9) rfl ?_
      refine op_move (nxlf rfl) rfl rfl ?_
      refine op_rem (nxlf rfl) rfl rfl (by omega) (by omega) rfl ?_
      refine op_shrU (nxlf rfl) rfl rfl (show _ = (((i % 64 : Nat)) : Int) from by omega) rfl ?_
      refine op_andU (b := 1) (nxlf rfl) rfl rfl rfl ?_
      refine op_assign (nxlf rfl) rfl rfl ?_
      refine At.opsNil ?_
      refine At.norm (hk_5 ?_)
      refine At.ret (?_)
      refine At.ret1 (L1 := []) rfl (.tmp rfl .nil) (.refl _) (.refl _) ?_
      exact ⟨by rw [← bit_at], rfl⟩
theorem Mul_f {N M : Heaplet} {ao bo : Option Addr} {n m ca cb : Nat} {a b : List UInt64} (ha : RSl N 1 ao n ca (u64s a)) (hb : RSl M 1 bo m cb (u64s b)) (hn : n ≤ 1099511627776) (hm : m ≤ 1099511627776) :
    Fn Try.prog 127 #[.slice ao n ca, .slice bo m cb] [] [N, M] (LimbsP (v64 a * v64 b)) := by
  have hca := ha.cap63
  have hcb := hb.cap63
  have hal := ha.len64
  have hbl := hb.len64
  refine Fn.enter (vs := [.slice ao n ca, .slice bo m cb]) Try.func127 rfl rfl rfl ?_
  intro E R hR
  have ha := ha.le (hR N (by simp))
  have hb := hb.le (hR M (by simp))
  change At _ _ E [R] _
  refine At.seq fun K1 hk_1 => ?_
  refine At.region ?_
  refine op_assign (nxlf rfl) rfl rfl ?_
  refine At.opsNil ?_
  refine At.norm (hk_1 ?_)
  refine At.seq fun K2 hk_2 => ?_
  refine At.region ?_
  refine op_move (nxlf rfl) rfl rfl ?_
  refine op_lenS (nxlf rfl) se95 rfl rfl ?_
  refine op_move (nxlf rfl) rfl rfl ?_
  refine op_lenS (nxlf rfl) se95 rfl rfl ?_
  refine op_addI (nxlf rfl) rfl rfl (by omega) (by omega) rfl ?_
  refine op_make (nxla rfl) Try.underlying95 te22 rfl rfl (show _ = (((n + m : Nat)) : Int) from by omega) (show _ = (((n + m : Nat)) : Int) from by omega) (by omega) (by unfold maxLen; omega) rfl (fun N19 a19 r19 => ?_)
  rw [made_one _ _ rfl, zero_u64s] at r19
  have s19 := r19.rsl
  refine op_assign (nxlf rfl) rfl rfl ?_
  refine At.opsNil ?_
  refine At.norm (hk_2 ?_)
  refine At.seq fun K3 hk_3 => ?_
  refine At.seq fun K4 hk_4 => ?_
  refine At.region ?_
  refine op_move (nxlf rfl) rfl rfl ?_
  refine op_lenS (nxlf rfl) se95 rfl rfl ?_
  refine op_move (nxlf rfl) rfl rfl ?_
  refine At.opsNil ?_
  refine At.norm (hk_4 ?_)
  refine At.block ?_
  refine At.loop (fun fr_ hp_ ms_ => ∃ (i : Nat) (p : List UInt64) (N19 : Heaplet), fr_ = [(1, .slice bo m cb), (5, .slice a19 (n + m) (n + m)), (20, .slice ao n ca), (21, .int .i64 (n : Int)), (22, .int .i64 (i : Int))] ∧ hp_ = [N19, R] ∧ n - i = ms_ ∧ (i ≤ n) ∧ (p.length = i + m) ∧ (v64 p = v64 (a.take i) * v64 b) ∧ (Row N19 22 1 a19 (n + m) (n + m) (u64s (p ++ List.replicate (n - i) 0)))) ?_ (.refl _) ⟨0, List.replicate m 0, N19, rfl, rfl, rfl, by omega, by simp, by rw [v64_replicate]; simp [v64, n64, val], by rw [List.replicate_append_replicate, show m + (n - 0) = n + m by omega]; exact r19⟩ ?_
  · exact .cons (by first | exact lkI rfl (by omega) | rfl) (.cons (by first | exact lkI rfl (by omega) | rfl) (.cons (by first | exact lkI rfl (by omega) | rfl) (.cons (by first | exact lkI rfl (by omega) | rfl) (.cons (by first | exact lkI rfl (by omega) | rfl) .nil))))
  rintro _ _ _ ⟨i, p, N19, rfl, rfl, rfl, hi, hp, hv, r19⟩
  have s19 := r19.rsl
  refine At.seq fun K5 hk_5 => ?_
  refine At.region ?_
  refine op_lss (nxlf rfl) rfl rfl rfl ?_
  refine At.opsNil ?_
  refine At.norm (hk_5 ?_)
  refine At.seq fun K6 hk_6 => ?_
  refine At.condP rfl (fun c23 => ?_) (fun c23 => ?_)
  · refine At.skip ?_
    refine At.norm (hk_6 ?_)
    refine At.seq fun K7 hk_7 => ?_
    refine At.block ?_
    refine At.seq fun K8 hk_8 => ?_
    refine At.region ?_
    refine op_move (nxlf rfl) rfl rfl ?_
    refine op_idx1 (nxlf rfl) se95 rfl rfl ha (show _ = (((i : Nat)) : Int) from by omega) (by omega) rfl ?_
    refine op_loadE (nxlf rfl) sc22 rfl ha (by first | exact get8 (by omega) | exact get64 (by omega) | exact get32 (by omega)) (by first | exact mem0 | exact mem1 | exact mem2 | exact mem3 | exact mem4 | exact mem5 | exact mem6 | exact mem7 | exact mem8 | exact mem9) rfl ?_
    refine op_assign (nxlf rfl) rfl rfl ?_
    refine op_assign (nxlf rfl) rfl rfl ?_
    refine At.opsNil ?_
    refine At.norm (hk_8 ?_)
    refine At.seq fun K9 hk_9 => ?_
    refine At.region ?_
    refine op_assign (nxlf rfl) rfl rfl ?_
    refine At.opsNil ?_
    refine At.norm (hk_9 ?_)
    refine At.seq fun K10 hk_10 => ?_
    refine At.seq fun K11 hk_11 => ?_
    refine At.region ?_
    refine op_move (nxlf rfl) rfl rfl ?_
    refine op_lenS (nxlf rfl) se95 rfl rfl ?_
    refine op_move (nxlf rfl) rfl rfl ?_
    refine At.opsNil ?_
    refine At.norm (hk_11 ?_)
    refine At.block ?_
    refine At.loop (fun fr_ hp_ ms_ => ∃ (k : Nat) (c : UInt64) (p : List UInt64) (N19 : Heaplet), fr_ = [(1, .slice bo m cb), (5, .slice a19 (n + m) (n + m)), (6, .int .i64 (i : Int)), (7, .int .u64 ((a.getD i 0).toNat : Int)), (8, .int .u64 (c.toNat : Int)), (20, .slice ao n ca), (21, .int .i64 (n : Int)), (22, .int .i64 (i : Int)), (27, .slice bo m cb), (28, .int .i64 (m : Int)), (29, .int .i64 (k : Int))] ∧ hp_ = [N19, R] ∧ m - k = ms_ ∧ (k ≤ m) ∧ (p.length = i + m) ∧ (v64 p + c.toNat * 2 ^ (64 * (i + k)) = v64 (a.take i) * v64 b + 2 ^ (64 * i) * ((a.getD i 0).toNat * v64 (b.take k))) ∧ (Row N19 22 1 a19 (n + m) (n + m) (u64s (p ++ List.replicate (n - i) 0)))) ?_ (.refl _) ⟨0, 0, p, N19, rfl, rfl, rfl, by omega, hp, by rw [hv]; simp [v64, n64, val], r19⟩ ?_
    · exact .cons (by first | exact lkI rfl (by omega) | rfl) (.cons (by first | exact lkI rfl (by omega) | rfl) (.cons (by first | exact lkI rfl (by omega) | rfl) (.cons (by first | exact lkI rfl (by omega) | rfl) (.cons (by first | exact lkI rfl (by omega) | rfl) (.cons (by first | exact lkI rfl (by omega) | rfl) (.cons (by first | exact lkI rfl (by omega) | rfl) (.cons (by first | exact lkI rfl (by omega) | rfl) (.cons (by first | exact lkI rfl (by omega) | rfl) (.cons (by first | exact lkI rfl (by omega) | rfl) (.cons (by first | exact lkI rfl (by omega) | rfl) .nil))))))))))
    rintro _ _ _ ⟨k, c, p, N19, rfl, rfl, rfl, hk, hp, hv, r19⟩
    have s19 := r19.rsl
    refine At.seq fun K12 hk_12 => ?_
    refine At.region ?_
    refine op_lss (nxlf rfl) rfl rfl rfl ?_
    refine At.opsNil ?_
    refine At.norm (hk_12 ?_)
    refine At.seq fun K13 hk_13 => ?_
    refine At.condP rfl (fun c30 => ?_) (fun c30 => ?_)
    · refine At.skip ?_
      refine At.norm (hk_13 ?_)
      refine At.seq fun K14 hk_14 => ?_
      refine At.block ?_
      refine At.seq fun K15 hk_15 => ?_
      refine At.region ?_
      refine op_move (nxlf rfl) rfl rfl ?_
      refine op_idx1 (nxlf rfl) se95 rfl rfl hb (show _ = (((k : Nat)) : Int) from by omega) (by omega) rfl ?_
      refine op_loadE (nxlf rfl) sc22 rfl hb (by first | exact get8 (by omega) | exact get64 (by omega) | exact get32 (by omega)) (by first | exact mem0 | exact mem1 | exact mem2 | exact mem3 | exact mem4 | exact mem5 | exact mem6 | exact mem7 | exact mem8 | exact mem9) rfl ?_
      refine op_assign (nxlf rfl) rfl rfl ?_
      refine op_assign (nxlf rfl) rfl rfl ?_
      refine At.opsNil ?_
      refine At.norm (hk_15 ?_)
      refine At.seq fun K16 hk_16 => ?_
      refine At.region ?_
      refine op_move (nxlf rfl) rfl rfl ?_
      refine op_move (nxlf rfl) rfl rfl ?_
      refine op_callA (nxla rfl) (.cons rfl (.cons rfl .nil)) (Mul64_f (a.getD i 0) (b.getD k 0)) Try.func113 rfl rfl (by simp) rfl ?_
      rintro v37 L37 ⟨rfl, rfl⟩
      change At _ _ _ [N19, R] _
      refine op_move (nxlf rfl) rfl rfl ?_
      refine op_extract (nxlf rfl) rfl rfl rfl ?_
      refine op_extract (nxlf rfl) rfl rfl rfl ?_
      refine op_assign (nxlf rfl) rfl rfl ?_
      refine op_assign (nxlf rfl) rfl rfl ?_
      refine At.opsNil ?_
      refine At.norm (hk_16 ?_)
      refine At.seq fun K17 hk_17 => ?_
      refine At.region ?_
      refine op_assign (nxlf rfl) rfl rfl ?_
      refine At.opsNil ?_
      refine At.norm (hk_17 ?_)
      refine At.seq fun K18 hk_18 => ?_
      refine At.region ?_
      refine op_move (nxlf rfl) rfl rfl ?_
      refine op_move (nxlf rfl) rfl rfl ?_
      refine op_move (nxlf rfl) rfl rfl ?_
      refine op_move (nxlf rfl) rfl rfl ?_
      refine op_addI (nxlf rfl) rfl rfl (by omega) (by omega) rfl ?_
      have hpl : (p ++ List.replicate (n - i) (0 : UInt64)).length = n + m := by simp; omega
      refine op_idx1 (nxlf rfl) se95 rfl rfl s19 (show _ = (((i + k : Nat)) : Int) from by omega) (by omega) rfl ?_
      refine op_loadE (nxlf rfl) sc22 rfl s19 (by first | exact get8 (by omega) | exact get64 (by omega) | exact get32 (by omega)) (by first | exact mem0 | exact mem1 | exact mem2 | exact mem3 | exact mem4 | exact mem5 | exact mem6 | exact mem7 | exact mem8 | exact mem9) rfl ?_
      rw [getD_app (p := p) (j := i + k) (by omega)]
      refine op_ext (nxla rfl) (.cons rfl (.cons rfl (.cons rfl .nil))) (Add64_x (a.getD i 0 * b.getD k 0) (p.getD (i + k) 0) 0 (by decide)) rfl ?_
      refine op_move (nxlf rfl) rfl rfl ?_
      refine op_extract (nxlf rfl) rfl rfl rfl ?_
      refine op_extract (nxlf rfl) rfl rfl rfl ?_
      refine op_assign (nxlf rfl) rfl rfl ?_
      refine op_assign (nxlf rfl) rfl rfl ?_
      refine At.opsNil ?_
      refine At.norm (hk_18 ?_)
      refine At.seq fun K19 hk_19 => ?_
      refine At.region ?_
      refine op_move (nxlf rfl) rfl rfl ?_
      refine op_move (nxlf rfl) rfl rfl ?_
      refine op_addU (nxlf rfl) rfl rfl rfl ?_
      refine op_assign (nxlf rfl) rfl rfl ?_
      refine At.opsNil ?_
      refine At.norm (hk_19 ?_)
      refine At.seq fun K20 hk_20 => ?_
      refine At.region ?_
      refine op_move (nxlf rfl) rfl rfl ?_
      refine op_move (nxlf rfl) rfl rfl ?_
      refine op_ext (nxla rfl) (.cons rfl (.cons rfl (.cons rfl .nil))) (Add64_x (addS (a.getD i 0 * b.getD k 0) (p.getD (i + k) 0) 0) c 0 (by decide)) rfl ?_
      refine op_move (nxlf rfl) rfl rfl ?_
      refine op_extract (nxlf rfl) rfl rfl rfl ?_
      refine op_extract (nxlf rfl) rfl rfl rfl ?_
      refine op_assign (nxlf rfl) rfl rfl ?_
      refine op_assign (nxlf rfl) rfl rfl ?_
      refine At.opsNil ?_
      refine At.norm (hk_20 ?_)
      refine At.region ?_
      refine op_move (nxlf rfl) rfl rfl ?_
      refine op_move (nxlf rfl) rfl rfl ?_
      refine op_move (nxlf rfl) rfl rfl ?_
      refine op_addI (nxlf rfl) rfl rfl (by omega) (by omega) rfl ?_
      refine op_move (nxlf rfl) rfl rfl ?_
      refine op_move (nxlf rfl) rfl rfl ?_
      refine op_move (nxlf rfl) rfl rfl ?_
      refine op_addU (nxlf rfl) rfl rfl rfl ?_
      refine op_idx1 (nxlf rfl) se95 rfl rfl s19 (show _ = (((i + k : Nat)) : Int) from by omega) (by omega) rfl ?_
      refine op_storeE (nxl rfl) sz22 rfl rfl rfl rfl rfl r19 (by simp <;> omega) (by simp) sel0 (fun N19 r19 => ?_)
      simp only [setL] at r19
      rw [set_u64s, List.set_append_left (i + k) _ (show i + k < p.length by omega)] at r19
      have s19 := r19.rsl
      refine op_assign (nxlf rfl) rfl rfl ?_
      refine At.opsNil ?_
      refine At.inNorm ?_
      refine At.norm (hk_14 ?_)
      refine At.region ?_
      refine op_addI (nxlf rfl) rfl rfl (by omega) (by omega) rfl ?_
      refine op_move (nxlf rfl) rfl rfl ?_
      refine At.opsNil ?_
      refine At.norm ?_
      refine At.back ?_ (.refl _) ⟨k + 1, mulH (a.getD i 0) (b.getD k 0) + addC (a.getD i 0 * b.getD k 0) (p.getD (i + k) 0) 0 + addC (addS (a.getD i 0 * b.getD k 0) (p.getD (i + k) 0) 0) c 0, p.set (i + k) (addS (addS (a.getD i 0 * b.getD k 0) (p.getD (i + k) 0) 0) c 0), N19, rfl, rfl, rfl, by omega, by simp; omega, mul_round (by omega) hv, r19⟩ ?_
      · exact .cons (by first | exact lkI rfl (by omega) | rfl) (.cons (by first | exact lkI rfl (by omega) | rfl) (.cons (by first | exact lkI rfl (by omega) | rfl) (.cons (by first | exact lkI rfl (by omega) | rfl) (.cons (by first | exact lkI rfl (by omega) | rfl) (.cons (by first | exact lkI rfl (by omega) | rfl) (.cons (by first | exact lkI rfl (by omega) | rfl) (.cons (by first | exact lkI rfl (by omega) | rfl) (.cons (by first | exact lkI rfl (by omega) | rfl) (.cons (by first | exact lkI rfl (by omega) | rfl) (.cons (by first | exact lkI rfl (by omega) | rfl) .nil))))))))))
      · omega
    · refine At.exit (At.thenExit (At.thenExit (At.inHit ?_)))
      refine At.norm (hk_10 ?_)
      refine At.region ?_
      have hkm : k = m := by omega
      refine op_move (nxlf rfl) rfl rfl ?_
      refine op_move (nxlf rfl) rfl rfl ?_
      refine op_move (nxlf rfl) rfl rfl ?_
      refine op_lenS (nxlf rfl) se95 rfl rfl ?_
      refine op_addI (nxlf rfl) rfl rfl (by omega) (by omega) rfl ?_
      refine op_move (nxlf rfl) rfl rfl ?_
      refine op_idx1 (nxlf rfl) se95 rfl rfl s19 (show _ = (((i + m : Nat)) : Int) from by omega) (by omega) rfl ?_
      refine op_storeE (nxl rfl) sz22 rfl rfl rfl rfl rfl r19 (by simp <;> omega) (by simp) sel0 (fun N19 r19 => ?_)
      simp only [setL] at r19
      rw [set_u64s, set_rep hp (by omega)] at r19
      have s19 := r19.rsl
      refine At.opsNil ?_
      refine At.inNorm ?_
      refine At.norm (hk_7 ?_)
      refine At.region ?_
      refine op_addI (nxlf rfl) rfl rfl (by omega) (by omega) rfl ?_
      refine op_move (nxlf rfl) rfl rfl ?_
      refine At.opsNil ?_
      refine At.norm ?_
      refine At.back ?_ (.refl _) ⟨i + 1, p ++ [c], N19, rfl, rfl, rfl, by omega, by simp; omega, by subst hkm; rw [← hbl] at hv hp; exact mul_outer hp hv, by rw [show n - (i + 1) = n - i - 1 by omega]; exact r19⟩ ?_
      · exact .cons (by first | exact lkI rfl (by omega) | rfl) (.cons (by first | exact lkI rfl (by omega) | rfl) (.cons (by first | exact lkI rfl (by omega) | rfl) (.cons (by first | exact lkI rfl (by omega) | rfl) (.cons (by first | exact lkI rfl (by omega) | rfl) .nil))))
      · omega
  · refine At.exit (At.thenExit (At.thenExit (At.inHit ?_)))
    refine At.norm (hk_3 ?_)
    refine At.seq fun K21 hk_21 => ?_
    refine At.region ?_
    refine op_move (nxlf rfl) rfl rfl ?_
    have s19 := r19.rsl
    have hin : i = n := by omega
    rw [hin, Nat.sub_self, List.replicate_zero, List.append_nil] at s19
    rw [hin, v64_take_all (by omega)] at hv
    refine op_callA (nxla rfl) (.cons rfl .nil) (Trim_f s19) Try.func140 rfl rfl (by simp) rfl ?_
    rintro v79 L79 ⟨rfl, rfl, t79, l79⟩
    change At _ _ _ [N19, R] _
    refine op_assign (nxlf rfl) rfl rfl ?_
    refine At.opsNil ?_
    refine At.norm (hk_21 ?_)
    refine At.ret (?_)
    refine At.ret1 (L1 := [N19]) rfl (.tmp rfl .nil) (.refl _) (.refl _) ?_
    have h := s19.trimmed t79 l79
    rw [hv] at h ⊢
    exact ⟨N19, a19, _, rfl, rfl, h⟩
set_option maxRecDepth 100000 in
theorem Cmp_f {N M : Heaplet} {ao bo : Option Addr} {n m ca cb : Nat} {a b : List UInt64} (ha : RSl N 1 ao n ca (u64s a)) (hb : RSl M 1 bo m cb (u64s b)) (hn : n ≤ 1099511627776) (hm : m ≤ 1099511627776) :
    Fn Try.prog 133 #[.slice ao n ca, .slice bo m cb] [] [N, M] (fun v L => v = .int .i64 (cmpN (v64 a) (v64 b)) ∧ L = []) := by
  have hca := ha.cap63
  have hcb := hb.cap63
  refine Fn.enter (vs := [.slice ao n ca, .slice bo m cb]) Try.func133 rfl rfl rfl ?_
  intro E R hR
  have ha := ha.le (hR N (by simp))
  have hb := hb.le (hR M (by simp))
  change At _ _ E [R] _
  refine At.seq fun K1 hk_1 => ?_
  refine At.region ?_
  refine op_assign (nxlf rfl) rfl rfl ?_
  refine At.opsNil ?_
  refine At.norm (hk_1 ?_)
  refine At.seq fun K2 hk_2 => ?_
  refine At.region ?_
  refine op_move (nxlf rfl) rfl rfl ?_
  refine op_callA (nxla rfl) (.cons rfl .nil) (Trim_f ha) Try.func140 rfl rfl (by simp) rfl ?_
  rintro v7 L7 ⟨rfl, rfl, t7, l7⟩
  change At _ _ _ [R] _
  have hx := ha.trimmed t7 l7
  refine op_move (nxlf rfl) rfl rfl ?_
  refine op_callA (nxla rfl) (.cons rfl .nil) (Trim_f hb) Try.func140 rfl rfl (by simp) rfl ?_
  rintro v9 L9 ⟨rfl, rfl, t9, l9⟩
  change At _ _ _ [R] _
  have hy := hb.trimmed t9 l9
  have hxv := v64_limbsOf (v64 a)
  have hyv := v64_limbsOf (v64 b)
  have hxy : ∀ A B : Nat, (limbsOf A).length < (limbsOf B).length → A < B := fun A B => limbs_len_lt
  have h12 := hxy (v64 a) (v64 b)
  have h21 := hxy (v64 b) (v64 a)
  have hxn : (limbsOf (v64 a)).length ≤ 1099511627776 := by omega
  have hyn : (limbsOf (v64 b)).length ≤ 1099511627776 := by omega
  generalize hxe : limbsOf (v64 a) = x at *
  generalize hye : limbsOf (v64 b) = y at *
  refine op_assign (nxlf rfl) rfl rfl ?_
  refine op_assign (nxlf rfl) rfl rfl ?_
  refine At.opsNil ?_
  refine At.norm (hk_2 ?_)
  refine At.seq fun K3 hk_3 => ?_
  refine At.seq fun K4 hk_4 => ?_
  refine At.region ?_
  refine op_move (nxlf rfl) rfl rfl ?_
  refine op_lenS (nxlf rfl) se95 rfl rfl ?_
  refine op_move (nxlf rfl) rfl rfl ?_
  refine op_lenS (nxlf rfl) se95 rfl rfl ?_
  refine op_neq (nxlf rfl) rfl rfl rfl ?_
  refine At.opsNil ?_
  refine At.norm (hk_4 ?_)
  refine At.condP rfl (fun c14 => ?_) (fun c14 => ?_)
  · refine At.seq fun K5 hk_5 => ?_
    refine At.region ?_
    refine op_move (nxlf rfl) rfl rfl ?_
    refine op_lenS (nxlf rfl) se95 rfl rfl ?_
    refine op_conv64 (nxlf rfl) (und_some Try.underlying3) Try.underlying22 rfl (show _ = (((x.length : Nat)) : Int) from by omega) rfl ?_
    refine op_move (nxlf rfl) rfl rfl ?_
    refine op_lenS (nxlf rfl) se95 rfl rfl ?_
    refine op_conv64 (nxlf rfl) (und_some Try.underlying3) Try.underlying22 rfl (show _ = (((y.length : Nat)) : Int) from by omega) rfl ?_
    refine op_callA (nxla rfl) (.cons rfl (.cons rfl .nil)) (order_f (UInt64.ofNat x.length) (UInt64.ofNat y.length)) Try.func144 rfl rfl (by simp) rfl ?_
    rintro v21 L21 ⟨rfl, rfl⟩
    change At _ _ _ [R] _
    refine op_assign (nxlf rfl) rfl rfl ?_
    refine At.opsNil ?_
    refine At.norm (hk_5 ?_)
    refine At.ret (At.thenRet (?_))
    refine At.ret1 (L1 := []) rfl (.tmp rfl .nil) (.refl _) (.refl _) ?_
    have e1 : (UInt64.ofNat x.length).toNat = x.length := by rw [UInt64.toNat_ofNat']; omega
    have e2 : (UInt64.ofNat y.length).toNat = y.length := by rw [UInt64.toNat_ofNat']; omega
    rw [e1, e2]
    refine ⟨?_, rfl⟩
    congr 1
    rcases Nat.lt_or_ge x.length y.length with hlt | hge
    · rw [if_pos hlt, cmpN_lt (h12 hlt)]
    · rw [if_neg (by omega), cmpN_gt (h21 (by omega))]
  · refine At.skip ?_
    refine At.norm (hk_3 ?_)
    refine At.seq fun K6 hk_6 => ?_
    refine At.seq fun K7 hk_7 => ?_
    refine At.region ?_
    refine op_move (nxlf rfl) rfl rfl ?_
    refine op_lenS (nxlf rfl) se95 rfl rfl ?_
    refine op_subI (nxlf rfl) rfl rfl (by omega) (by omega) rfl ?_
    refine op_assign (nxlf rfl) rfl rfl ?_
    refine At.opsNil ?_
    refine At.norm (hk_7 ?_)
    refine At.block ?_
    refine At.loop (fun fr_ hp_ ms_ => ∃ (j : Nat), fr_ = [(0, .slice ao x.length x.length), (1, .slice bo y.length y.length), (5, .int .i64 ((j : Int) - 1))] ∧ hp_ = [R] ∧ j = ms_ ∧ (j ≤ x.length) ∧ (x.drop j = y.drop j)) ?_ (.refl _) ⟨x.length, rfl, rfl, rfl, by omega, by rw [List.drop_of_length_le (by omega), List.drop_of_length_le (by omega)]⟩ ?_
    · exact .cons (by first | exact lkI rfl (by omega) | rfl) (.cons (by first | exact lkI rfl (by omega) | rfl) (.cons (by first | exact lkI rfl (by omega) | rfl) .nil))
    rintro _ _ _ ⟨j, rfl, rfl, rfl, hj, hd⟩
    refine At.seq fun K8 hk_8 => ?_
    refine At.seq fun K9 hk_9 => ?_
    refine At.region ?_
    refine op_move (nxlf rfl) rfl rfl ?_
    refine op_geq (nxlf rfl) rfl rfl rfl ?_
    refine At.opsNil ?_
    refine At.norm (hk_9 ?_)
    refine At.condP rfl (fun c26 => ?_) (fun c26 => ?_)
    · refine At.skip ?_
      refine At.norm (hk_8 ?_)
      refine At.seq fun K10 hk_10 => ?_
      refine At.block ?_
      refine At.seq fun K11 hk_11 => ?_
      refine At.drawnS [R] [] [] [0,1,2,3,4,5,6,7,8] (by kernel_rfl) (by kernel_rfl) (.refl _) ?_
      refine op_move (nxsf rfl rfl rfl) rfl rfl ?_
      refine op_move (nxsf rfl rfl rfl) rfl rfl ?_
      refine op_idx1 (nxsf rfl rfl rfl) se95 rfl rfl hx (show _ = (((j - 1 : Nat)) : Int) from by omega) (by omega) rfl ?_
      refine op_loadE (nxsf rfl rfl rfl) sc22 rfl hx (by first | exact get8 (by omega) | exact get64 (by omega) | exact get32 (by omega)) (by first | exact mem0 | exact mem1 | exact mem2 | exact mem3 | exact mem4 | exact mem5 | exact mem6 | exact mem7 | exact mem8 | exact mem9) rfl ?_
      refine op_move (nxsf rfl rfl rfl) rfl rfl ?_
      refine op_move (nxsf rfl rfl rfl) rfl rfl ?_
      refine op_idx1 (nxsf rfl rfl rfl) se95 rfl rfl hy (show _ = (((j - 1 : Nat)) : Int) from by omega) (by omega) rfl ?_
      refine op_loadE (nxsf rfl rfl rfl) sc22 rfl hy (by first | exact get8 (by omega) | exact get64 (by omega) | exact get32 (by omega)) (by first | exact mem0 | exact mem1 | exact mem2 | exact mem3 | exact mem4 | exact mem5 | exact mem6 | exact mem7 | exact mem8 | exact mem9) rfl ?_
      refine op_neq (nxsf rfl rfl rfl) rfl rfl rfl ?_
      refine At.sNil ?_
      refine At.norm (hk_11 ?_)
      refine At.condP rfl (fun c37 => ?_) (fun c37 => ?_)
      · refine At.seq fun K12 hk_12 => ?_
        refine At.drawnS [R] [8] [] [0,1,2,3,4,5,6,7,8,9] (by kernel_rfl) (by kernel_rfl) (.refl _) ?_
        refine op_move (nxsf rfl rfl rfl) rfl rfl ?_
        refine op_move (nxsf rfl rfl rfl) rfl rfl ?_
        refine op_idx1 (nxsf rfl rfl rfl) se95 rfl rfl hx (show _ = (((j - 1 : Nat)) : Int) from by omega) (by omega) rfl ?_
        refine op_loadE (nxsf rfl rfl rfl) sc22 rfl hx (by first | exact get8 (by omega) | exact get64 (by omega) | exact get32 (by omega)) (by first | exact mem0 | exact mem1 | exact mem2 | exact mem3 | exact mem4 | exact mem5 | exact mem6 | exact mem7 | exact mem8 | exact mem9) rfl ?_
        refine op_move (nxsf rfl rfl rfl) rfl rfl ?_
        refine op_move (nxsf rfl rfl rfl) rfl rfl ?_
        refine op_idx1 (nxsf rfl rfl rfl) se95 rfl rfl hy (show _ = (((j - 1 : Nat)) : Int) from by omega) (by omega) rfl ?_
        refine op_loadE (nxsf rfl rfl rfl) sc22 rfl hy (by first | exact get8 (by omega) | exact get64 (by omega) | exact get32 (by omega)) (by first | exact mem0 | exact mem1 | exact mem2 | exact mem3 | exact mem4 | exact mem5 | exact mem6 | exact mem7 | exact mem8 | exact mem9) rfl ?_
        refine op_callA (Nx.agree (nxss rfl rfl rfl rfl)) (.cons rfl (.cons rfl .nil)) (order_f (x.getD (j - 1) 0) (y.getD (j - 1) 0)) Try.func144 rfl rfl (by simp) rfl ?_
        rintro v46 L46 ⟨rfl, rfl⟩
        change At _ _ _ [R] _
        refine At.anyS (.refl _) ?_
        refine op_assign (nxsf rfl rfl rfl) rfl rfl ?_
        refine At.sNil ?_
        refine At.norm (hk_12 ?_)
        refine At.ret (At.inRet (At.thenRet (At.thenRet (At.inRet (At.thenRet (?_))))))
        refine At.ret1 (L1 := []) rfl (.tmp rfl .nil) (.refl _) (.refl _) ?_
        have hd' : x.drop (j - 1 + 1) = y.drop (j - 1 + 1) := by rw [show j - 1 + 1 = j by omega]; exact hd
        refine ⟨?_, rfl⟩
        congr 1
        rw [← hxv, ← hyv]
        by_cases hlt : (x.getD (j - 1) 0).toNat < (y.getD (j - 1) 0).toNat
        · rw [if_pos hlt, cmpN_lt (cmp_at (by omega) (by omega) hd' hlt)]
        · rw [if_neg hlt, cmpN_gt (cmp_at (by omega) (by omega) hd'.symm (by omega))]
      · refine At.skip ?_
        refine At.inNorm ?_
        refine At.norm (hk_10 ?_)
        refine At.region ?_
        refine op_move (nxlf rfl) rfl rfl ?_
        refine op_subI (nxlf rfl) rfl rfl (by omega) (by omega) rfl ?_
        refine op_assign (nxlf rfl) rfl rfl ?_
        refine At.opsNil ?_
        refine At.norm ?_
        refine At.back ?_ (.refl _) ⟨j - 1, rfl, rfl, rfl, by omega, drop_eq_succ (z := 0) (by omega) (by omega) (UInt64.toNat_inj.1 (by omega)) (by rw [show j - 1 + 1 = j by omega]; exact hd)⟩ ?_
        · exact .cons (by first | exact lkI rfl (by omega) | rfl) (.cons (by first | exact lkI rfl (by omega) | rfl) (.cons (by first | exact lkI rfl (by omega) | rfl) .nil))
        · omega
    · refine At.exit (At.thenExit (At.thenExit (At.inHit ?_)))
      refine At.norm (hk_6 ?_)
      refine At.seq fun K13 hk_13 => ?_
      refine At.region ?_
      refine op_assign (nxlf rfl) rfl rfl ?_
      refine At.opsNil ?_
      refine At.norm (hk_13 ?_)
      refine At.ret (?_)
      refine At.ret1 (L1 := []) rfl (.tmp rfl .nil) (.refl _) (.refl _) ?_
      have e : x = y := by
        rw [show j = 0 by omega] at hd
        simpa using hd
      refine ⟨?_, rfl⟩
      rw [← hxv, ← hyv, e, cmpN_eq]
end Go.Proofs.Ytefljbbpaideaaa
/- limb.shifted, limb.step: the parts of a division of numbers in limbs. Condition: numbers of at most 2^40 limbs. -/
namespace Go.Proofs.Ytefljbbpaideaaa
set_option linter.unusedVariables false
set_option linter.unusedSimpArgs false
open Go Go.RowKit
set_option maxRecDepth 100000 in
theorem shifted_f {N : Heaplet} {ao : Option Addr} {n ca : Nat} {a : List UInt64} (ha : RSl N 1 ao n ca (u64s a)) (s K : Nat) (hs : s < 64) (hn : n ≤ K) (hK : K ≤ 1099511627776) :
    Fn Try.prog 142 #[.slice ao n ca, .int .i64 (s : Int), .int .i64 (K : Int)] [] [N] (fun v L => ∃ M p, v = .slice p K K ∧ L = [M] ∧ Row M 22 1 p K K (u64s (limbsN K (v64 a * 2 ^ s)))) := by
  have hca := ha.cap63
  have hal := ha.len64
  have ho : (a ++ List.replicate (K - n) (0 : UInt64)).length = K := by simp; omega
  have hov := v64_pad a (K - n)
  refine Fn.enter (vs := [.slice ao n ca, .int .i64 (s : Int), .int .i64 (K : Int)]) Try.func142 rfl rfl rfl ?_
  intro E R hR
  have ha := ha.le (hR N (by simp))
  change At _ _ E [R] _
  refine At.seq fun K1 hk_1 => ?_
  refine At.region ?_
  refine op_assign (nxlf rfl) rfl rfl ?_
  refine At.opsNil ?_
  refine At.norm (hk_1 ?_)
  refine At.seq fun K2 hk_2 => ?_
  refine At.region ?_
  refine op_move (nxlf rfl) rfl rfl ?_
  refine op_make (nxla rfl) Try.underlying95 te22 rfl rfl (show _ = (((K : Nat)) : Int) from by omega) (show _ = (((K : Nat)) : Int) from by omega) (by omega) (by unfold maxLen; omega) rfl (fun N10 a10 r10 => ?_)
  rw [made_one _ _ rfl, zero_u64s] at r10
  have s10 := r10.rsl
  refine op_assign (nxlf rfl) rfl rfl ?_
  refine At.opsNil ?_
  refine At.norm (hk_2 ?_)
  refine At.seq fun K3 hk_3 => ?_
  refine At.region ?_
  refine op_move (nxlf rfl) rfl rfl ?_
  refine op_move (nxlf rfl) rfl rfl ?_
  refine op_copyR (nxl rfl) se95 rfl rfl r10 ha mem1 (one_u64s _) sel0 rfl (fun N10 r10 => ?_)
  rw [Nat.min_eq_left hn, u64s_takeR, u64s_drop, List.take_of_length_le (show a.length ≤ n by omega), List.drop_replicate, show u64s a ++ u64s (List.replicate (K - n) 0) = u64s (a ++ List.replicate (K - n) 0) by simp [u64s]] at r10
  generalize a ++ List.replicate (K - n) (0 : UInt64) = o at *
  have s10 := r10.rsl
  refine At.opsNil ?_
  refine At.norm (hk_3 ?_)
  refine At.seq fun K4 hk_4 => ?_
  refine At.seq fun K5 hk_5 => ?_
  refine At.region ?_
  refine op_move (nxlf rfl) rfl rfl ?_
  refine op_subI (nxlf rfl) rfl rfl (by omega) (by omega) rfl ?_
  refine op_assign (nxlf rfl) rfl rfl ?_
  refine At.opsNil ?_
  refine At.norm (hk_5 ?_)
  refine At.block ?_
  refine At.loop (fun fr_ hp_ ms_ => ∃ (I : Nat) (N10 : Heaplet), fr_ = [(1, .int .i64 (s : Int)), (7, .slice a10 K K), (8, .int .i64 ((I : Int) - 1))] ∧ hp_ = [N10, R] ∧ I = ms_ ∧ (I ≤ K) ∧ (s = 0 → I = K) ∧ (Row N10 22 1 a10 K K (u64s (shSt o K s I)))) ?_ (.refl _) ⟨K, N10, rfl, rfl, rfl, by omega, fun _ => rfl, by rw [shSt_all ho]; exact r10⟩ ?_
  · exact .cons (by first | exact lkI rfl (by omega) | rfl) (.cons (by first | exact lkI rfl (by omega) | rfl) (.cons (by first | exact lkI rfl (by omega) | rfl) .nil))
  rintro _ _ _ ⟨I, N10, rfl, rfl, rfl, hI, h0, r10⟩
  have s10 := r10.rsl
  have hl10 := length_shSt (s := s) ho hI
  refine At.seq fun K6 hk_6 => ?_
  refine At.seq fun K7 hk_7 => ?_
  refine At.region ?_
  refine op_move (nxlf rfl) rfl rfl ?_
  refine op_geq (nxlf rfl) rfl rfl rfl ?_
  refine op_move (nxlf rfl) rfl rfl ?_
  refine At.partP (d := 18) rfl (fun g18 => ?_) (fun g18 => ?_)
  · refine op_move (nxgf rfl rfl rfl rfl) rfl rfl ?_
    refine op_gtr (nxgf rfl rfl rfl rfl) rfl rfl rfl ?_
    refine op_pickT (nxlf rfl) rfl rfl rfl ?_
    refine At.opsNil ?_
    refine At.norm (hk_7 ?_)
    refine At.condP rfl (fun c21 => ?_) (fun c21 => ?_)
    · refine At.skip ?_
      refine At.norm (hk_6 ?_)
      refine At.seq fun K8 hk_8 => ?_
      refine At.block ?_
      refine At.seq fun K9 hk_9 => ?_
      refine At.region ?_
      refine op_move (nxlf rfl) rfl rfl ?_
      refine op_move (nxlf rfl) rfl rfl ?_
      refine op_idx1 (nxlf rfl) se95 rfl rfl s10 (show _ = (((I - 1 : Nat)) : Int) from by omega) (by omega) rfl ?_
      have hx : I - 1 < (shSt o K s I).length := by omega
      refine op_loadE (nxlf rfl) sc22 rfl s10 (by first | exact get8 (by omega) | exact get64 (by omega) | exact get32 (by omega)) (by first | exact mem0 | exact mem1 | exact mem2 | exact mem3 | exact mem4 | exact mem5 | exact mem6 | exact mem7 | exact mem8 | exact mem9) rfl ?_
      rw [shSt_getD ho hI (show I - 1 < I by omega)]
      refine op_move (nxlf rfl) rfl rfl ?_
      refine op_shlU (nxlf rfl) rfl rfl (by first | rfl | exact (Int.toNat_of_nonneg (by omega)).symm) rfl ?_
      refine op_idx1 (nxlf rfl) se95 rfl rfl s10 (show _ = (((I - 1 : Nat)) : Int) from by omega) (by omega) rfl ?_
      refine op_storeE (nxl rfl) sz22 rfl rfl rfl rfl rfl r10 (by simp <;> omega) (by simp) sel0 (fun N10 r10 => ?_)
      simp only [setL] at r10
      rw [set_u64s] at r10
      have s10 := r10.rsl
      refine At.opsNil ?_
      refine At.norm (hk_9 ?_)
      refine At.seq fun K10 hk_10 => ?_
      refine At.region ?_
      refine op_move (nxlf rfl) rfl rfl ?_
      refine op_gtr (nxlf rfl) rfl rfl rfl ?_
      refine At.opsNil ?_
      refine At.norm (hk_10 ?_)
      refine At.condP rfl (fun c32 => ?_) (fun c32 => ?_)
      · have hl11 : ((shSt o K s I).set (I - 1) (shl64 (o.getD (I - 1) 0) s)).length = K := by rw [List.length_set]; exact hl10
        refine At.drawnS [N10, R] [14] [] [0,1,2,3,4,5,6,7,8,9,10,11,12,13,14] (by kernel_rfl) (by kernel_rfl) (.refl _) ?_
        refine op_move (nxsf rfl rfl rfl) rfl rfl ?_
        refine op_move (nxsf rfl rfl rfl) rfl rfl ?_
        refine op_idx1 (nxsf rfl rfl rfl) se95 rfl rfl s10 (show _ = (((I - 1 : Nat)) : Int) from by omega) (by omega) rfl ?_
        refine op_loadE (nxsf rfl rfl rfl) sc22 rfl s10 (by first | exact get8 (by omega) | exact get64 (by omega) | exact get32 (by omega)) (by first | exact mem0 | exact mem1 | exact mem2 | exact mem3 | exact mem4 | exact mem5 | exact mem6 | exact mem7 | exact mem8 | exact mem9) rfl ?_
        rw [getD_set_self (show I - 1 < (shSt o K s I).length by omega)]
        refine op_move (nxsf rfl rfl rfl) rfl rfl ?_
        refine op_move (nxsf rfl rfl rfl) rfl rfl ?_
        refine op_subI (nxsf rfl rfl rfl) rfl rfl (by omega) (by omega) rfl ?_
        refine op_idx1 (nxsf rfl rfl rfl) se95 rfl rfl s10 (show _ = (((I - 1 - 1 : Nat)) : Int) from by omega) (by omega) rfl ?_
        refine op_loadE (nxsf rfl rfl rfl) sc22 rfl s10 (by first | exact get8 (by omega) | exact get64 (by omega) | exact get32 (by omega)) (by first | exact mem0 | exact mem1 | exact mem2 | exact mem3 | exact mem4 | exact mem5 | exact mem6 | exact mem7 | exact mem8 | exact mem9) rfl ?_
        rw [getD_set_ne (show I - 1 ≠ I - 1 - 1 by omega), shSt_getD ho hI (show I - 1 - 1 < I by omega)]
        refine op_move (nxsf rfl rfl rfl) rfl rfl ?_
        refine op_subI (nxsf rfl rfl rfl) rfl rfl (by omega) (by omega) rfl ?_
        refine op_shrU (nxsf rfl rfl rfl) rfl rfl (show _ = (((64 - s : Nat)) : Int) from by omega) rfl ?_
        refine op_orU (nxsf rfl rfl rfl) rfl rfl rfl ?_
        refine op_idx1 (nxsf rfl rfl rfl) se95 rfl rfl s10 (show _ = (((I - 1 : Nat)) : Int) from by omega) (by omega) rfl ?_
        refine op_storeE (nxsl rfl rfl rfl rfl) sz22 rfl rfl rfl rfl rfl r10 (by simp <;> omega) (by simp) sel0 (fun N10 r10 => ?_)
        simp only [setL] at r10
        rw [set_u64s, List.set_set, ← shl_at (show 0 < I - 1 by omega) hs, shSt_set' ho (by omega) hI] at r10
        have s10 := r10.rsl
        refine At.sNil ?_
        refine At.inNorm ?_
        refine At.norm (hk_8 ?_)
        refine At.region ?_
        refine op_move (nxlf rfl) rfl rfl ?_
        refine op_subI (nxlf rfl) rfl rfl (by omega) (by omega) rfl ?_
        refine op_assign (nxlf rfl) rfl rfl ?_
        refine At.opsNil ?_
        refine At.norm ?_
        refine At.back ?_ (.refl _) ⟨I - 1, N10, rfl, rfl, rfl, by omega, fun e => absurd e (by omega), r10⟩ ?_
        · exact .cons (by first | exact lkI rfl (by omega) | rfl) (.cons (by first | exact lkI rfl (by omega) | rfl) (.cons (by first | exact lkI rfl (by omega) | rfl) .nil))
        · omega
      · have e : shl64 (o.getD (I - 1) 0) s = UInt64.ofNat (v64 o * 2 ^ s / 2 ^ (64 * (I - 1))) := by rw [show I - 1 = 0 by omega]; exact (shl_low hs).symm
        rw [e, shSt_set' ho (by omega) hI] at r10
        refine At.skip ?_
        refine At.inNorm ?_
        refine At.norm (hk_8 ?_)
        refine At.region ?_
        refine op_move (nxlf rfl) rfl rfl ?_
        refine op_subI (nxlf rfl) rfl rfl (by omega) (by omega) rfl ?_
        refine op_assign (nxlf rfl) rfl rfl ?_
        refine At.opsNil ?_
        refine At.norm ?_
        refine At.back ?_ (.refl _) ⟨I - 1, N10, rfl, rfl, rfl, by omega, fun e => absurd e (by omega), r10⟩ ?_
        · exact .cons (by first | exact lkI rfl (by omega) | rfl) (.cons (by first | exact lkI rfl (by omega) | rfl) (.cons (by first | exact lkI rfl (by omega) | rfl) .nil))
        · omega
    · refine At.exit (At.thenExit (At.thenExit (At.inHit ?_)))
      refine At.norm (hk_4 ?_)
      refine At.seq fun K11 hk_11 => ?_
      refine At.region ?_
      refine op_move (nxlf rfl) rfl rfl ?_
      refine op_assign (nxlf rfl) rfl rfl ?_
      refine At.opsNil ?_
      refine At.norm (hk_11 ?_)
      refine At.ret (?_)
      refine At.ret1 (L1 := [N10]) rfl (.tmp rfl .nil) (.refl _) (.refl _) ?_
      refine ⟨N10, a10, rfl, rfl, ?_⟩
      have hs0 : s = 0 := by omega
      subst hs0
      rw [h0 rfl, shSt_all ho] at r10
      rw [Nat.pow_zero, Nat.mul_one, ← hov, ← eq_limbsN ho rfl]
      exact r10
  · refine op_skip rfl rfl rfl rfl rfl rfl rfl ?_
    refine op_skip rfl rfl rfl rfl rfl rfl rfl ?_
    refine op_pickF (nxlf rfl) rfl rfl rfl ?_
    refine At.opsNil ?_
    refine At.norm (hk_7 ?_)
    refine At.condF rfl ?_
    refine At.exit (At.thenExit (At.thenExit (At.inHit ?_)))
    refine At.norm (hk_4 ?_)
    refine At.seq fun K12 hk_12 => ?_
    refine At.region ?_
    refine op_move (nxlf rfl) rfl rfl ?_
    refine op_assign (nxlf rfl) rfl rfl ?_
    refine At.opsNil ?_
    refine At.norm (hk_12 ?_)
    refine At.ret (?_)
    refine At.ret1 (L1 := [N10]) rfl (.tmp rfl .nil) (.refl _) (.refl _) ?_
    have hI0 : I = 0 := by omega
    subst hI0
    rw [shSt_none, hov] at r10
    exact ⟨N10, a10, rfl, rfl, r10⟩
theorem Blk.win {N : Heaplet} {b o cu : Nat} {e : TypeId} {pre x post : List UInt64} (h : Blk N b e (u64s (pre ++ x ++ post))) (hp : pre.length = o) (hx : x.length ≤ cu) (hc : cu ≤ 9223372036854775807) :
    RSl N 1 (some ⟨b, o, none⟩) x.length cu (u64s x) := by
  refine ⟨by simp, hx, hc, fun _ => ⟨b, o, rfl, ?_⟩⟩
  have := h.rng.sub (o := o) (ds := u64s x) fun i hi => by
    rw [length_u64s] at hi
    subst hp
    simp only [u64s, List.map_append, List.append_assoc]
    rw [List.getElem?_append_right (by simp), List.getElem?_append_left (by simpa using hi)]
    simp [hi]
  rwa [Nat.zero_add] at this
end Go.Proofs.Ytefljbbpaideaaa
/- limb.step: the upper limbs divided. Condition: at most 2^40 limbs; the quotient is one limb. -/
namespace Go.Proofs.Ytefljbbpaideaaa
set_option linter.unusedVariables false
set_option linter.unusedSimpArgs false
open Go Go.RowKit
def StepP (b : Nat) (e : TypeId) (pre u v post : List UInt64) (r : Value) (L : List Heaplet) : Prop :=
  ∃ M x, ∃ q : UInt64, r = .int .u64 (q.toNat : Int) ∧ L = [M] ∧ Blk M b e (u64s (pre ++ x ++ post)) ∧ x.length = u.length ∧ q.toNat = v64 u / v64 v ∧ v64 x = v64 u % v64 v
set_option maxRecDepth 100000 in
theorem step_f {Nu Nv : Heaplet} {b o cu n cv : Nat} {e : TypeId} {vo : Option Addr} {pre u post v : List UInt64} (Bu : Blk Nu b e (u64s (pre ++ u ++ post))) (hv : RSl Nv 1 vo n cv (u64s v)) (hp : pre.length = o) (hul : u.length = n + 1) (hcu : n + 1 ≤ cu) (hcm : cu ≤ 9223372036854775807)
    (hn1 : 1 ≤ n) (hn : n ≤ 1099511627776) (hV : 0 < v64 v) (hU : v64 u < v64 v * 18446744073709551616) :
    Fn Try.prog 143 #[.slice (some ⟨b, o, none⟩) (n + 1) cu, .slice vo n cv] [Nu] [Nv] (StepP b e pre u v post) := by
  have hcv := hv.cap63
  have hvl := hv.len64
  refine Fn.enter (vs := [.slice (some ⟨b, o, none⟩) (n + 1) cu, .slice vo n cv]) Try.func143 rfl rfl rfl ?_
  intro E R hR
  have hv := hv.le (hR Nv (by simp))
  have su := Bu.win hp (show u.length ≤ cu by omega) hcm
  rw [hul] at su
  have hQB : v64 u / v64 v < 18446744073709551616 := by rw [Nat.div_lt_iff_lt_mul hV, Nat.mul_comm]; exact hU
  change At _ _ E [Nu, R] _
  refine At.seq fun K1 hk_1 => ?_
  refine At.region ?_
  refine op_assign (nxlf rfl) rfl rfl ?_
  refine At.opsNil ?_
  refine At.norm (hk_1 ?_)
  refine At.seq fun K2 hk_2 => ?_
  refine At.region ?_
  refine op_move (nxlf rfl) rfl rfl ?_
  refine op_lenS (nxlf rfl) se95 rfl rfl ?_
  refine op_assign (nxlf rfl) rfl rfl ?_
  refine At.opsNil ?_
  refine At.norm (hk_2 ?_)
  refine At.seq fun K3 hk_3 => ?_
  refine At.region ?_
  refine op_assign (nxlf rfl) rfl rfl ?_
  refine At.opsNil ?_
  refine At.norm (hk_3 ?_)
  refine At.seq fun K4 hk_4 => ?_
  refine At.meet (fun fr_ hp_ => ∃ (q0 : UInt64), fr_ = [(0, .slice (some ⟨b, o, none⟩) (n + 1) cu), (1, .slice vo n cv), (5, .int .i64 (n : Int)), (6, .int .u64 (q0.toNat : Int))] ∧ hp_ = [Nu, R] ∧ (v64 u / v64 v ≤ q0.toNat)) ?_ (fun K4_ jk_4 => ?_)
  rotate_left
  · skip
    refine At.seq fun K5 hk_5 => ?_
    refine At.drawnS [Nu, R] [] [] [0,1,2,3,4,5,6,7,8,9] (by kernel_rfl) (by kernel_rfl) (.refl _) ?_
    refine op_move (nxsf rfl rfl rfl) rfl rfl ?_
    refine op_move (nxsf rfl rfl rfl) rfl rfl ?_
    refine op_idx1 (nxsf rfl rfl rfl) se95 rfl rfl su (show _ = (((n : Nat)) : Int) from by omega) (by omega) rfl ?_
    refine op_loadE (nxsf rfl rfl rfl) sc22 rfl su (by first | exact get8 (by omega) | exact get64 (by omega) | exact get32 (by omega)) (by first | exact mem0 | exact mem1 | exact mem2 | exact mem3 | exact mem4 | exact mem5 | exact mem6 | exact mem7 | exact mem8 | exact mem9) rfl ?_
    refine op_move (nxsf rfl rfl rfl) rfl rfl ?_
    refine op_move (nxsf rfl rfl rfl) rfl rfl ?_
    refine op_subI (nxsf rfl rfl rfl) rfl rfl (by omega) (by omega) rfl ?_
    refine op_idx1 (nxsf rfl rfl rfl) se95 rfl rfl hv (show _ = (((n - 1 : Nat)) : Int) from by omega) (by omega) rfl ?_
    refine op_loadE (nxsf rfl rfl rfl) sc22 rfl hv (by first | exact get8 (by omega) | exact get64 (by omega) | exact get32 (by omega)) (by first | exact mem0 | exact mem1 | exact mem2 | exact mem3 | exact mem4 | exact mem5 | exact mem6 | exact mem7 | exact mem8 | exact mem9) rfl ?_
    refine op_lss (nxsf rfl rfl rfl) rfl rfl rfl ?_
    refine At.sNil ?_
    refine At.norm (hk_5 ?_)
    refine At.condP rfl (fun c26 => ?_) (fun c26 => ?_)
    · refine At.drawnS [Nu, R] [14] [] [0,1,2,3,4,5,6,7,8,9,10,11,12,13,14,15,16,17,18] (by kernel_rfl) (by kernel_rfl) (.refl _) ?_
      refine op_move (nxsf rfl rfl rfl) rfl rfl ?_
      refine op_move (nxsf rfl rfl rfl) rfl rfl ?_
      refine op_idx1 (nxsf rfl rfl rfl) se95 rfl rfl su (show _ = (((n : Nat)) : Int) from by omega) (by omega) rfl ?_
      refine op_loadE (nxsf rfl rfl rfl) sc22 rfl su (by first | exact get8 (by omega) | exact get64 (by omega) | exact get32 (by omega)) (by first | exact mem0 | exact mem1 | exact mem2 | exact mem3 | exact mem4 | exact mem5 | exact mem6 | exact mem7 | exact mem8 | exact mem9) rfl ?_
      refine op_move (nxsf rfl rfl rfl) rfl rfl ?_
      refine op_move (nxsf rfl rfl rfl) rfl rfl ?_
      refine op_subI (nxsf rfl rfl rfl) rfl rfl (by omega) (by omega) rfl ?_
      refine op_idx1 (nxsf rfl rfl rfl) se95 rfl rfl su (show _ = (((n - 1 : Nat)) : Int) from by omega) (by omega) rfl ?_
      refine op_loadE (nxsf rfl rfl rfl) sc22 rfl su (by first | exact get8 (by omega) | exact get64 (by omega) | exact get32 (by omega)) (by first | exact mem0 | exact mem1 | exact mem2 | exact mem3 | exact mem4 | exact mem5 | exact mem6 | exact mem7 | exact mem8 | exact mem9) rfl ?_
      refine op_move (nxsf rfl rfl rfl) rfl rfl ?_
      refine op_move (nxsf rfl rfl rfl) rfl rfl ?_
      refine op_subI (nxsf rfl rfl rfl) rfl rfl (by omega) (by omega) rfl ?_
      refine op_idx1 (nxsf rfl rfl rfl) se95 rfl rfl hv (show _ = (((n - 1 : Nat)) : Int) from by omega) (by omega) rfl ?_
      refine op_loadE (nxsf rfl rfl rfl) sc22 rfl hv (by first | exact get8 (by omega) | exact get64 (by omega) | exact get32 (by omega)) (by first | exact mem0 | exact mem1 | exact mem2 | exact mem3 | exact mem4 | exact mem5 | exact mem6 | exact mem7 | exact mem8 | exact mem9) rfl ?_
      refine op_callA (Nx.agree (nxss rfl rfl rfl rfl)) (.cons rfl (.cons rfl (.cons rfl .nil))) (Div64_f (u.getD n 0) (u.getD (n - 1) 0) (v.getD (n - 1) 0) (by omega)) Try.func146 rfl rfl (by simp) rfl ?_
      rintro v42 L42 ⟨q, r, rfl, rfl, hq, hr⟩
      change At _ _ _ [Nu, R] _
      refine At.anyS (.refl _) ?_
      refine op_move (nxsf rfl rfl rfl) rfl rfl ?_
      refine op_extract (nxsf rfl rfl rfl) rfl rfl rfl ?_
      refine op_extract (nxsf rfl rfl rfl) rfl rfl rfl ?_
      refine op_assign (nxsf rfl rfl rfl) rfl rfl ?_
      refine At.sNil ?_
      refine At.norm (jk_4 ?_ (.refl _) ⟨q, rfl, rfl, by rw [hq]; exact qhat_ge (by omega) hvl hn1 (Nat.div_mul_le_self _ _) (by omega)⟩)
      exact .cons (by first | exact lkI rfl (by omega) | rfl) (.cons (by first | exact lkI rfl (by omega) | rfl) (.cons (by first | exact lkI rfl (by omega) | rfl) (.cons (by first | exact lkI rfl (by omega) | rfl) .nil)))
    · refine At.skip ?_
      refine At.norm (jk_4 ?_ (.refl _) ⟨18446744073709551615, rfl, rfl, by show _ ≤ 18446744073709551615; omega⟩)
      exact .cons (by first | exact lkI rfl (by omega) | rfl) (.cons (by first | exact lkI rfl (by omega) | rfl) (.cons (by first | exact lkI rfl (by omega) | rfl) (.cons (by first | exact lkI rfl (by omega) | rfl) .nil)))
  rintro _ _ ⟨q0, rfl, rfl, hq0⟩
  refine hk_4 ?_
  refine At.seq fun K6 hk_6 => ?_
  refine At.region ?_
  refine op_assign (nxlf rfl) rfl rfl ?_
  refine op_assign (nxlf rfl) rfl rfl ?_
  refine At.opsNil ?_
  refine At.norm (hk_6 ?_)
  refine At.seq fun K7 hk_7 => ?_
  refine At.seq fun K8 hk_8 => ?_
  refine At.region ?_
  refine op_move (nxlf rfl) rfl rfl ?_
  refine op_lenS (nxlf rfl) se95 rfl rfl ?_
  refine op_move (nxlf rfl) rfl rfl ?_
  refine At.opsNil ?_
  refine At.norm (hk_8 ?_)
  refine At.block ?_
  refine At.loop (fun fr_ hp_ ms_ => ∃ (k : Nat) (w : List UInt64) (cy bw : UInt64) (Nu : Heaplet), fr_ = [(0, .slice (some ⟨b, o, none⟩) (n + 1) cu), (1, .slice vo n cv), (5, .int .i64 (n : Int)), (6, .int .u64 (q0.toNat : Int)), (7, .int .u64 (bw.toNat : Int)), (8, .int .u64 (cy.toNat : Int)), (46, .int .i64 (n : Int)), (47, .int .i64 (k : Int))] ∧ hp_ = [Nu, R] ∧ n - k = ms_ ∧ (k ≤ n) ∧ (w.length = k) ∧ (bw.toNat ≤ 1) ∧ (v64 w + q0.toNat * v64 (v.take k) = v64 (u.take k) + (cy.toNat + bw.toNat) * 2 ^ (64 * k)) ∧ (Blk Nu b e (u64s (pre ++ (w ++ u.drop k) ++ post)))) ?_ (.refl _) ⟨0, [], 0, 0, Nu, rfl, rfl, rfl, by omega, rfl, by decide, by simp [v64, n64, val], by simpa using Bu⟩ ?_
  · exact .cons (by first | exact lkI rfl (by omega) | rfl) (.cons (by first | exact lkI rfl (by omega) | rfl) (.cons (by first | exact lkI rfl (by omega) | rfl) (.cons (by first | exact lkI rfl (by omega) | rfl) (.cons (by first | exact lkI rfl (by omega) | rfl) (.cons (by first | exact lkI rfl (by omega) | rfl) (.cons (by first | exact lkI rfl (by omega) | rfl) (.cons (by first | exact lkI rfl (by omega) | rfl) .nil)))))))
  rintro _ _ _ ⟨k, w, cy, bw, Nu, rfl, rfl, rfl, hk, hw, hb, hv2, Bu⟩
  have hwl : (w ++ u.drop k).length = n + 1 := by rw [List.length_append, List.length_drop]; omega
  have su := Bu.win hp (show (w ++ u.drop k).length ≤ cu by omega) hcm
  rw [hwl] at su
  refine At.seq fun K9 hk_9 => ?_
  refine At.region ?_
  refine op_lss (nxlf rfl) rfl rfl rfl ?_
  refine At.opsNil ?_
  refine At.norm (hk_9 ?_)
  refine At.seq fun K10 hk_10 => ?_
  refine At.condP rfl (fun c48 => ?_) (fun c48 => ?_)
  · refine At.skip ?_
    refine At.norm (hk_10 ?_)
    refine At.seq fun K11 hk_11 => ?_
    refine At.block ?_
    refine At.seq fun K12 hk_12 => ?_
    refine At.region ?_
    refine op_move (nxlf rfl) rfl rfl ?_
    refine op_assign (nxlf rfl) rfl rfl ?_
    refine At.opsNil ?_
    refine At.norm (hk_12 ?_)
    refine At.seq fun K13 hk_13 => ?_
    refine At.region ?_
    refine op_move (nxlf rfl) rfl rfl ?_
    refine op_move (nxlf rfl) rfl rfl ?_
    refine op_move (nxlf rfl) rfl rfl ?_
    refine op_idx1 (nxlf rfl) se95 rfl rfl hv (show _ = (((k : Nat)) : Int) from by omega) (by omega) rfl ?_
    refine op_loadE (nxlf rfl) sc22 rfl hv (by first | exact get8 (by omega) | exact get64 (by omega) | exact get32 (by omega)) (by first | exact mem0 | exact mem1 | exact mem2 | exact mem3 | exact mem4 | exact mem5 | exact mem6 | exact mem7 | exact mem8 | exact mem9) rfl ?_
    refine op_callA (nxla rfl) (.cons rfl (.cons rfl .nil)) (Mul64_f q0 (v.getD k 0)) Try.func113 rfl rfl (by simp) rfl ?_
    rintro v56 L56 ⟨rfl, rfl⟩
    change At _ _ _ [Nu, R] _
    refine op_move (nxlf rfl) rfl rfl ?_
    refine op_extract (nxlf rfl) rfl rfl rfl ?_
    refine op_extract (nxlf rfl) rfl rfl rfl ?_
    refine op_assign (nxlf rfl) rfl rfl ?_
    refine op_assign (nxlf rfl) rfl rfl ?_
    refine At.opsNil ?_
    refine At.norm (hk_13 ?_)
    refine At.seq fun K14 hk_14 => ?_
    refine At.region ?_
    refine op_assign (nxlf rfl) rfl rfl ?_
    refine At.opsNil ?_
    refine At.norm (hk_14 ?_)
    refine At.seq fun K15 hk_15 => ?_
    refine At.region ?_
    refine op_move (nxlf rfl) rfl rfl ?_
    refine op_move (nxlf rfl) rfl rfl ?_
    refine op_ext (nxla rfl) (.cons rfl (.cons rfl (.cons rfl .nil))) (Add64_x (q0 * v.getD k 0) cy 0 (by decide)) rfl ?_
    refine op_move (nxlf rfl) rfl rfl ?_
    refine op_extract (nxlf rfl) rfl rfl rfl ?_
    refine op_extract (nxlf rfl) rfl rfl rfl ?_
    refine op_assign (nxlf rfl) rfl rfl ?_
    refine op_assign (nxlf rfl) rfl rfl ?_
    refine At.opsNil ?_
    refine At.norm (hk_15 ?_)
    refine At.seq fun K16 hk_16 => ?_
    refine At.region ?_
    refine op_move (nxlf rfl) rfl rfl ?_
    refine op_move (nxlf rfl) rfl rfl ?_
    refine op_move (nxlf rfl) rfl rfl ?_
    refine op_move (nxlf rfl) rfl rfl ?_
    refine op_idx1 (nxlf rfl) se95 rfl rfl su (show _ = (((k : Nat)) : Int) from by omega) (by omega) rfl ?_
    refine op_loadE (nxlf rfl) sc22 rfl su (by first | exact get8 (by omega) | exact get64 (by omega) | exact get32 (by omega)) (by first | exact mem0 | exact mem1 | exact mem2 | exact mem3 | exact mem4 | exact mem5 | exact mem6 | exact mem7 | exact mem8 | exact mem9) rfl ?_
    rw [getD_drop hw (show k < u.length by omega)]
    refine op_move (nxlf rfl) rfl rfl ?_
    refine op_move (nxlf rfl) rfl rfl ?_
    refine op_ext (nxla rfl) (.cons rfl (.cons rfl (.cons rfl .nil))) (Sub64_x (u.getD k 0) (addS (q0 * v.getD k 0) cy 0) bw hb) rfl ?_
    refine op_move (nxlf rfl) rfl rfl ?_
    refine op_extract (nxlf rfl) rfl rfl rfl ?_
    refine op_extract (nxlf rfl) rfl rfl rfl ?_
    refine op_idx1 (nxlf rfl) se95 rfl rfl su (show _ = (((k : Nat)) : Int) from by omega) (by omega) rfl ?_
    refine op_store (nxl rfl) sz22 rfl rfl rfl rfl rfl Bu (by simp; omega) sel0 (fun Nu Bu => ?_)
    simp only [setL] at Bu
    rw [set_u64s, win_set hp (show k < (w ++ u.drop k).length by omega), set_drop hw (show k < u.length by omega)] at Bu
    refine op_assign (nxlf rfl) rfl rfl ?_
    refine At.opsNil ?_
    refine At.norm (hk_16 ?_)
    refine At.region ?_
    refine op_move (nxlf rfl) rfl rfl ?_
    refine op_move (nxlf rfl) rfl rfl ?_
    refine op_addU (nxlf rfl) rfl rfl rfl ?_
    refine op_assign (nxlf rfl) rfl rfl ?_
    refine At.opsNil ?_
    refine At.inNorm ?_
    refine At.norm (hk_11 ?_)
    refine At.region ?_
    refine op_addI (nxlf rfl) rfl rfl (by omega) (by omega) rfl ?_
    refine op_move (nxlf rfl) rfl rfl ?_
    refine At.opsNil ?_
    refine At.norm ?_
    refine At.back ?_ (.refl _) ⟨k + 1, w ++ [subS (u.getD k 0) (addS (q0 * v.getD k 0) cy 0) bw], mulH q0 (v.getD k 0) + addC (q0 * v.getD k 0) cy 0, subC (u.getD k 0) (addS (q0 * v.getD k 0) cy 0) bw, Nu, rfl, rfl, rfl, by omega, by simp; omega, (sub64_law _ _ _ hb).2, step_round hw hb hv2, Bu⟩ ?_
    · exact .cons (by first | exact lkI rfl (by omega) | rfl) (.cons (by first | exact lkI rfl (by omega) | rfl) (.cons (by first | exact lkI rfl (by omega) | rfl) (.cons (by first | exact lkI rfl (by omega) | rfl) (.cons (by first | exact lkI rfl (by omega) | rfl) (.cons (by first | exact lkI rfl (by omega) | rfl) (.cons (by first | exact lkI rfl (by omega) | rfl) (.cons (by first | exact lkI rfl (by omega) | rfl) .nil)))))))
    · omega
  · refine At.exit (At.thenExit (At.thenExit (At.inHit ?_)))
    refine At.norm (hk_7 ?_)
    refine At.seq fun K17 hk_17 => ?_
    refine At.region ?_
    have hkn : k = n := by omega
    refine op_move (nxlf rfl) rfl rfl ?_
    refine op_move (nxlf rfl) rfl rfl ?_
    refine op_move (nxlf rfl) rfl rfl ?_
    refine op_move (nxlf rfl) rfl rfl ?_
    refine op_idx1 (nxlf rfl) se95 rfl rfl su (show _ = (((n : Nat)) : Int) from by omega) (by omega) rfl ?_
    refine op_loadE (nxlf rfl) sc22 rfl su (by first | exact get8 (by omega) | exact get64 (by omega) | exact get32 (by omega)) (by first | exact mem0 | exact mem1 | exact mem2 | exact mem3 | exact mem4 | exact mem5 | exact mem6 | exact mem7 | exact mem8 | exact mem9) rfl ?_
    rw [show (w ++ u.drop k).getD n 0 = u.getD n 0 by rw [← hkn, getD_drop hw (by omega)]]
    refine op_move (nxlf rfl) rfl rfl ?_
    refine op_move (nxlf rfl) rfl rfl ?_
    refine op_ext (nxla rfl) (.cons rfl (.cons rfl (.cons rfl .nil))) (Sub64_x (u.getD n 0) cy bw hb) rfl ?_
    refine op_move (nxlf rfl) rfl rfl ?_
    refine op_extract (nxlf rfl) rfl rfl rfl ?_
    refine op_extract (nxlf rfl) rfl rfl rfl ?_
    refine op_idx1 (nxlf rfl) se95 rfl rfl su (show _ = (((n : Nat)) : Int) from by omega) (by omega) rfl ?_
    refine op_store (nxl rfl) sz22 rfl rfl rfl rfl rfl Bu (by simp; omega) sel0 (fun Nu Bu => ?_)
    simp only [setL] at Bu
    rw [set_u64s, win_set hp (show n < (w ++ u.drop k).length by omega), show (w ++ u.drop k).set n (subS (u.getD n 0) cy bw) = w ++ [subS (u.getD n 0) cy bw] by rw [← hkn, set_drop hw (by omega), List.drop_of_length_le (by omega), List.append_nil]] at Bu
    rw [hkn, v64_take_all (by omega)] at hv2
    have hlast := step_last (by omega) hb hv2 hul
    have hb2 := (sub64_law (u.getD n 0) cy bw hb).2
    refine op_assign (nxlf rfl) rfl rfl ?_
    refine At.opsNil ?_
    refine At.norm (hk_17 ?_)
    refine At.seq fun K18 hk_18 => ?_
    refine At.block ?_
    refine At.loop (fun fr_ hp_ ms_ => ∃ (x : List UInt64) (q bo : UInt64) (Nu : Heaplet), fr_ = [(0, .slice (some ⟨b, o, none⟩) (n + 1) cu), (1, .slice vo n cv), (5, .int .i64 (n : Int)), (6, .int .u64 (q.toNat : Int)), (7, .int .u64 (bo.toNat : Int))] ∧ hp_ = [Nu, R] ∧ q.toNat = ms_ ∧ (x.length = n + 1) ∧ (bo.toNat ≤ 1) ∧ (v64 x + q.toNat * v64 v = v64 u + bo.toNat * 2 ^ (64 * (n + 1))) ∧ (bo.toNat = 0 → v64 x < v64 v) ∧ (Blk Nu b e (u64s (pre ++ x ++ post)))) ?_ (.refl _) ⟨w ++ [subS (u.getD n 0) cy bw], q0, subC (u.getD n 0) cy bw, Nu, rfl, rfl, rfl, by simp; omega, hb2, hlast, fun h => step_start (Q := 0) hV hlast hq0 h, Bu⟩ ?_
    · exact .cons (by first | exact lkI rfl (by omega) | rfl) (.cons (by first | exact lkI rfl (by omega) | rfl) (.cons (by first | exact lkI rfl (by omega) | rfl) (.cons (by first | exact lkI rfl (by omega) | rfl) (.cons (by first | exact lkI rfl (by omega) | rfl) .nil))))
    rintro _ _ _ ⟨x, q, bo, Nu, rfl, rfl, rfl, hxl, hbo, hx, hx0, Bu⟩
    have su := Bu.win hp (show x.length ≤ cu by omega) hcm
    rw [hxl] at su
    refine At.seq fun K19 hk_19 => ?_
    refine At.seq fun K20 hk_20 => ?_
    refine At.region ?_
    refine op_move (nxlf rfl) rfl rfl ?_
    refine op_neq (nxlf rfl) rfl rfl rfl ?_
    refine At.opsNil ?_
    refine At.norm (hk_20 ?_)
    refine At.condP rfl (fun c96 => ?_) (fun c96 => ?_)
    · refine At.skip ?_
      refine At.norm (hk_19 ?_)
      refine At.block ?_
      refine At.seq fun K21 hk_21 => ?_
      refine At.region ?_
      refine op_move (nxlf rfl) rfl rfl ?_
      refine op_subU (b := 1) (nxlf rfl) rfl rfl rfl ?_
      refine op_assign (nxlf rfl) rfl rfl ?_
      refine At.opsNil ?_
      refine At.norm (hk_21 ?_)
      refine At.seq fun K22 hk_22 => ?_
      refine At.region ?_
      refine op_assign (nxlf rfl) rfl rfl ?_
      refine At.opsNil ?_
      refine At.norm (hk_22 ?_)
      refine At.seq fun K23 hk_23 => ?_
      refine At.seq fun K24 hk_24 => ?_
      refine At.region ?_
      refine op_move (nxlf rfl) rfl rfl ?_
      refine op_lenS (nxlf rfl) se95 rfl rfl ?_
      refine op_move (nxlf rfl) rfl rfl ?_
      refine At.opsNil ?_
      refine At.norm (hk_24 ?_)
      refine At.block ?_
      refine At.loop (fun fr_ hp_ ms_ => ∃ (k : Nat) (w : List UInt64) (c : UInt64) (Nu : Heaplet), fr_ = [(0, .slice (some ⟨b, o, none⟩) (n + 1) cu), (1, .slice vo n cv), (5, .int .i64 (n : Int)), (6, .int .u64 ((q - 1).toNat : Int)), (7, .int .u64 (bo.toNat : Int)), (13, .int .u64 (c.toNat : Int)), (100, .int .i64 (n : Int)), (101, .int .i64 (k : Int))] ∧ hp_ = [Nu, R] ∧ n - k = ms_ ∧ (k ≤ n) ∧ (w.length = k) ∧ (c.toNat ≤ 1) ∧ (v64 w + c.toNat * 2 ^ (64 * k) = v64 (x.take k) + v64 (v.take k)) ∧ (Blk Nu b e (u64s (pre ++ (w ++ x.drop k) ++ post)))) ?_ (.refl _) ⟨0, [], 0, Nu, rfl, rfl, rfl, by omega, rfl, by decide, by simp [v64, n64, val], by simpa using Bu⟩ ?_
      · exact .cons (by first | exact lkI rfl (by omega) | rfl) (.cons (by first | exact lkI rfl (by omega) | rfl) (.cons (by first | exact lkI rfl (by omega) | rfl) (.cons (by first | exact lkI rfl (by omega) | rfl) (.cons (by first | exact lkI rfl (by omega) | rfl) (.cons (by first | exact lkI rfl (by omega) | rfl) (.cons (by first | exact lkI rfl (by omega) | rfl) (.cons (by first | exact lkI rfl (by omega) | rfl) .nil)))))))
      rintro _ _ _ ⟨k, w, c, Nu, rfl, rfl, rfl, hk, hw, hc, hv3, Bu⟩
      have hwl : (w ++ x.drop k).length = n + 1 := by rw [List.length_append, List.length_drop]; omega
      have su := Bu.win hp (show (w ++ x.drop k).length ≤ cu by omega) hcm
      rw [hwl] at su
      refine At.seq fun K25 hk_25 => ?_
      refine At.region ?_
      refine op_lss (nxlf rfl) rfl rfl rfl ?_
      refine At.opsNil ?_
      refine At.norm (hk_25 ?_)
      refine At.seq fun K26 hk_26 => ?_
      refine At.condP rfl (fun c102 => ?_) (fun c102 => ?_)
      · refine At.skip ?_
        refine At.norm (hk_26 ?_)
        refine At.seq fun K27 hk_27 => ?_
        refine At.block ?_
        refine At.seq fun K28 hk_28 => ?_
        refine At.region ?_
        refine op_move (nxlf rfl) rfl rfl ?_
        refine op_assign (nxlf rfl) rfl rfl ?_
        refine At.opsNil ?_
        refine At.norm (hk_28 ?_)
        refine At.drawnS [Nu, R] [11,16] [0,1,14] [0,1,2,3,4,5,6,7,8,9,10,11,12,13,14,15,16,17] (by kernel_rfl) (by kernel_rfl) (.refl _) ?_
        refine op_move (nxsf rfl rfl rfl) rfl rfl ?_
        refine op_move (nxsf rfl rfl rfl) rfl rfl ?_
        refine op_move (nxsf rfl rfl rfl) rfl rfl ?_
        refine op_move (nxsf rfl rfl rfl) rfl rfl ?_
        refine op_idx1 (nxsf rfl rfl rfl) se95 rfl rfl su (show _ = (((k : Nat)) : Int) from by omega) (by omega) rfl ?_
        refine op_loadE (nxsf rfl rfl rfl) sc22 rfl su (by first | exact get8 (by omega) | exact get64 (by omega) | exact get32 (by omega)) (by first | exact mem0 | exact mem1 | exact mem2 | exact mem3 | exact mem4 | exact mem5 | exact mem6 | exact mem7 | exact mem8 | exact mem9) rfl ?_
        rw [getD_drop hw (show k < x.length by omega)]
        refine op_move (nxsf rfl rfl rfl) rfl rfl ?_
        refine op_move (nxsf rfl rfl rfl) rfl rfl ?_
        refine op_idx1 (nxsf rfl rfl rfl) se95 rfl rfl hv (show _ = (((k : Nat)) : Int) from by omega) (by omega) rfl ?_
        refine op_loadE (nxsf rfl rfl rfl) sc22 rfl hv (by first | exact get8 (by omega) | exact get64 (by omega) | exact get32 (by omega)) (by first | exact mem0 | exact mem1 | exact mem2 | exact mem3 | exact mem4 | exact mem5 | exact mem6 | exact mem7 | exact mem8 | exact mem9) rfl ?_
        refine op_move (nxsf rfl rfl rfl) rfl rfl ?_
        refine op_ext (Nx.agree (nxss rfl rfl rfl rfl)) (.cons rfl (.cons rfl (.cons rfl .nil))) (Add64_x (x.getD k 0) (v.getD k 0) c hc) rfl ?_
        refine At.anyS (.refl _) ?_
        refine op_move (nxsf rfl rfl rfl) rfl rfl ?_
        refine op_extract (nxsf rfl rfl rfl) rfl rfl rfl ?_
        refine op_extract (nxsf rfl rfl rfl) rfl rfl rfl ?_
        refine op_idx1 (nxsf rfl rfl rfl) se95 rfl rfl su (show _ = (((k : Nat)) : Int) from by omega) (by omega) rfl ?_
        refine op_store (nxss rfl rfl rfl rfl) sz22 rfl rfl rfl rfl rfl Bu (by simp; omega) sel0 (fun Nu Bu => ?_)
        simp only [setL] at Bu
        rw [set_u64s, win_set hp (show k < (w ++ x.drop k).length by omega), set_drop hw (show k < x.length by omega)] at Bu
        refine At.anyS (.refl _) ?_
        refine op_assign (nxsf rfl rfl rfl) rfl rfl ?_
        refine At.sNil ?_
        refine At.inNorm ?_
        refine At.norm (hk_27 ?_)
        refine At.region ?_
        refine op_addI (nxlf rfl) rfl rfl (by omega) (by omega) rfl ?_
        refine op_move (nxlf rfl) rfl rfl ?_
        refine At.opsNil ?_
        refine At.norm ?_
        refine At.back ?_ (.refl _) ⟨k + 1, w ++ [addS (x.getD k 0) (v.getD k 0) c], addC (x.getD k 0) (v.getD k 0) c, Nu, rfl, rfl, rfl, by omega, by simp; omega, (add64_law _ _ _ hc).2, add_round hw hc hv3, Bu⟩ ?_
        · exact .cons (by first | exact lkI rfl (by omega) | rfl) (.cons (by first | exact lkI rfl (by omega) | rfl) (.cons (by first | exact lkI rfl (by omega) | rfl) (.cons (by first | exact lkI rfl (by omega) | rfl) (.cons (by first | exact lkI rfl (by omega) | rfl) (.cons (by first | exact lkI rfl (by omega) | rfl) (.cons (by first | exact lkI rfl (by omega) | rfl) (.cons (by first | exact lkI rfl (by omega) | rfl) .nil)))))))
        · omega
      · refine At.exit (At.thenExit (At.thenExit (At.inHit ?_)))
        refine At.norm (hk_23 ?_)
        refine At.seq fun K29 hk_29 => ?_
        refine At.region ?_
        have hkn : k = n := by omega
        refine op_move (nxlf rfl) rfl rfl ?_
        refine op_move (nxlf rfl) rfl rfl ?_
        refine op_move (nxlf rfl) rfl rfl ?_
        refine op_move (nxlf rfl) rfl rfl ?_
        refine op_idx1 (nxlf rfl) se95 rfl rfl su (show _ = (((n : Nat)) : Int) from by omega) (by omega) rfl ?_
        refine op_loadE (nxlf rfl) sc22 rfl su (by first | exact get8 (by omega) | exact get64 (by omega) | exact get32 (by omega)) (by first | exact mem0 | exact mem1 | exact mem2 | exact mem3 | exact mem4 | exact mem5 | exact mem6 | exact mem7 | exact mem8 | exact mem9) rfl ?_
        rw [show (w ++ x.drop k).getD n 0 = x.getD n 0 by rw [← hkn, getD_drop hw (by omega)]]
        refine op_move (nxlf rfl) rfl rfl ?_
        refine op_ext (nxla rfl) (.cons rfl (.cons rfl (.cons rfl .nil))) (Add64_x (x.getD n 0) 0 c hc) rfl ?_
        refine op_move (nxlf rfl) rfl rfl ?_
        refine op_extract (nxlf rfl) rfl rfl rfl ?_
        refine op_extract (nxlf rfl) rfl rfl rfl ?_
        refine op_idx1 (nxlf rfl) se95 rfl rfl su (show _ = (((n : Nat)) : Int) from by omega) (by omega) rfl ?_
        refine op_store (nxl rfl) sz22 rfl rfl rfl rfl rfl Bu (by simp; omega) sel0 (fun Nu Bu => ?_)
        simp only [setL] at Bu
        rw [set_u64s, win_set hp (show n < (w ++ x.drop k).length by omega), show (w ++ x.drop k).set n (addS (x.getD n 0) 0 c) = w ++ [addS (x.getD n 0) 0 c] by rw [← hkn, set_drop hw (by omega), List.drop_of_length_le (by omega), List.append_nil]] at Bu
        rw [hkn] at hw hv3
        have hvn : v.getD n 0 = 0 := getD_big (by omega)
        have har := add_round hw hc hv3
        have hac := (add64_law (x.getD n 0) (v.getD n 0) c hc).2
        rw [hvn] at har hac
        rw [v64_take_all (show x.length ≤ n + 1 by omega), v64_take_all (show v.length ≤ n + 1 by omega)] at har
        have hb1 : bo.toNat = 1 := by omega
        rw [hb1] at hx
        have hul2 := v64_lt u
        have hxl2 := v64_lt x
        have hwl2 := v64_lt (w ++ [addS (x.getD n 0) 0 c])
        rw [hul] at hul2
        rw [hxl] at hxl2
        rw [show (w ++ [addS (x.getD n 0) 0 c]).length = n + 1 by simp; omega] at hwl2
        obtain ⟨m1, m2, m3⟩ := step_back hx (by omega) hxl2 har hac hwl2
        have hq' := sub_one64 m1
        have hbo' : (bo - addC (x.getD n 0) 0 c).toNat = 1 - (addC (x.getD n 0) 0 c).toNat := by
          rw [UInt64.toNat_sub_of_le _ _ (by rw [UInt64.le_iff_toNat_le]; omega), hb1]
        refine op_assign (nxlf rfl) rfl rfl ?_
        refine At.opsNil ?_
        refine At.norm (hk_29 ?_)
        refine At.region ?_
        refine op_move (nxlf rfl) rfl rfl ?_
        refine op_move (nxlf rfl) rfl rfl ?_
        refine op_subU (nxlf rfl) rfl rfl rfl ?_
        refine op_assign (nxlf rfl) rfl rfl ?_
        refine At.opsNil ?_
        refine At.inNorm ?_
        refine At.norm ?_
        refine At.back ?_ (.refl _) ⟨w ++ [addS (x.getD n 0) 0 c], q - 1, bo - addC (x.getD n 0) 0 c, Nu, rfl, rfl, rfl, by simp; omega, by rw [hbo']; omega, by rw [hq', hbo']; exact m2, by rw [hbo']; exact m3, Bu⟩ ?_
        · exact .cons (by first | exact lkI rfl (by omega) | rfl) (.cons (by first | exact lkI rfl (by omega) | rfl) (.cons (by first | exact lkI rfl (by omega) | rfl) (.cons (by first | exact lkI rfl (by omega) | rfl) (.cons (by first | exact lkI rfl (by omega) | rfl) .nil))))
        · omega
    · refine At.exit (At.thenExit (At.thenExit (At.inHit ?_)))
      refine At.norm (hk_18 ?_)
      refine At.seq fun K30 hk_30 => ?_
      refine At.region ?_
      refine op_move (nxlf rfl) rfl rfl ?_
      refine op_assign (nxlf rfl) rfl rfl ?_
      refine At.opsNil ?_
      refine At.norm (hk_30 ?_)
      refine At.ret (?_)
      refine At.ret1 (L1 := [Nu]) rfl (.tmp rfl .nil) (.refl _) (.refl _) ?_
      have hb0 : bo.toNat = 0 := by omega
      rw [hb0, Nat.zero_mul, Nat.add_zero] at hx
      obtain ⟨k1, k2⟩ := step_end hx (hx0 hb0)
      exact ⟨Nu, x, q, rfl, rfl, Bu, by omega, k1, k2⟩
end Go.Proofs.Ytefljbbpaideaaa
/- limb.DivMod: a number in limbs divided by one that is not 0. Condition: numbers of at most 2^40 limbs. -/
namespace Go.Proofs.Ytefljbbpaideaaa
set_option linter.unusedVariables false
set_option linter.unusedSimpArgs false
open Go Go.RowKit
theorem Row.blk {N : Heaplet} {e : TypeId} {ao : Option Addr} {n : Nat} {xs : List Value} (h : Row N e 1 ao n n xs) (h0 : 0 < n) : ∃ b, ao = some ⟨b, 0, none⟩ ∧ Blk N b e xs := by
  obtain ⟨h1, h2, h3, h4⟩ := h
  rcases h4 with ⟨_, h5, _⟩ | ⟨b, cur, rfl, hN, hs, ht⟩
  · omega
  · refine ⟨b, rfl, ?_⟩
    have hl : cur.toList.length = n := by simpa using hs
    rw [List.take_of_length_le (by omega)] at ht
    rw [Blk, hN, ← ht]
theorem sadr_in (b o j cap : Nat) (h : cap ≠ j) : sadr (some ⟨b, o, none⟩) j cap 1 = some ⟨b, o + j, none⟩ := by
  rw [sadr, if_neg h, Option.map_some, addr_add, Nat.mul_one]
/-- Two numbers in limbs, in new memory. -/
def LimbsP2 (A B : Nat) (v : Value) (L : List Heaplet) : Prop :=
  ∃ M1 a1 c1 M2 a2 c2, v = .tuple #[.slice a1 (limbsOf A).length c1, .slice a2 (limbsOf B).length c2] ∧ L = [M1, M2] ∧ RSl M1 1 a1 (limbsOf A).length c1 (u64s (limbsOf A)) ∧ RSl M2 1 a2 (limbsOf B).length c2 (u64s (limbsOf B))
theorem limbs_top {V : Nat} (h : 0 < V) : 1 ≤ (limbsOf V).length ∧ 0 < ((limbsOf V).getD ((limbsOf V).length - 1) 0).toNat := by
  have hl := length_limbsOf V
  have hb := bitLen_pos h
  have h1 : 1 ≤ (limbsOf V).length := by omega
  refine ⟨h1, ?_⟩
  rcases Nat.eq_zero_or_pos ((limbsOf V).getD ((limbsOf V).length - 1) 0).toNat with h0 | h0
  · exfalso
    have e := v64_top1 (v := limbsOf V) rfl h1
    rw [h0, Nat.mul_zero, Nat.add_zero, v64_limbsOf] at e
    have hlt := v64_take_lt (limbsOf V) ((limbsOf V).length - 1)
    rw [← e] at hlt
    have := limbLen_le.2 hlt
    omega
  · exact h0
theorem div_fin {A B s G Q : Nat} (h : G + Q * (B * 2 ^ s) = A * 2 ^ s) (hG : G < B * 2 ^ s) : Q = A / B ∧ G / 2 ^ s = A % B := by
  have hp : 0 < 2 ^ s := Nat.pow_pos (by decide)
  obtain ⟨h1, h2⟩ := step_end h hG
  rw [Nat.mul_div_mul_right _ _ hp] at h1
  rw [Nat.mul_mod_mul_right] at h2
  exact ⟨h1, by rw [h2, Nat.mul_div_cancel _ hp]⟩
/-- What the loop begins with. -/
theorem top_small {A n m s V : Nat} (hA : A < 2 ^ (64 * m)) (hs : s < 64) (hV : 2 ^ (64 * (n - 1)) * 9223372036854775808 ≤ V) (hn : 1 ≤ n) (hnm : n ≤ m) : v64 ((limbsN (m + 1) (A * 2 ^ s)).drop (m - n + 1)) < V ∧ v64 (limbsN (m + 1) (A * 2 ^ s)) = A * 2 ^ s := by
  have h2s : 2 ^ s ≤ 9223372036854775808 := by rw [show (9223372036854775808 : Nat) = 2 ^ 63 from rfl]; exact Nat.pow_le_pow_right (by decide) (by omega)
  have hp : 0 < 2 ^ s := Nat.pow_pos (by decide)
  have hlt : A * 2 ^ s < 2 ^ (64 * m) * 2 ^ s := Nat.mul_lt_mul_of_pos_right hA hp
  have e : v64 (limbsN (m + 1) (A * 2 ^ s)) = A * 2 ^ s := by
    rw [v64_limbsN, Nat.mod_eq_of_lt]
    refine Nat.lt_of_lt_of_le hlt ?_
    rw [← Nat.pow_add]
    exact Nat.pow_le_pow_right (by decide) (by omega)
  refine ⟨?_, e⟩
  have hl : (limbsN (m + 1) (A * 2 ^ s)).length = m + 1 := by simp [limbsN]
  have h := v64_take_drop (limbsN (m + 1) (A * 2 ^ s)) (k := m - n + 1) (by omega)
  rw [e] at h
  have h3 : 2 ^ (64 * m) * 2 ^ s ≤ 2 ^ (64 * (m - n + 1)) * V := by
    have e2 : (2 : Nat) ^ (64 * m) = 2 ^ (64 * (m - n + 1)) * 2 ^ (64 * (n - 1)) := by rw [← Nat.pow_add]; congr 1; omega
    rw [e2, Nat.mul_assoc]
    refine Nat.mul_le_mul_left _ (Nat.le_trans ?_ hV)
    exact Nat.mul_le_mul_left _ h2s
  have h4 : 2 ^ (64 * (m - n + 1)) * v64 ((limbsN (m + 1) (A * 2 ^ s)).drop (m - n + 1)) < 2 ^ (64 * (m - n + 1)) * V := by omega
  exact Nat.lt_of_mul_lt_mul_left h4
theorem win_split {α : Type} (G : List α) (j n : Nat) : G = G.take j ++ (G.drop j).take n ++ G.drop (j + n) := by
  rw [← List.drop_drop, List.append_assoc, List.take_append_drop, List.take_append_drop]
set_option maxRecDepth 100000 in
theorem DivMod_f {N M : Heaplet} {ao bo : Option Addr} {n m ca cb : Nat} {a b : List UInt64} (ha : RSl N 1 ao n ca (u64s a)) (hb : RSl M 1 bo m cb (u64s b)) (hn : n ≤ 1099511627774) (hm : m ≤ 1099511627774) (hpos : 0 < v64 b) :
    Fn Try.prog 120 #[.slice ao n ca, .slice bo m cb] [] [N, M] (LimbsP2 (v64 a / v64 b) (v64 a % v64 b)) := by
  have hca := ha.cap63
  have hcb := hb.cap63
  obtain ⟨ht1, ht2⟩ := limbs_top hpos
  refine Fn.enter (vs := [.slice ao n ca, .slice bo m cb]) Try.func120 rfl rfl rfl ?_
  intro E R hR
  have ha := ha.le (hR N (by simp))
  have hb := hb.le (hR M (by simp))
  change At _ _ E [R] _
  refine At.seq fun K1 hk_1 => ?_
  refine At.region ?_
  refine op_assign (nxlf rfl) rfl rfl ?_
  refine op_assign (nxlf rfl) rfl rfl ?_
  refine At.opsNil ?_
  refine At.norm (hk_1 ?_)
  refine At.seq fun K2 hk_2 => ?_
  refine At.region ?_
  refine op_move (nxlf rfl) rfl rfl ?_
  refine op_callA (nxla rfl) (.cons rfl .nil) (Trim_f ha) Try.func140 rfl rfl (by simp) rfl ?_
  rintro v14 L14 ⟨rfl, rfl, t14, l14⟩
  change At _ _ _ [R] _
  have hx := ha.trimmed t14 l14
  refine op_move (nxlf rfl) rfl rfl ?_
  refine op_callA (nxla rfl) (.cons rfl .nil) (Trim_f hb) Try.func140 rfl rfl (by simp) rfl ?_
  rintro v16 L16 ⟨rfl, rfl, t16, l16⟩
  change At _ _ _ [R] _
  have hy := hb.trimmed t16 l16
  have hxv := v64_limbsOf (v64 a)
  have hyv := v64_limbsOf (v64 b)
  have h12 : (limbsOf (v64 a)).length < (limbsOf (v64 b)).length → v64 a < v64 b := limbs_len_lt
  have hA : v64 a < 2 ^ (64 * (limbsOf (v64 a)).length) := by
    have := v64_lt (limbsOf (v64 a)); rwa [v64_limbsOf] at this
  generalize hxe : limbsOf (v64 a) = x at *
  generalize hye : limbsOf (v64 b) = y at *
  refine op_assign (nxlf rfl) rfl rfl ?_
  refine op_assign (nxlf rfl) rfl rfl ?_
  refine At.opsNil ?_
  refine At.norm (hk_2 ?_)
  refine At.seq fun K3 hk_3 => ?_
  refine At.region ?_
  refine op_move (nxlf rfl) rfl rfl ?_
  refine op_lenS (nxlf rfl) se95 rfl rfl ?_
  refine op_move (nxlf rfl) rfl rfl ?_
  refine op_lenS (nxlf rfl) se95 rfl rfl ?_
  refine op_assign (nxlf rfl) rfl rfl ?_
  refine op_assign (nxlf rfl) rfl rfl ?_
  refine At.opsNil ?_
  refine At.norm (hk_3 ?_)
  refine At.seq fun K4 hk_4 => ?_
  refine At.seq fun K5 hk_5 => ?_
  refine At.region ?_
  refine op_move (nxlf rfl) rfl rfl ?_
  refine op_move (nxlf rfl) rfl rfl ?_
  refine op_lss (nxlf rfl) rfl rfl rfl ?_
  refine At.opsNil ?_
  refine At.norm (hk_5 ?_)
  refine At.condP rfl (fun c23 => ?_) (fun c23 => ?_)
  · refine At.seq fun K6 hk_6 => ?_
    refine At.region ?_
    refine op_move (nxlf rfl) rfl rfl ?_
    refine op_append0 (nxla rfl) Try.underlying95 Try.underlying95 te22 rfl rfl hx (by first | exact mem0 | exact mem1 | exact mem2 | exact mem3 | exact mem4 | exact mem5 | exact mem6 | exact mem7 | exact mem8 | exact mem9) (by first | exact one_u8s _ | exact one_u64s _ | exact one_u32s _ | (intro u hu; simp at hu; subst hu; rfl)) (by omega) (by omega) rfl (fun N25 a25 p25 r25 => ?_)
    have s25 := r25.rsl
    refine op_callA (nxla rfl) (.cons rfl .nil) (Trim_f s25) Try.func140 rfl rfl (by simp) rfl ?_
    rintro v26 L26 ⟨rfl, rfl, t26, l26⟩
    change At _ _ _ [N25, R] _
    refine op_assign (nxlf rfl) rfl rfl ?_
    refine op_assign (nxlf rfl) rfl rfl ?_
    refine At.opsNil ?_
    refine At.norm (hk_6 ?_)
    refine At.ret (At.thenRet (?_))
    have h := s25.trimmed t26 l26
    have hlt := h12 (by omega)
    refine At.empty ?_
    refine At.retN (L1 := [nilH, N25]) rfl (.tmp rfl (.tmp rfl .nil)) rfl (.refl _) (.refl _) ?_
    rw [hxv] at h ⊢
    rw [LimbsP2, Nat.div_eq_of_lt hlt, Nat.mod_eq_of_lt hlt]
    exact ⟨nilH, none, 0, N25, a25, _, rfl, rfl, RSl.nil _ _, h⟩
  · refine At.skip ?_
    refine At.norm (hk_4 ?_)
    refine At.seq fun K7 hk_7 => ?_
    refine At.region ?_
    refine op_move (nxlf rfl) rfl rfl ?_
    refine op_move (nxlf rfl) rfl rfl ?_
    refine op_subI (nxlf rfl) rfl rfl (by omega) (by omega) rfl ?_
    refine op_idx1 (nxlf rfl) se95 rfl rfl hy (show _ = (((y.length - 1 : Nat)) : Int) from by omega) (by omega) rfl ?_
    refine op_loadE (nxlf rfl) sc22 rfl hy (by first | exact get8 (by omega) | exact get64 (by omega) | exact get32 (by omega)) (by first | exact mem0 | exact mem1 | exact mem2 | exact mem3 | exact mem4 | exact mem5 | exact mem6 | exact mem7 | exact mem8 | exact mem9) rfl ?_
    refine op_callA (nxla rfl) (.cons rfl .nil) (LeadingZeros64_f (y.getD (y.length - 1) 0)) Try.func141 rfl rfl (by simp) rfl ?_
    rintro v32 L32 ⟨rfl, rfl⟩
    change At _ _ _ [R] _
    have hbl := bitLen64 (y.getD (y.length - 1) 0)
    have hbp := bitLen_pos ht2
    have e64 : (64 : Int) - (bitLen (y.getD (y.length - 1) 0).toNat : Nat) = ((64 - bitLen (y.getD (y.length - 1) 0).toNat : Nat) : Int) := by omega
    have hnorm := norm_ge rfl ht1 ht2
    have hs : 64 - bitLen (y.getD (y.length - 1) 0).toNat < 64 := by omega
    rw [e64]
    generalize 64 - bitLen (y.getD (y.length - 1) 0).toNat = s at *
    refine op_assign (nxlf rfl) rfl rfl ?_
    refine At.opsNil ?_
    refine At.norm (hk_7 ?_)
    refine At.seq fun K8 hk_8 => ?_
    refine At.region ?_
    refine op_move (nxlf rfl) rfl rfl ?_
    refine op_move (nxlf rfl) rfl rfl ?_
    refine op_move (nxlf rfl) rfl rfl ?_
    refine op_callA (nxla rfl) (.cons rfl (.cons rfl (.cons rfl .nil))) (shifted_f hy s y.length hs (Nat.le_refl _) (by omega)) Try.func142 rfl rfl (by simp) rfl ?_
    rintro v36 L36 ⟨M36, p36, rfl, rfl, r36⟩
    change At _ _ _ [M36, R] _
    rw [hyv] at hnorm r36
    have s36 := r36.rsl
    refine op_move (nxlf rfl) rfl rfl ?_
    refine op_move (nxlf rfl) rfl rfl ?_
    refine op_move (nxlf rfl) rfl rfl ?_
    refine op_addI (nxlf rfl) rfl rfl (by omega) (by omega) rfl ?_
    refine op_callA (nxla rfl) (.cons rfl (.cons rfl (.cons rfl .nil))) (shifted_f hx s (x.length + 1) hs (by omega) (by omega)) Try.func142 rfl rfl (by simp) rfl ?_
    rintro v41 L41 ⟨M41, p41, rfl, rfl, r41⟩
    change At _ _ _ [M41, M36, R] _
    obtain ⟨bb, rfl, B41⟩ := r41.blk (by omega)
    rw [hxv] at B41
    have hvl : (limbsN y.length (v64 b * 2 ^ s)).length = y.length := by simp [limbsN]
    have hvv : v64 (limbsN y.length (v64 b * 2 ^ s)) = v64 b * 2 ^ s := by
      rw [v64_limbsN, Nat.mod_eq_of_lt hnorm.2]
    generalize limbsN y.length (v64 b * 2 ^ s) = vv at *
    have hV0 : 0 < v64 vv := by rw [hvv]; exact Nat.mul_pos hpos (Nat.pow_pos (by decide))
    refine op_assign (nxlf rfl) rfl rfl ?_
    refine op_assign (nxlf rfl) rfl rfl ?_
    refine At.opsNil ?_
    refine At.norm (hk_8 ?_)
    refine At.seq fun K9 hk_9 => ?_
    refine At.region ?_
    refine op_move (nxlf rfl) rfl rfl ?_
    refine op_move (nxlf rfl) rfl rfl ?_
    refine op_subI (nxlf rfl) rfl rfl (by omega) (by omega) rfl ?_
    refine op_addI (nxlf rfl) rfl rfl (by omega) (by omega) rfl ?_
    refine op_make (nxla rfl) Try.underlying95 te22 rfl rfl (show _ = (((x.length - y.length + 1 : Nat)) : Int) from by omega) (show _ = (((x.length - y.length + 1 : Nat)) : Int) from by omega) (by omega) (by unfold maxLen; omega) rfl (fun N46 a46 r46 => ?_)
    rw [made_one _ _ rfl, zero_u64s] at r46
    have s46 := r46.rsl
    refine op_assign (nxlf rfl) rfl rfl ?_
    refine At.opsNil ?_
    refine At.norm (hk_9 ?_)
    refine At.seq fun K10 hk_10 => ?_
    refine At.seq fun K11 hk_11 => ?_
    refine At.region ?_
    refine op_move (nxlf rfl) rfl rfl ?_
    refine op_move (nxlf rfl) rfl rfl ?_
    refine op_subI (nxlf rfl) rfl rfl (by omega) (by omega) rfl ?_
    refine op_assign (nxlf rfl) rfl rfl ?_
    refine At.opsNil ?_
    refine At.norm (hk_11 ?_)
    refine At.block ?_
    refine At.loop (fun fr_ hp_ ms_ => ∃ (J : Nat) (G qh : List UInt64) (M41 N46 : Heaplet), fr_ = [(4, .slice a46 (x.length - y.length + 1) (x.length - y.length + 1)), (6, .int .i64 (y.length : Int)), (8, .int .i64 (s : Int)), (9, .slice p36 y.length y.length), (10, .slice (some ⟨bb, 0, none⟩) (x.length + 1) (x.length + 1)), (11, .int .i64 ((J : Int) - 1))] ∧ hp_ = [N46, M41, M36, R] ∧ J = ms_ ∧ (J ≤ x.length - y.length + 1) ∧ (G.length = x.length + 1) ∧ (v64 G + v64 (List.replicate J 0 ++ qh) * (v64 b * 2 ^ s) = v64 a * 2 ^ s) ∧ (v64 (G.drop J) < v64 b * 2 ^ s) ∧ (Blk M41 bb 22 (u64s G)) ∧ (Row N46 22 1 a46 (x.length - y.length + 1) (x.length - y.length + 1) (u64s (List.replicate J 0 ++ qh)))) ?_ (.refl _) ⟨x.length - y.length + 1, limbsN (x.length + 1) (v64 a * 2 ^ s), [], M41, N46, rfl, rfl, rfl, by omega, by simp [limbsN], by rw [List.append_nil, v64_replicate, Nat.zero_mul, Nat.add_zero]; exact (top_small hA hs hnorm.1 ht1 (by omega)).2, (top_small hA hs hnorm.1 ht1 (by omega)).1, B41, by rw [List.append_nil]; exact r46⟩ ?_
    · exact .cons (by first | exact lkI rfl (by omega) | rfl) (.cons (by first | exact lkI rfl (by omega) | rfl) (.cons (by first | exact lkI rfl (by omega) | rfl) (.cons (by first | exact lkI rfl (by omega) | rfl) (.cons (by first | exact lkI rfl (by omega) | rfl) (.cons (by first | exact lkI rfl (by omega) | rfl) .nil)))))
    rintro _ _ _ ⟨J, G, qh, M41, N46, rfl, rfl, rfl, hJ, hGl, hv, hG, B41, r46⟩
    have s46 := r46.rsl
    have s36 := s36
    refine At.seq fun K12 hk_12 => ?_
    refine At.seq fun K13 hk_13 => ?_
    refine At.region ?_
    refine op_move (nxlf rfl) rfl rfl ?_
    refine op_geq (nxlf rfl) rfl rfl rfl ?_
    refine At.opsNil ?_
    refine At.norm (hk_13 ?_)
    refine At.condP rfl (fun c51 => ?_) (fun c51 => ?_)
    · refine At.skip ?_
      refine At.norm (hk_12 ?_)
      refine At.seq fun K14 hk_14 => ?_
      refine At.block ?_
      refine At.region ?_
      refine op_move (nxlf rfl) rfl rfl ?_
      refine op_move (nxlf rfl) rfl rfl ?_
      refine op_move (nxlf rfl) rfl rfl ?_
      refine op_move (nxlf rfl) rfl rfl ?_
      refine op_move (nxlf rfl) rfl rfl ?_
      refine op_move (nxlf rfl) rfl rfl ?_
      refine op_addI (nxlf rfl) rfl rfl (by omega) (by omega) rfl ?_
      refine op_addI (nxlf rfl) rfl rfl (by omega) (by omega) rfl ?_
      have hw := win_lt (G := G) (j := J - 1) (n := y.length) (V := v64 b * 2 ^ s) (by omega) (by rw [show J - 1 + 1 = J by omega]; exact hG) (Nat.le_of_lt hnorm.2)
      have hwl : ((G.drop (J - 1)).take (y.length + 1)).length = y.length + 1 := by rw [List.length_take, List.length_drop]; omega
      have hsp := win_split G (J - 1) (y.length + 1)
      rw [hsp] at B41
      have hpre : (G.take (J - 1)).length = 0 + (J - 1) := by rw [List.length_take]; omega
      refine op_slice (nxlf rfl) se95 rfl (.some rfl (show _ = (((J - 1 : Nat)) : Int) from by omega)) (.some rfl (show _ = (((J - 1 + y.length + 1 : Nat)) : Int) from by omega)) .none (by omega) (by omega) (by omega) (by simp) rfl ?_
      rw [sadr_in _ _ _ _ (by omega), show J - 1 + y.length + 1 - (J - 1) = y.length + 1 by omega]
      refine op_move (nxlf rfl) rfl rfl ?_
      refine At.perm sel3 ?_
      refine At.perm sel3 ?_
      refine At.perm sel2 ?_
      refine At.perm sel3 ?_
      refine op_call (nxl rfl) (.cons rfl (.cons rfl .nil)) (step_f B41 s36 hpre hwl (by omega) (by omega) ht1 (by omega) hV0 (by rw [hvv]; exact hw.1)) (F := [N46, M36, R]) Try.func143 rfl rfl (.refl _) (by simp) rfl ?_
      rintro v64 L64 ⟨M41, u', q, rfl, rfl, B41, hul', hq, hr⟩
      change At _ _ _ [M41, N46, M36, R] _
      skip
      rw [hwl] at hul'
      rw [hvv] at hq hr
      obtain ⟨d1, d2, d3⟩ := div_round (qs := List.replicate J 0 ++ qh) (h := qh) (j := J - 1) (by omega) (by rw [show J - 1 + 1 = J by omega]) hv hw.2.2 hw.2.1 hul' hq hr (by rw [← hvv]; exact hV0)
      refine op_idx1 (nxlf rfl) se95 rfl rfl s46 (show _ = (((J - 1 : Nat)) : Int) from by omega) (by omega) rfl ?_
      refine op_storeE (nxl rfl) sz22 rfl rfl rfl rfl rfl r46 (by simp <;> omega) (by simp) sel1 (fun N46 r46 => ?_)
      simp only [setL] at r46
      rw [set_u64s] at r46
      have s46 := r46.rsl
      refine At.opsNil ?_
      refine At.inNorm ?_
      refine At.norm (hk_14 ?_)
      refine At.region ?_
      refine op_move (nxlf rfl) rfl rfl ?_
      refine op_subI (nxlf rfl) rfl rfl (by omega) (by omega) rfl ?_
      refine op_assign (nxlf rfl) rfl rfl ?_
      refine At.opsNil ?_
      refine At.norm ?_
      refine At.back ?_ (.refl _) ⟨J - 1, G.take (J - 1) ++ u' ++ G.drop (J - 1 + (y.length + 1)), q :: qh, M41, N46, rfl, rfl, rfl, by omega, by rw [List.length_append, List.length_append, List.length_take, List.length_drop, hul']; omega, by rw [← d3]; exact d1, d2, B41, by rw [← d3]; exact r46⟩ ?_
      · exact .cons (by first | exact lkI rfl (by omega) | rfl) (.cons (by first | exact lkI rfl (by omega) | rfl) (.cons (by first | exact lkI rfl (by omega) | rfl) (.cons (by first | exact lkI rfl (by omega) | rfl) (.cons (by first | exact lkI rfl (by omega) | rfl) (.cons (by first | exact lkI rfl (by omega) | rfl) .nil)))))
      · omega
    · refine At.exit (At.thenExit (At.thenExit (At.inHit ?_)))
      refine At.norm (hk_10 ?_)
      refine At.seq fun K15 hk_15 => ?_
      refine At.region ?_
      have hJ0 : J = 0 := by omega
      subst hJ0
      rw [List.replicate_zero, List.nil_append] at hv r46
      rw [List.drop_zero] at hG
      obtain ⟨f1, f2⟩ := div_fin hv hG
      have s41 := Blk.win (pre := []) (post := []) (x := G) (o := 0) (cu := x.length + 1) (show Blk M41 bb 22 (u64s ([] ++ G ++ [])) by simpa using B41) rfl (by omega) (by omega)
      rw [hGl] at s41
      refine op_move (nxlf rfl) rfl rfl ?_
      refine op_make (nxla rfl) Try.underlying95 te22 rfl rfl (show _ = (((y.length : Nat)) : Int) from by omega) (show _ = (((y.length : Nat)) : Int) from by omega) (by omega) (by unfold maxLen; omega) rfl (fun N67 a67 r67 => ?_)
      rw [made_one _ _ rfl, zero_u64s] at r67
      have s67 := r67.rsl
      refine op_assign (nxlf rfl) rfl rfl ?_
      refine At.opsNil ?_
      refine At.norm (hk_15 ?_)
      refine At.seq fun K16 hk_16 => ?_
      refine At.seq fun K17 hk_17 => ?_
      refine At.region ?_
      refine op_move (nxlf rfl) rfl rfl ?_
      refine op_move (nxlf rfl) rfl rfl ?_
      refine At.opsNil ?_
      refine At.norm (hk_17 ?_)
      refine At.block ?_
      refine At.sub (L' := [N67, N46, M41, R]) (.cons_cons _ (.cons_cons _ (.cons_cons _ (.cons _ (.cons_cons _ (.slnil)))))) ?_
      refine At.loop (fun fr_ hp_ ms_ => ∃ (k : Nat) (N67 : Heaplet), fr_ = [(4, .slice a46 (x.length - y.length + 1) (x.length - y.length + 1)), (5, .slice a67 y.length y.length), (8, .int .i64 (s : Int)), (10, .slice (some ⟨bb, 0, none⟩) (x.length + 1) (x.length + 1)), (68, .int .i64 (y.length : Int)), (69, .int .i64 (k : Int))] ∧ hp_ = [N67, N46, M41, R] ∧ y.length - k = ms_ ∧ (k ≤ y.length) ∧ (Row N67 22 1 a67 y.length y.length (u64s (limbsN k (v64 G / 2 ^ s) ++ List.replicate (y.length - k) 0)))) ?_ (.refl _) ⟨0, N67, rfl, rfl, rfl, by omega, by simpa [limbsN] using r67⟩ ?_
      · exact .cons (by first | exact lkI rfl (by omega) | rfl) (.cons (by first | exact lkI rfl (by omega) | rfl) (.cons (by first | exact lkI rfl (by omega) | rfl) (.cons (by first | exact lkI rfl (by omega) | rfl) (.cons (by first | exact lkI rfl (by omega) | rfl) (.cons (by first | exact lkI rfl (by omega) | rfl) .nil)))))
      rintro _ _ _ ⟨k, N67, rfl, rfl, rfl, hk, r67⟩
      have s67 := r67.rsl
      have hlk : (limbsN k (v64 G / 2 ^ s)).length = k := by simp [limbsN]
      refine At.seq fun K18 hk_18 => ?_
      refine At.region ?_
      refine op_lss (nxlf rfl) rfl rfl rfl ?_
      refine At.opsNil ?_
      refine At.norm (hk_18 ?_)
      refine At.seq fun K19 hk_19 => ?_
      refine At.condP rfl (fun c70 => ?_) (fun c70 => ?_)
      · refine At.skip ?_
        refine At.norm (hk_19 ?_)
        refine At.seq fun K20 hk_20 => ?_
        refine At.block ?_
        refine At.seq fun K21 hk_21 => ?_
        refine At.region ?_
        refine op_move (nxlf rfl) rfl rfl ?_
        refine op_assign (nxlf rfl) rfl rfl ?_
        refine At.opsNil ?_
        refine At.norm (hk_21 ?_)
        refine At.seq fun K22 hk_22 => ?_
        refine At.region ?_
        refine op_move (nxlf rfl) rfl rfl ?_
        refine op_move (nxlf rfl) rfl rfl ?_
        refine op_move (nxlf rfl) rfl rfl ?_
        refine op_move (nxlf rfl) rfl rfl ?_
        refine op_idx1 (nxlf rfl) se95 rfl rfl s41 (show _ = (((k : Nat)) : Int) from by omega) (by omega) rfl ?_
        refine op_loadE (nxlf rfl) sc22 rfl s41 (by first | exact get8 (by omega) | exact get64 (by omega) | exact get32 (by omega)) (by first | exact mem0 | exact mem1 | exact mem2 | exact mem3 | exact mem4 | exact mem5 | exact mem6 | exact mem7 | exact mem8 | exact mem9) rfl ?_
        refine op_move (nxlf rfl) rfl rfl ?_
        refine op_shrU (nxlf rfl) rfl rfl (by first | rfl | exact (Int.toNat_of_nonneg (by omega)).symm) rfl ?_
        refine op_idx1 (nxlf rfl) se95 rfl rfl s67 (show _ = (((k : Nat)) : Int) from by omega) (by omega) rfl ?_
        refine op_storeE (nxl rfl) sz22 rfl rfl rfl rfl rfl r67 (by simp <;> omega) (by simp) sel0 (fun N67 r67 => ?_)
        simp only [setL] at r67
        rw [set_u64s, set_fill hlk (by omega)] at r67
        have s67 := r67.rsl
        refine At.opsNil ?_
        refine At.norm (hk_22 ?_)
        refine At.seq fun K23 hk_23 => ?_
        refine At.region ?_
        refine op_move (nxlf rfl) rfl rfl ?_
        refine op_gtr (nxlf rfl) rfl rfl rfl ?_
        refine At.opsNil ?_
        refine At.norm (hk_23 ?_)
        refine At.condP rfl (fun c82 => ?_) (fun c82 => ?_)
        · have hl2 : (limbsN k (v64 G / 2 ^ s) ++ [shr64 (G.getD k 0) s] ++ List.replicate (y.length - (k + 1)) 0).length = y.length := by simp; omega
          refine At.perm sel3 ?_
          refine At.perm sel3 ?_
          refine At.perm sel2 ?_
          refine At.perm sel3 ?_
          refine At.drawnS [N67, M41, R] [14] [] [0,1,2,3,4,5,6,7,8,9,10,11,12,13,14] (by kernel_rfl) (by kernel_rfl) (.cons _ (.refl _)) ?_
          refine op_move (nxsf rfl rfl rfl) rfl rfl ?_
          refine op_move (nxsf rfl rfl rfl) rfl rfl ?_
          refine op_idx1 (nxsf rfl rfl rfl) se95 rfl rfl s67 (show _ = (((k : Nat)) : Int) from by omega) (by omega) rfl ?_
          refine op_loadE (nxsf rfl rfl rfl) sc22 rfl s67 (by first | exact get8 (by omega) | exact get64 (by omega) | exact get32 (by omega)) (by first | exact mem0 | exact mem1 | exact mem2 | exact mem3 | exact mem4 | exact mem5 | exact mem6 | exact mem7 | exact mem8 | exact mem9) rfl ?_
          have e86 : (limbsN k (v64 G / 2 ^ s) ++ [shr64 (G.getD k 0) s] ++ List.replicate (y.length - (k + 1)) (0 : UInt64)).getD k 0 = shr64 (G.getD k 0) s := by
            rw [List.append_assoc]; exact getD_mid hlk
          rw [e86]
          refine op_move (nxsf rfl rfl rfl) rfl rfl ?_
          refine op_move (nxsf rfl rfl rfl) rfl rfl ?_
          refine op_addI (nxsf rfl rfl rfl) rfl rfl (by omega) (by omega) rfl ?_
          refine op_idx1 (nxsf rfl rfl rfl) se95 rfl rfl s41 (show _ = (((k + 1 : Nat)) : Int) from by omega) (by omega) rfl ?_
          refine op_loadE (nxsf rfl rfl rfl) sc22 rfl s41 (by first | exact get8 (by omega) | exact get64 (by omega) | exact get32 (by omega)) (by first | exact mem0 | exact mem1 | exact mem2 | exact mem3 | exact mem4 | exact mem5 | exact mem6 | exact mem7 | exact mem8 | exact mem9) rfl ?_
          refine op_move (nxsf rfl rfl rfl) rfl rfl ?_
          refine op_subI (nxsf rfl rfl rfl) rfl rfl (by omega) (by omega) rfl ?_
          refine op_shlU (nxsf rfl rfl rfl) rfl rfl (show _ = (((64 - s : Nat)) : Int) from by omega) rfl ?_
          refine op_orU (nxsf rfl rfl rfl) rfl rfl rfl ?_
          refine op_idx1 (nxsf rfl rfl rfl) se95 rfl rfl s67 (show _ = (((k : Nat)) : Int) from by omega) (by omega) rfl ?_
          refine op_storeE (nxsl rfl rfl rfl rfl) sz22 rfl rfl rfl rfl rfl r67 (by simp <;> omega) (by simp) sel1 (fun N67 r67 => ?_)
          simp only [setL] at r67
          rw [set_u64s, List.append_assoc, List.singleton_append, set_mid hlk, ← rest_at (by omega), ← limbsN_succ] at r67
          have s67 := r67.rsl
          refine At.sNil ?_
          refine At.inNorm ?_
          refine At.norm (hk_20 ?_)
          refine At.region ?_
          refine op_addI (nxlf rfl) rfl rfl (by omega) (by omega) rfl ?_
          refine op_move (nxlf rfl) rfl rfl ?_
          refine At.opsNil ?_
          refine At.norm ?_
          refine At.back ?_ (.refl _) ⟨k + 1, N67, rfl, rfl, rfl, by omega, r67⟩ ?_
          · exact .cons (by first | exact lkI rfl (by omega) | rfl) (.cons (by first | exact lkI rfl (by omega) | rfl) (.cons (by first | exact lkI rfl (by omega) | rfl) (.cons (by first | exact lkI rfl (by omega) | rfl) (.cons (by first | exact lkI rfl (by omega) | rfl) (.cons (by first | exact lkI rfl (by omega) | rfl) .nil)))))
          · omega
        · have hs0 : s = 0 := by omega
          have e : shr64 (G.getD k 0) s = UInt64.ofNat (v64 G / 2 ^ s / 2 ^ (64 * k)) := by rw [hs0]; exact rest_at0.symm
          rw [e, ← limbsN_succ] at r67
          refine At.skip ?_
          refine At.inNorm ?_
          refine At.norm (hk_20 ?_)
          refine At.region ?_
          refine op_addI (nxlf rfl) rfl rfl (by omega) (by omega) rfl ?_
          refine op_move (nxlf rfl) rfl rfl ?_
          refine At.opsNil ?_
          refine At.norm ?_
          refine At.back ?_ (.refl _) ⟨k + 1, N67, rfl, rfl, rfl, by omega, r67⟩ ?_
          · exact .cons (by first | exact lkI rfl (by omega) | rfl) (.cons (by first | exact lkI rfl (by omega) | rfl) (.cons (by first | exact lkI rfl (by omega) | rfl) (.cons (by first | exact lkI rfl (by omega) | rfl) (.cons (by first | exact lkI rfl (by omega) | rfl) (.cons (by first | exact lkI rfl (by omega) | rfl) .nil)))))
          · omega
      · refine At.exit (At.thenExit (At.thenExit (At.inHit ?_)))
        refine At.norm (hk_16 ?_)
        refine At.seq fun K24 hk_24 => ?_
        refine At.region ?_
        have hkk : k = y.length := by omega
        subst hkk
        rw [Nat.sub_self, List.replicate_zero, List.append_nil] at s67
        have s46 := r46.rsl
        refine op_move (nxlf rfl) rfl rfl ?_
        refine op_callA (nxla rfl) (.cons rfl .nil) (Trim_f s46) Try.func140 rfl rfl (by simp) rfl ?_
        rintro v99 L99 ⟨rfl, rfl, t99, l99⟩
        change At _ _ _ [N67, N46, M41, R] _
        refine op_move (nxlf rfl) rfl rfl ?_
        refine op_callA (nxla rfl) (.cons rfl .nil) (Trim_f s67) Try.func140 rfl rfl (by simp) rfl ?_
        rintro v101 L101 ⟨rfl, rfl, t101, l101⟩
        change At _ _ _ [N67, N46, M41, R] _
        refine op_assign (nxlf rfl) rfl rfl ?_
        refine op_assign (nxlf rfl) rfl rfl ?_
        refine At.opsNil ?_
        refine At.norm (hk_24 ?_)
        refine At.ret (?_)
        refine At.sub (L' := [N67, N46, R]) (.cons_cons _ (.cons_cons _ (.cons _ (.cons_cons _ (.slnil))))) ?_
        refine At.perm sel2 ?_
        refine At.perm sel1 ?_
        refine At.perm sel2 ?_
        refine At.retN (L1 := [N46, N67]) rfl (.tmp rfl (.tmp rfl .nil)) rfl (.refl _) (.refl _) ?_
        have h1 := s46.trimmed t99 l99
        have h2 := s67.trimmed t101 l101
        have e2 : v64 (limbsN y.length (v64 G / 2 ^ s)) = v64 a % v64 b := by
          rw [f2, v64_limbsN]
          refine Nat.mod_eq_of_lt (Nat.lt_trans (Nat.mod_lt _ hpos) ?_)
          rw [← hyv]; exact v64_lt y
        rw [f1] at h1 ⊢
        rw [e2] at h2 ⊢
        exact ⟨N46, a46, _, N67, a67, _, rfl, rfl, h1, h2⟩
end Go.Proofs.Ytefljbbpaideaaa
