/- Several texts in one: see the remarks ahead of each part. No condition but those told there. -/
import Derived.Test.YtbmlhdecnfplaaaK10
/- limb.Add, limb.Sub: sums and differences of numbers in limbs. Condition: numbers of at most 2^40 limbs; for Sub: the second is no greater. -/
namespace Go.Proofs.Ytbmlhdecnfplaaa
set_option linter.unusedVariables false
set_option linter.unusedSimpArgs false
open Go Go.RowKit
theorem bytesN_pad {w V : Nat} (h : V < 256 ^ w) : List.replicate (w - (bytesOf V).length) 0 ++ bytesOf V = bytesN w V := by
  have hl := length_bytesOf V
  have h1 := byteLen_le.2 h
  have h2 : (List.replicate (w - (bytesOf V).length) (0 : UInt8) ++ bytesOf V).length = w := by rw [List.length_append, List.length_replicate]; omega
  have hz : be (List.replicate (w - (bytesOf V).length) (0 : UInt8)) = 0 := by
    generalize w - (bytesOf V).length = m
    induction m with
    | zero => rfl
    | succ m ih => rw [List.replicate_succ, be_cons, ih]; simp
  have h3 : be (List.replicate (w - (bytesOf V).length) (0 : UInt8) ++ bytesOf V) = be (bytesN w V) := by
    rw [be_append, be_bytesOf, hz, be_bytesN, Nat.mod_eq_of_lt h]; simp
  exact be_inj (by rw [h2, length_bytesN]) h3
/-- Limbs in new memory: a number without zeros at its upper end. -/
def LimbsP (V : Nat) (v : Value) (L : List Heaplet) : Prop :=
  ∃ M a c, v = .slice a (limbsOf V).length c ∧ L = [M] ∧ RSl M 1 a (limbsOf V).length c (u64s (limbsOf V))
theorem RSl.trimmed {N : Heaplet} {ao : Option Addr} {n cap : Nat} {l : List UInt64} (h : RSl N 1 ao n cap (u64s l)) (ht : l.take (limbsOf (v64 l)).length = limbsOf (v64 l)) (hle : (limbsOf (v64 l)).length ≤ n) :
    RSl N 1 ao (limbsOf (v64 l)).length (limbsOf (v64 l)).length (u64s (limbsOf (v64 l))) := by
  have := h.take (hi := (limbsOf (v64 l)).length) (m := (limbsOf (v64 l)).length) (Nat.le_refl _) (Nat.le_trans hle h.2.1) hle
  rwa [Nat.mul_one, u64s_takeR, ht] at this
theorem getD_big {α : Type} {l : List α} {k : Nat} {z : α} (h : l.length ≤ k) : l.getD k z = z := by
  rw [List.getD_eq_getElem?_getD, List.getElem?_eq_none h]; rfl
theorem set_rep {α : Type} {w : List α} {j m : Nat} {z y : α} (hw : w.length = j) (h : 0 < m) : (w ++ List.replicate m z).set j y = (w ++ [y]) ++ List.replicate (m - 1) z := by
  obtain ⟨k, rfl⟩ : ∃ k, m = k + 1 := ⟨m - 1, by omega⟩
  rw [List.replicate_succ, set_mid hw]; rfl
theorem getD_app {α : Type} {p r : List α} {j : Nat} {z : α} (h : j < p.length) : (p ++ r).getD j z = p.getD j z := by
  rw [List.getD_eq_getElem?_getD, List.getD_eq_getElem?_getD, List.getElem?_append_left h]
theorem limbs_mono {A B : Nat} (h : A ≤ B) : (limbsOf A).length ≤ (limbsOf B).length := by
  rw [length_limbsOf, length_limbsOf]
  have := bitLen_mono h
  omega
theorem Add_f {N M : Heaplet} {ao bo : Option Addr} {n m ca cb : Nat} {a b : List UInt64} (ha : RSl N 1 ao n ca (u64s a)) (hb : RSl M 1 bo m cb (u64s b)) (hn : n ≤ 1099511627776) (hm : m ≤ 1099511627776) :
    Fn Try.prog 29 #[.slice ao n ca, .slice bo m cb] [] [N, M] (LimbsP (v64 a + v64 b)) := by
  have hca := ha.cap63
  have hcb := hb.cap63
  have hal := ha.len64
  have hbl := hb.len64
  refine Fn.enter (vs := [.slice ao n ca, .slice bo m cb]) Try.func29 rfl rfl rfl ?_
  intro E R hR
  have ha := ha.le (hR N (by simp))
  have hb := hb.le (hR M (by simp))
  change At _ _ E [R] _
  refine At.seq fun K1 hk_1 => ?_
  refine At.region ?_
  refine op_assign (nxlf rfl) rfl rfl ?_
  refine At.opsNil ?_
  refine At.norm (hk_1 ?_)
  refine At.seq fun K2 hk_2 => ?_
  refine At.meet (fun fr_ hp_ => ∃ (x y : List UInt64) (xo yo : Option Addr) (xn xc yn yc : Nat), fr_ = [(0, .slice xo xn xc), (1, .slice yo yn yc)] ∧ hp_ = [R] ∧ (RSl R 1 xo xn xc (u64s x)) ∧ (RSl R 1 yo yn yc (u64s y)) ∧ (v64 x + v64 y = v64 a + v64 b) ∧ (yn ≤ xn) ∧ (xn ≤ 1099511627776)) ?_ (fun K2_ jk_2 => ?_)
  rotate_left
  · skip
    refine At.seq fun K3 hk_3 => ?_
    refine At.region ?_
    refine op_move (nxlf rfl) rfl rfl ?_
    refine op_lenS (nxlf rfl) se59 rfl rfl ?_
    refine op_move (nxlf rfl) rfl rfl ?_
    refine op_lenS (nxlf rfl) se59 rfl rfl ?_
    refine op_lss (nxlf rfl) rfl rfl rfl ?_
    refine At.opsNil ?_
    refine At.norm (hk_3 ?_)
    refine At.condP rfl (fun c13 => ?_) (fun c13 => ?_)
    · refine At.region ?_
      refine op_move (nxlf rfl) rfl rfl ?_
      refine op_move (nxlf rfl) rfl rfl ?_
      refine op_assign (nxlf rfl) rfl rfl ?_
      refine op_assign (nxlf rfl) rfl rfl ?_
      refine At.opsNil ?_
      refine At.norm (jk_2 ?_ (.refl _) ⟨b, a, bo, ao, m, cb, n, ca, rfl, rfl, hb, ha, Nat.add_comm _ _, by omega, hm⟩)
      exact .cons (by first | exact lkI rfl (by omega) | rfl) (.cons (by first | exact lkI rfl (by omega) | rfl) .nil)
    · refine At.skip ?_
      refine At.norm (jk_2 ?_ (.refl _) ⟨a, b, ao, bo, n, ca, m, cb, rfl, rfl, ha, hb, rfl, by omega, hn⟩)
      exact .cons (by first | exact lkI rfl (by omega) | rfl) (.cons (by first | exact lkI rfl (by omega) | rfl) .nil)
  rintro _ _ ⟨x, y, xo, yo, xn, xc, yn, yc, rfl, rfl, hx, hy, hs, hle, hxn⟩
  have hxl := hx.len64
  have hyl := hy.len64
  have hxc := hx.cap63
  have hyc := hy.cap63
  refine hk_2 ?_
  refine At.seq fun K4 hk_4 => ?_
  refine At.region ?_
  refine op_move (nxlf rfl) rfl rfl ?_
  refine op_lenS (nxlf rfl) se59 rfl rfl ?_
  refine op_addI (nxlf rfl) rfl rfl (by omega) (by omega) rfl ?_
  refine op_make (nxla rfl) Try.underlying59 te27 rfl rfl (show _ = (((xn + 1 : Nat)) : Int) from by omega) (show _ = (((xn + 1 : Nat)) : Int) from by omega) (by omega) (by unfold maxLen; omega) rfl (fun N19 a19 r19 => ?_)
  rw [made_one _ _ rfl, zero_u64s] at r19
  have s19 := r19.rsl
  refine op_assign (nxlf rfl) rfl rfl ?_
  refine op_assign (nxlf rfl) rfl rfl ?_
  refine At.opsNil ?_
  refine At.norm (hk_4 ?_)
  refine At.seq fun K5 hk_5 => ?_
  refine At.seq fun K6 hk_6 => ?_
  refine At.region ?_
  refine op_move (nxlf rfl) rfl rfl ?_
  refine op_lenS (nxlf rfl) se59 rfl rfl ?_
  refine op_move (nxlf rfl) rfl rfl ?_
  refine At.opsNil ?_
  refine At.norm (hk_6 ?_)
  refine At.block ?_
  refine At.loop (fun fr_ hp_ ms_ => ∃ (k : Nat) (c : UInt64) (w : List UInt64) (N19 : Heaplet), fr_ = [(0, .slice xo xn xc), (1, .slice yo yn yc), (5, .slice a19 (xn + 1) (xn + 1)), (6, .int .u64 (c.toNat : Int)), (21, .int .i64 (xn : Int)), (22, .int .i64 (k : Int))] ∧ hp_ = [N19, R] ∧ xn - k = ms_ ∧ (k ≤ xn) ∧ (w.length = k) ∧ (c.toNat ≤ 1) ∧ (v64 w + c.toNat * 2 ^ (64 * k) = v64 (x.take k) + v64 (y.take k)) ∧ (Row N19 27 1 a19 (xn + 1) (xn + 1) (u64s (w ++ List.replicate (xn + 1 - k) 0)))) ?_ (.refl _) ⟨0, 0, [], N19, rfl, rfl, rfl, by omega, rfl, by decide, by simp; rfl, r19⟩ ?_
  · exact .cons (by first | exact lkI rfl (by omega) | rfl) (.cons (by first | exact lkI rfl (by omega) | rfl) (.cons (by first | exact lkI rfl (by omega) | rfl) (.cons (by first | exact lkI rfl (by omega) | rfl) (.cons (by first | exact lkI rfl (by omega) | rfl) (.cons (by first | exact lkI rfl (by omega) | rfl) .nil)))))
  rintro _ _ _ ⟨k, c, w, N19, rfl, rfl, rfl, hk, hw, hc, hv, r19⟩
  have s19 := r19.rsl
  refine At.seq fun K7 hk_7 => ?_
  refine At.region ?_
  refine op_lss (nxlf rfl) rfl rfl rfl ?_
  refine At.opsNil ?_
  refine At.norm (hk_7 ?_)
  refine At.seq fun K8 hk_8 => ?_
  refine At.condP rfl (fun c23 => ?_) (fun c23 => ?_)
  · refine At.skip ?_
    refine At.norm (hk_8 ?_)
    refine At.seq fun K9 hk_9 => ?_
    refine At.block ?_
    refine At.seq fun K10 hk_10 => ?_
    refine At.region ?_
    refine op_move (nxlf rfl) rfl rfl ?_
    refine op_assign (nxlf rfl) rfl rfl ?_
    refine At.opsNil ?_
    refine At.norm (hk_10 ?_)
    refine At.seq fun K11 hk_11 => ?_
    refine At.region ?_
    refine op_assign (nxlf rfl) rfl rfl ?_
    refine At.opsNil ?_
    refine At.norm (hk_11 ?_)
    refine At.seq fun K12 hk_12 => ?_
    refine At.meet (fun fr_ hp_ => fr_ = [(0, .slice xo xn xc), (1, .slice yo yn yc), (5, .slice a19 (xn + 1) (xn + 1)), (6, .int .u64 (c.toNat : Int)), (7, .int .i64 (k : Int)), (8, .int .u64 ((y.getD k 0).toNat : Int)), (21, .int .i64 (xn : Int)), (22, .int .i64 (k : Int))] ∧ hp_ = [N19, R] ∧ (True)) ?_ (fun K12_ jk_12 => ?_)
    rotate_left
    · skip
      refine At.seq fun K13 hk_13 => ?_
      refine At.region ?_
      refine op_move (nxlf rfl) rfl rfl ?_
      refine op_move (nxlf rfl) rfl rfl ?_
      refine op_lenS (nxlf rfl) se59 rfl rfl ?_
      refine op_lss (nxlf rfl) rfl rfl rfl ?_
      refine At.opsNil ?_
      refine At.norm (hk_13 ?_)
      refine At.condP rfl (fun c28 => ?_) (fun c28 => ?_)
      · refine At.region ?_
        refine op_move (nxlf rfl) rfl rfl ?_
        refine op_move (nxlf rfl) rfl rfl ?_
        refine op_idx1 (nxlf rfl) se59 rfl rfl hy (show _ = (((k : Nat)) : Int) from by omega) (by omega) rfl ?_
        refine op_loadE (nxlf rfl) sc27 rfl hy (by first | exact get8 (by omega) | exact get64 (by omega) | exact get32 (by omega)) (by first | exact mem0 | exact mem1 | exact mem2 | exact mem3 | exact mem4 | exact mem5 | exact mem6 | exact mem7 | exact mem8 | exact mem9) rfl ?_
        refine op_assign (nxlf rfl) rfl rfl ?_
        refine At.opsNil ?_
        refine At.norm (jk_12 ?_ (.refl _) ⟨rfl, rfl, trivial⟩)
        exact .cons (by first | exact lkI rfl (by omega) | rfl) (.cons (by first | exact lkI rfl (by omega) | rfl) (.cons (by first | exact lkI rfl (by omega) | rfl) (.cons (by first | exact lkI rfl (by omega) | rfl) (.cons (by first | exact lkI rfl (by omega) | rfl) (.cons (by first | exact lkI rfl (by omega) | rfl) (.cons (by first | exact lkI rfl (by omega) | rfl) (.cons (by first | exact lkI rfl (by omega) | rfl) .nil)))))))
      · have hz : (y.getD k 0).toNat = 0 := by rw [getD_big (by omega)]; rfl
        refine At.skip ?_
        refine At.norm (jk_12 ?_ (.refl _) ⟨rfl, rfl, trivial⟩)
        exact .cons (by first | exact lkI rfl (by omega) | rfl) (.cons (by first | exact lkI rfl (by omega) | rfl) (.cons (by first | exact lkI rfl (by omega) | rfl) (.cons (by first | exact lkI rfl (by omega) | rfl) (.cons (by first | exact lkI rfl (by omega) | rfl) (.cons (by first | exact lkI rfl (by omega) | rfl) (.cons (by first | exact lkI rfl (by omega) | rfl) (.cons (by first | exact lkI rfl (by omega) | rfl) .nil)))))))
    rintro _ _ ⟨rfl, rfl, ht⟩
    refine hk_12 ?_
    refine At.region ?_
    refine op_move (nxlf rfl) rfl rfl ?_
    refine op_move (nxlf rfl) rfl rfl ?_
    refine op_move (nxlf rfl) rfl rfl ?_
    refine op_move (nxlf rfl) rfl rfl ?_
    refine op_idx1 (nxlf rfl) se59 rfl rfl hx (show _ = (((k : Nat)) : Int) from by omega) (by omega) rfl ?_
    refine op_loadE (nxlf rfl) sc27 rfl hx (by first | exact get8 (by omega) | exact get64 (by omega) | exact get32 (by omega)) (by first | exact mem0 | exact mem1 | exact mem2 | exact mem3 | exact mem4 | exact mem5 | exact mem6 | exact mem7 | exact mem8 | exact mem9) rfl ?_
    refine op_move (nxlf rfl) rfl rfl ?_
    refine op_move (nxlf rfl) rfl rfl ?_
    refine op_ext (nxla rfl) (.cons rfl (.cons rfl (.cons rfl .nil))) (Add64_x (x.getD k 0) (y.getD k 0) c hc) rfl ?_
    refine op_move (nxlf rfl) rfl rfl ?_
    refine op_extract (nxlf rfl) rfl rfl rfl ?_
    refine op_extract (nxlf rfl) rfl rfl rfl ?_
    refine op_idx1 (nxlf rfl) se59 rfl rfl s19 (show _ = (((k : Nat)) : Int) from by omega) (by omega) rfl ?_
    refine op_storeE (nxl rfl) sz27 rfl rfl rfl rfl rfl r19 (by simp <;> omega) (by simp) sel0 (fun N19 r19 => ?_)
    simp only [setL] at r19
    rw [set_u64s, set_fill hw (by omega)] at r19
    have s19 := r19.rsl
    refine op_assign (nxlf rfl) rfl rfl ?_
    refine At.opsNil ?_
    refine At.inNorm ?_
    refine At.norm (hk_9 ?_)
    refine At.region ?_
    refine op_addI (nxlf rfl) rfl rfl (by omega) (by omega) rfl ?_
    refine op_move (nxlf rfl) rfl rfl ?_
    refine At.opsNil ?_
    refine At.norm ?_
    refine At.back ?_ (.refl _) ⟨k + 1, addC (x.getD k 0) (y.getD k 0) c, w ++ [addS (x.getD k 0) (y.getD k 0) c], N19, rfl, rfl, rfl, by omega, by simp; omega, (add64_law _ _ _ hc).2, add_round hw hc hv, r19⟩ ?_
    · exact .cons (by first | exact lkI rfl (by omega) | rfl) (.cons (by first | exact lkI rfl (by omega) | rfl) (.cons (by first | exact lkI rfl (by omega) | rfl) (.cons (by first | exact lkI rfl (by omega) | rfl) (.cons (by first | exact lkI rfl (by omega) | rfl) (.cons (by first | exact lkI rfl (by omega) | rfl) .nil)))))
    · omega
  · refine At.exit (At.thenExit (At.thenExit (At.inHit ?_)))
    refine At.norm (hk_5 ?_)
    refine At.seq fun K14 hk_14 => ?_
    refine At.region ?_
    refine op_move (nxlf rfl) rfl rfl ?_
    refine op_move (nxlf rfl) rfl rfl ?_
    refine op_lenS (nxlf rfl) se59 rfl rfl ?_
    refine op_move (nxlf rfl) rfl rfl ?_
    refine op_idx1 (nxlf rfl) se59 rfl rfl s19 (show _ = (((k : Nat)) : Int) from by omega) (by omega) rfl ?_
    refine op_storeE (nxl rfl) sz27 rfl rfl rfl rfl rfl r19 (by simp <;> omega) (by simp) sel0 (fun N19 r19 => ?_)
    simp only [setL] at r19
    rw [set_u64s, set_fill hw (by omega), show xn + 1 - (k + 1) = 0 by omega, List.replicate_zero, List.append_nil] at r19
    have hfin : v64 (w ++ [c]) = v64 a + v64 b := by
      rw [v64_snoc, hw, Nat.mul_comm, hv, v64_take_all (by omega), v64_take_all (by omega), hs]
    have s19 := r19.rsl
    refine At.opsNil ?_
    refine At.norm (hk_14 ?_)
    refine At.seq fun K15 hk_15 => ?_
    refine At.region ?_
    refine op_move (nxlf rfl) rfl rfl ?_
    have s19 := r19.rsl
    refine op_callA (nxla rfl) (.cons rfl .nil) (Trim_f s19) Try.func44 rfl rfl (by simp) rfl ?_
    rintro v53 L53 ⟨rfl, rfl, t53, l53⟩
    change At _ _ _ [N19, R] _
    refine op_assign (nxlf rfl) rfl rfl ?_
    refine At.opsNil ?_
    refine At.norm (hk_15 ?_)
    refine At.ret (?_)
    refine At.ret1 (L1 := [N19]) rfl (.tmp rfl .nil) (.refl _) (.refl _) ?_
    have h := s19.trimmed t53 l53
    rw [hfin] at h ⊢
    exact ⟨N19, a19, _, rfl, rfl, h⟩
theorem Sub_f {N M : Heaplet} {ao bo : Option Addr} {n m ca cb : Nat} {a b : List UInt64} (ha : RSl N 1 ao n ca (u64s a)) (hb : RSl M 1 bo m cb (u64s b)) (hn : n ≤ 1099511627776) (hm : m ≤ 1099511627776) (hge : v64 b ≤ v64 a) :
    Fn Try.prog 28 #[.slice ao n ca, .slice bo m cb] [] [N, M] (LimbsP (v64 a - v64 b)) := by
  have hca := ha.cap63
  have hcb := hb.cap63
  refine Fn.enter (vs := [.slice ao n ca, .slice bo m cb]) Try.func28 rfl rfl rfl ?_
  intro E R hR
  have ha := ha.le (hR N (by simp))
  have hb := hb.le (hR M (by simp))
  change At _ _ E [R] _
  refine At.seq fun K1 hk_1 => ?_
  refine At.region ?_
  refine op_assign (nxlf rfl) rfl rfl ?_
  refine At.opsNil ?_
  refine At.norm (hk_1 ?_)
  refine At.seq fun K2 hk_2 => ?_
  refine At.region ?_
  refine op_move (nxlf rfl) rfl rfl ?_
  refine op_callA (nxla rfl) (.cons rfl .nil) (Trim_f ha) Try.func44 rfl rfl (by simp) rfl ?_
  rintro v10 L10 ⟨rfl, rfl, t10, l10⟩
  change At _ _ _ [R] _
  have hx := ha.trimmed t10 l10
  refine op_move (nxlf rfl) rfl rfl ?_
  refine op_callA (nxla rfl) (.cons rfl .nil) (Trim_f hb) Try.func44 rfl rfl (by simp) rfl ?_
  rintro v12 L12 ⟨rfl, rfl, t12, l12⟩
  change At _ _ _ [R] _
  have hy := hb.trimmed t12 l12
  have hxv := v64_limbsOf (v64 a)
  have hyv := v64_limbsOf (v64 b)
  have hle := limbs_mono hge
  rw [← hxv, ← hyv] at hge
  have hxn : (limbsOf (v64 a)).length ≤ 1099511627776 := by omega
  generalize hxe : limbsOf (v64 a) = x at *
  generalize hye : limbsOf (v64 b) = y at *
  refine op_assign (nxlf rfl) rfl rfl ?_
  refine op_assign (nxlf rfl) rfl rfl ?_
  refine At.opsNil ?_
  refine At.norm (hk_2 ?_)
  refine At.seq fun K3 hk_3 => ?_
  refine At.region ?_
  refine op_move (nxlf rfl) rfl rfl ?_
  refine op_lenS (nxlf rfl) se59 rfl rfl ?_
  refine op_make (nxla rfl) Try.underlying59 te27 rfl rfl (show _ = (((x.length : Nat)) : Int) from by omega) (show _ = (((x.length : Nat)) : Int) from by omega) (by omega) (by unfold maxLen; omega) rfl (fun N15 a15 r15 => ?_)
  rw [made_one _ _ rfl, zero_u64s] at r15
  have s15 := r15.rsl
  refine op_assign (nxlf rfl) rfl rfl ?_
  refine op_assign (nxlf rfl) rfl rfl ?_
  refine At.opsNil ?_
  refine At.norm (hk_3 ?_)
  refine At.seq fun K4 hk_4 => ?_
  refine At.seq fun K5 hk_5 => ?_
  refine At.region ?_
  refine op_move (nxlf rfl) rfl rfl ?_
  refine op_lenS (nxlf rfl) se59 rfl rfl ?_
  refine op_move (nxlf rfl) rfl rfl ?_
  refine At.opsNil ?_
  refine At.norm (hk_5 ?_)
  refine At.block ?_
  refine At.loop (fun fr_ hp_ ms_ => ∃ (k : Nat) (c : UInt64) (w : List UInt64) (N15 : Heaplet), fr_ = [(0, .slice ao x.length x.length), (1, .slice bo y.length y.length), (5, .slice a15 x.length x.length), (6, .int .u64 (c.toNat : Int)), (17, .int .i64 (x.length : Int)), (18, .int .i64 (k : Int))] ∧ hp_ = [N15, R] ∧ x.length - k = ms_ ∧ (k ≤ x.length) ∧ (w.length = k) ∧ (c.toNat ≤ 1) ∧ (v64 w + v64 (y.take k) = v64 (x.take k) + c.toNat * 2 ^ (64 * k)) ∧ (Row N15 27 1 a15 x.length x.length (u64s (w ++ List.replicate (x.length - k) 0)))) ?_ (.refl _) ⟨0, 0, [], N15, rfl, rfl, rfl, by omega, rfl, by decide, by simp; rfl, r15⟩ ?_
  · exact .cons (by first | exact lkI rfl (by omega) | rfl) (.cons (by first | exact lkI rfl (by omega) | rfl) (.cons (by first | exact lkI rfl (by omega) | rfl) (.cons (by first | exact lkI rfl (by omega) | rfl) (.cons (by first | exact lkI rfl (by omega) | rfl) (.cons (by first | exact lkI rfl (by omega) | rfl) .nil)))))
  rintro _ _ _ ⟨k, c, w, N15, rfl, rfl, rfl, hk, hw, hc, hv, r15⟩
  have s15 := r15.rsl
  refine At.seq fun K6 hk_6 => ?_
  refine At.region ?_
  refine op_lss (nxlf rfl) rfl rfl rfl ?_
  refine At.opsNil ?_
  refine At.norm (hk_6 ?_)
  refine At.seq fun K7 hk_7 => ?_
  refine At.condP rfl (fun c19 => ?_) (fun c19 => ?_)
  · refine At.skip ?_
    refine At.norm (hk_7 ?_)
    refine At.seq fun K8 hk_8 => ?_
    refine At.block ?_
    refine At.seq fun K9 hk_9 => ?_
    refine At.region ?_
    refine op_move (nxlf rfl) rfl rfl ?_
    refine op_assign (nxlf rfl) rfl rfl ?_
    refine At.opsNil ?_
    refine At.norm (hk_9 ?_)
    refine At.seq fun K10 hk_10 => ?_
    refine At.region ?_
    refine op_assign (nxlf rfl) rfl rfl ?_
    refine At.opsNil ?_
    refine At.norm (hk_10 ?_)
    refine At.seq fun K11 hk_11 => ?_
    refine At.meet (fun fr_ hp_ => fr_ = [(0, .slice ao x.length x.length), (1, .slice bo y.length y.length), (5, .slice a15 x.length x.length), (6, .int .u64 (c.toNat : Int)), (7, .int .i64 (k : Int)), (8, .int .u64 ((y.getD k 0).toNat : Int)), (17, .int .i64 (x.length : Int)), (18, .int .i64 (k : Int))] ∧ hp_ = [N15, R] ∧ (True)) ?_ (fun K11_ jk_11 => ?_)
    rotate_left
    · skip
      refine At.seq fun K12 hk_12 => ?_
      refine At.region ?_
      refine op_move (nxlf rfl) rfl rfl ?_
      refine op_move (nxlf rfl) rfl rfl ?_
      refine op_lenS (nxlf rfl) se59 rfl rfl ?_
      refine op_lss (nxlf rfl) rfl rfl rfl ?_
      refine At.opsNil ?_
      refine At.norm (hk_12 ?_)
      refine At.condP rfl (fun c24 => ?_) (fun c24 => ?_)
      · refine At.region ?_
        refine op_move (nxlf rfl) rfl rfl ?_
        refine op_move (nxlf rfl) rfl rfl ?_
        refine op_idx1 (nxlf rfl) se59 rfl rfl hy (show _ = (((k : Nat)) : Int) from by omega) (by omega) rfl ?_
        refine op_loadE (nxlf rfl) sc27 rfl hy (by first | exact get8 (by omega) | exact get64 (by omega) | exact get32 (by omega)) (by first | exact mem0 | exact mem1 | exact mem2 | exact mem3 | exact mem4 | exact mem5 | exact mem6 | exact mem7 | exact mem8 | exact mem9) rfl ?_
        refine op_assign (nxlf rfl) rfl rfl ?_
        refine At.opsNil ?_
        refine At.norm (jk_11 ?_ (.refl _) ⟨rfl, rfl, trivial⟩)
        exact .cons (by first | exact lkI rfl (by omega) | rfl) (.cons (by first | exact lkI rfl (by omega) | rfl) (.cons (by first | exact lkI rfl (by omega) | rfl) (.cons (by first | exact lkI rfl (by omega) | rfl) (.cons (by first | exact lkI rfl (by omega) | rfl) (.cons (by first | exact lkI rfl (by omega) | rfl) (.cons (by first | exact lkI rfl (by omega) | rfl) (.cons (by first | exact lkI rfl (by omega) | rfl) .nil)))))))
      · have hz : (y.getD k 0).toNat = 0 := by rw [getD_big (by omega)]; rfl
        refine At.skip ?_
        refine At.norm (jk_11 ?_ (.refl _) ⟨rfl, rfl, trivial⟩)
        exact .cons (by first | exact lkI rfl (by omega) | rfl) (.cons (by first | exact lkI rfl (by omega) | rfl) (.cons (by first | exact lkI rfl (by omega) | rfl) (.cons (by first | exact lkI rfl (by omega) | rfl) (.cons (by first | exact lkI rfl (by omega) | rfl) (.cons (by first | exact lkI rfl (by omega) | rfl) (.cons (by first | exact lkI rfl (by omega) | rfl) (.cons (by first | exact lkI rfl (by omega) | rfl) .nil)))))))
    rintro _ _ ⟨rfl, rfl, ht⟩
    refine hk_11 ?_
    refine At.region ?_
    refine op_move (nxlf rfl) rfl rfl ?_
    refine op_move (nxlf rfl) rfl rfl ?_
    refine op_move (nxlf rfl) rfl rfl ?_
    refine op_move (nxlf rfl) rfl rfl ?_
    refine op_idx1 (nxlf rfl) se59 rfl rfl hx (show _ = (((k : Nat)) : Int) from by omega) (by omega) rfl ?_
    refine op_loadE (nxlf rfl) sc27 rfl hx (by first | exact get8 (by omega) | exact get64 (by omega) | exact get32 (by omega)) (by first | exact mem0 | exact mem1 | exact mem2 | exact mem3 | exact mem4 | exact mem5 | exact mem6 | exact mem7 | exact mem8 | exact mem9) rfl ?_
    refine op_move (nxlf rfl) rfl rfl ?_
    refine op_move (nxlf rfl) rfl rfl ?_
    refine op_ext (nxla rfl) (.cons rfl (.cons rfl (.cons rfl .nil))) (Sub64_x (x.getD k 0) (y.getD k 0) c hc) rfl ?_
    refine op_move (nxlf rfl) rfl rfl ?_
    refine op_extract (nxlf rfl) rfl rfl rfl ?_
    refine op_extract (nxlf rfl) rfl rfl rfl ?_
    refine op_idx1 (nxlf rfl) se59 rfl rfl s15 (show _ = (((k : Nat)) : Int) from by omega) (by omega) rfl ?_
    refine op_storeE (nxl rfl) sz27 rfl rfl rfl rfl rfl r15 (by simp <;> omega) (by simp) sel0 (fun N15 r15 => ?_)
    simp only [setL] at r15
    rw [set_u64s, set_fill hw (by omega)] at r15
    have s15 := r15.rsl
    refine op_assign (nxlf rfl) rfl rfl ?_
    refine At.opsNil ?_
    refine At.inNorm ?_
    refine At.norm (hk_8 ?_)
    refine At.region ?_
    refine op_addI (nxlf rfl) rfl rfl (by omega) (by omega) rfl ?_
    refine op_move (nxlf rfl) rfl rfl ?_
    refine At.opsNil ?_
    refine At.norm ?_
    refine At.back ?_ (.refl _) ⟨k + 1, subC (x.getD k 0) (y.getD k 0) c, w ++ [subS (x.getD k 0) (y.getD k 0) c], N15, rfl, rfl, rfl, by omega, by simp; omega, (sub64_law _ _ _ hc).2, sub_round hw hc hv, r15⟩ ?_
    · exact .cons (by first | exact lkI rfl (by omega) | rfl) (.cons (by first | exact lkI rfl (by omega) | rfl) (.cons (by first | exact lkI rfl (by omega) | rfl) (.cons (by first | exact lkI rfl (by omega) | rfl) (.cons (by first | exact lkI rfl (by omega) | rfl) (.cons (by first | exact lkI rfl (by omega) | rfl) .nil)))))
    · omega
  · refine At.exit (At.thenExit (At.thenExit (At.inHit ?_)))
    refine At.norm (hk_4 ?_)
    refine At.seq fun K13 hk_13 => ?_
    refine At.region ?_
    refine op_move (nxlf rfl) rfl rfl ?_
    have s15 := r15.rsl
    have hkk : k = x.length := by omega
    rw [hkk, Nat.sub_self, List.replicate_zero, List.append_nil] at s15
    have hfin : v64 w = v64 a - v64 b := by
      rw [hkk, v64_take_all (Nat.le_refl _), v64_take_all (by omega), hxv, hyv] at hv
      have h1 := v64_lt w
      rw [hw, hkk] at h1
      have hc2 : c.toNat = 0 ∨ c.toNat = 1 := by omega
      rcases hc2 with hc2 | hc2
      · rw [hc2, Nat.zero_mul] at hv; omega
      · rw [hc2, Nat.one_mul] at hv; omega
    refine op_callA (nxla rfl) (.cons rfl .nil) (Trim_f s15) Try.func44 rfl rfl (by simp) rfl ?_
    rintro v44 L44 ⟨rfl, rfl, t44, l44⟩
    change At _ _ _ [N15, R] _
    refine op_assign (nxlf rfl) rfl rfl ?_
    refine At.opsNil ?_
    refine At.norm (hk_13 ?_)
    refine At.ret (?_)
    refine At.ret1 (L1 := [N15]) rfl (.tmp rfl .nil) (.refl _) (.refl _) ?_
    have h := s15.trimmed t44 l44
    rw [hfin] at h ⊢
    exact ⟨N15, a15, _, rfl, rfl, h⟩
end Go.Proofs.Ytbmlhdecnfplaaa
/- Plain laws: numbers in limbs compared, their bits, shifted. No condition. -/
namespace Go.Proofs.Ytbmlhdecnfplaaa
set_option linter.unusedVariables false
set_option linter.unusedSimpArgs false
/-- The order of two numbers. -/
def cmpN (a b : Nat) : Int := if a < b then -1 else if b < a then 1 else 0
theorem cmpN_lt {a b : Nat} (h : a < b) : cmpN a b = -1 := by rw [cmpN, if_pos h]
theorem cmpN_gt {a b : Nat} (h : b < a) : cmpN a b = 1 := by rw [cmpN, if_neg (by omega), if_pos h]
theorem cmpN_eq (a : Nat) : cmpN a a = 0 := by rw [cmpN, if_neg (Nat.lt_irrefl _), if_neg (Nat.lt_irrefl _)]
theorem limbs_len_lt {A B : Nat} (h : (limbsOf A).length < (limbsOf B).length) : A < B := by
  rcases Nat.lt_or_ge A B with h1 | h1
  · exact h1
  · have := limbs_mono h1; omega
theorem v64_split {l : List UInt64} {j : Nat} (h : j < l.length) : v64 l = v64 (l.take j) + 2 ^ (64 * j) * ((l.getD j 0).toNat + 18446744073709551616 * v64 (l.drop (j + 1))) := by
  have e : l = l.take (j + 1) ++ l.drop (j + 1) := (List.take_append_drop _ _).symm
  conv => lhs; rw [e]
  rw [v64_append, List.length_take, Nat.min_eq_left (by omega), v64_take_succD, pow64, Nat.mul_add, Nat.mul_assoc, Nat.add_assoc]
theorem cmp_at {x y : List UInt64} {j : Nat} (hl : x.length = y.length) (hj : j < x.length) (hd : x.drop (j + 1) = y.drop (j + 1)) (hlt : (x.getD j 0).toNat < (y.getD j 0).toNat) : v64 x < v64 y := by
  rw [v64_split hj, v64_split (l := y) (j := j) (by omega), hd]
  have h1 := v64_take_lt x j
  have h2 := Nat.mul_le_mul_left (2 ^ (64 * j)) (show (x.getD j 0).toNat + 18446744073709551616 * v64 (y.drop (j + 1)) + 1 ≤ (y.getD j 0).toNat + 18446744073709551616 * v64 (y.drop (j + 1)) by omega)
  rw [Nat.mul_add _ _ 1, Nat.mul_one] at h2
  omega
theorem drop_eq_succ {α : Type} {x y : List α} {j : Nat} {z : α} (hx : j < x.length) (hy : j < y.length) (he : x.getD j z = y.getD j z) (hd : x.drop (j + 1) = y.drop (j + 1)) : x.drop j = y.drop j := by
  rw [List.drop_eq_getElem_cons hx, List.drop_eq_getElem_cons hy, hd]
  rw [List.getD_eq_getElem?_getD, List.getD_eq_getElem?_getD, List.getElem?_eq_getElem hx, List.getElem?_eq_getElem hy] at he
  simp only [Option.getD_some] at he
  rw [he]
theorem limb_at (l : List UInt64) (i : Nat) : v64 l / 2 ^ (64 * i) % 2 ^ 64 = (l.getD i 0).toNat := by
  rcases Nat.lt_or_ge i l.length with h | h
  · rw [limb_v64 h, List.getD_eq_getElem?_getD, List.getElem?_eq_getElem h]; rfl
  · rw [getD_big h, Nat.div_eq_of_lt (Nat.lt_of_lt_of_le (v64_lt l) (Nat.pow_le_pow_right (by decide) (by omega)))]; rfl
theorem bit_at (l : List UInt64) (i : Nat) : (shr64 (l.getD (i / 64) 0) (i % 64) &&& 1).toNat = v64 l / 2 ^ i % 2 := by
  rw [UInt64.toNat_and, shr64_nat, ← limb_at]
  have e : (2 : Nat) ^ i = 2 ^ (64 * (i / 64)) * 2 ^ (i % 64) := by rw [← Nat.pow_add]; congr 1; omega
  rw [e, ← Nat.div_div_eq_div_mul]
  generalize v64 l / 2 ^ (64 * (i / 64)) = W
  have hr : i % 64 < 64 := Nat.mod_lt _ (by decide)
  generalize i % 64 = r at *
  rw [show ((1 : UInt64).toNat) = 2 ^ 1 - 1 from rfl, Nat.and_two_pow_sub_one_eq_mod]
  rw [show (2 : Nat) ^ 64 = 2 ^ r * 2 ^ (64 - r) from by rw [← Nat.pow_add]; congr 1; omega, Nat.mod_mul_right_div_self]
  exact Nat.mod_mod_of_dvd _ (Nat.pow_dvd_pow 2 (by omega))
theorem bit_big {l : List UInt64} {i : Nat} (h : l.length ≤ i / 64) : v64 l / 2 ^ i % 2 = 0 := by
  rw [Nat.div_eq_of_lt (Nat.lt_of_lt_of_le (v64_lt l) (Nat.pow_le_pow_right (by decide) (by omega)))]
/-! Shifts. -/
/-- The limbs of V shifted to the left, so many. -/
def shlN (L V s : Nat) : List UInt64 := limbsN L (V * 2 ^ s)
theorem length_shlN (L V s : Nat) : (shlN L V s).length = L := by simp [shlN, limbsN]
theorem getD_limbsN {L V i : Nat} (h : i < L) : (limbsN L V).getD i 0 = UInt64.ofNat (V / 2 ^ (64 * i)) := by
  rw [List.getD_eq_getElem?_getD, List.getElem?_eq_getElem (by simp [limbsN]; exact h)]
  simp [limbsN]
theorem shl_low {l : List UInt64} {s : Nat} (_hs : s < 64) : UInt64.ofNat (v64 l * 2 ^ s / 2 ^ (64 * 0)) = shl64 (l.getD 0 0) s := by
  apply UInt64.toNat_inj.1
  have h := limb_at l 0
  rw [UInt64.toNat_ofNat', shl64_nat, ← h, Nat.mul_zero, Nat.pow_zero, Nat.div_one, Nat.div_one, Nat.mod_mul_mod]
theorem mid_at {l : List UInt64} {i r : Nat} (hr : r ≤ 64) : v64 l / 2 ^ (64 * i + r) % 2 ^ 64 = (shr64 (l.getD i 0) r ||| shl64 (l.getD (i + 1) 0) (64 - r)).toNat := by
  rw [Nat.pow_add, ← Nat.div_div_eq_div_mul]
  have e : v64 l / 2 ^ (64 * i) = (l.getD i 0).toNat + 2 ^ 64 * (v64 l / 2 ^ (64 * (i + 1))) := by
    rw [← limb_at, pow64, ← Nat.div_div_eq_div_mul]
    exact (Nat.mod_add_div _ _).symm
  rw [e, limb_mid hr (limb_at l (i + 1))]
theorem shl_at {l : List UInt64} {s i : Nat} (h0 : 0 < i) (hs : s < 64) : UInt64.ofNat (v64 l * 2 ^ s / 2 ^ (64 * i)) = (shl64 (l.getD i 0) s ||| shr64 (l.getD (i - 1) 0) (64 - s)) := by
  apply UInt64.toNat_inj.1
  have h := mid_at (l := l) (i := i - 1) (r := 64 - s) (by omega)
  rw [show i - 1 + 1 = i by omega, show 64 - (64 - s) = s by omega] at h
  rw [UInt64.toNat_ofNat', UInt64.toNat_or, Nat.or_comm, ← UInt64.toNat_or, ← h]
  have e : (2 : Nat) ^ (64 * i) = 2 ^ (64 * (i - 1) + (64 - s)) * 2 ^ s := by rw [← Nat.pow_add]; congr 1; omega
  rw [e, Nat.mul_div_mul_right _ _ (Nat.pow_pos (by decide))]
/-- What stands when the places from i on are shifted. -/
def shSt (o : List UInt64) (L s i : Nat) : List UInt64 := o.take i ++ (shlN L (v64 o) s).drop i
theorem length_shSt {o : List UInt64} {L s i : Nat} (ho : o.length = L) (hi : i ≤ L) : (shSt o L s i).length = L := by
  rw [shSt, List.length_append, List.length_take, List.length_drop, length_shlN]; omega
theorem shSt_getD {o : List UInt64} {L s i j : Nat} (ho : o.length = L) (hi : i ≤ L) (hj : j < i) : (shSt o L s i).getD j 0 = o.getD j 0 := by
  rw [shSt, getD_app (by rw [List.length_take]; omega), List.getD_eq_getElem?_getD, List.getD_eq_getElem?_getD, List.getElem?_take, if_pos hj]
theorem shSt_set {o : List UInt64} {L s i : Nat} (ho : o.length = L) (hi : i < L) : (shSt o L s (i + 1)).set i (UInt64.ofNat (v64 o * 2 ^ s / 2 ^ (64 * i))) = shSt o L s i := by
  apply List.ext_getElem
  · rw [List.length_set, length_shSt ho (by omega), length_shSt ho (by omega)]
  · intro j h1 h2
    rw [length_shSt ho (by omega)] at h2
    rw [List.getElem_set]
    by_cases e : i = j
    · subst e
      rw [if_pos rfl]
      simp only [shSt]
      rw [List.getElem_append_right (by rw [List.length_take]; omega)]
      simp [shlN, limbsN, ho, Nat.min_eq_left (Nat.le_of_lt hi)]
    · rw [if_neg e]
      simp only [shSt, List.getElem_append, List.length_take]
      by_cases hlt : j < i
      · rw [dif_pos (by omega), dif_pos (by omega)]; simp
      · rw [dif_neg (by omega), dif_neg (by omega)]
        simp only [List.getElem_drop]
        congr 1
        omega
theorem shSt_all {o : List UInt64} {L s : Nat} (ho : o.length = L) : shSt o L s L = o := by
  rw [shSt, List.drop_of_length_le (by rw [length_shlN]; omega), List.append_nil, List.take_of_length_le (by omega)]
theorem shSt_none (o : List UInt64) (L s : Nat) : shSt o L s 0 = limbsN L (v64 o * 2 ^ s) := by simp [shSt, shlN]
theorem v64_pad (a : List UInt64) (m : Nat) : v64 (a ++ List.replicate m 0) = v64 a := by rw [v64_append, v64_replicate]; simp
end Go.Proofs.Ytbmlhdecnfplaaa
/- Plain laws: one step of the division of numbers in limbs, and the whole. No condition. -/
namespace Go.Proofs.Ytbmlhdecnfplaaa
set_option linter.unusedVariables false
set_option linter.unusedSimpArgs false
theorem v64_cons (x : UInt64) (l : List UInt64) : v64 (x :: l) = x.toNat + 18446744073709551616 * v64 l := by simp [v64, n64, val]
theorem shSt_set' {o : List UInt64} {L s I : Nat} (ho : o.length = L) (h0 : 0 < I) (hi : I ≤ L) : (shSt o L s I).set (I - 1) (UInt64.ofNat (v64 o * 2 ^ s / 2 ^ (64 * (I - 1)))) = shSt o L s (I - 1) := by
  have h := shSt_set (s := s) ho (show I - 1 < L by omega)
  rwa [show I - 1 + 1 = I by omega] at h
theorem getD_set_self {α : Type} {l : List α} {j : Nat} {y z : α} (h : j < l.length) : (l.set j y).getD j z = y := by
  rw [List.getD_eq_getElem?_getD, List.getElem?_set_self h]; rfl
theorem getD_set_ne {α : Type} {l : List α} {i j : Nat} {y z : α} (h : i ≠ j) : (l.set i y).getD j z = l.getD j z := by
  rw [List.getD_eq_getElem?_getD, List.getD_eq_getElem?_getD, List.getElem?_set_ne h]
theorem win_set {α : Type} {pre x post : List α} {o k : Nat} {d : α} (hp : pre.length = o) (hk : k < x.length) : (pre ++ x ++ post).set (o + k) d = pre ++ x.set k d ++ post := by
  subst hp
  rw [List.append_assoc, List.set_append_right _ _ (by omega), Nat.add_sub_cancel_left, List.set_append_left _ _ hk, List.append_assoc]
theorem set_drop {α : Type} {w u : List α} {k : Nat} {d : α} (hw : w.length = k) (hk : k < u.length) : (w ++ u.drop k).set k d = (w ++ [d]) ++ u.drop (k + 1) := by
  rw [List.drop_eq_getElem_cons hk, set_mid hw]
theorem getD_drop {α : Type} {w u : List α} {k : Nat} {z : α} (hw : w.length = k) (hk : k < u.length) : (w ++ u.drop k).getD k z = u.getD k z := by
  rw [List.drop_eq_getElem_cons hk, getD_mid hw, List.getD_eq_getElem?_getD, List.getElem?_eq_getElem hk]; rfl
/-- The two upper limbs. -/
theorem v64_top2 {u : List UInt64} {n : Nat} (hu : u.length = n + 1) (hn : 1 ≤ n) : v64 u = v64 (u.take (n - 1)) + 2 ^ (64 * (n - 1)) * ((u.getD n 0).toNat * 18446744073709551616 + (u.getD (n - 1) 0).toNat) := by
  have h := v64_split (l := u) (j := n - 1) (by omega)
  rw [show n - 1 + 1 = n by omega] at h
  have e : v64 (u.drop n) = (u.getD n 0).toNat := by
    rw [List.drop_eq_getElem_cons (by omega), List.drop_of_length_le (by omega), List.getD_eq_getElem?_getD, List.getElem?_eq_getElem (by omega)]
    simp [v64, n64, val]
  rw [h, e]
  congr 2
  omega
theorem v64_top1 {v : List UInt64} {n : Nat} (hv : v.length = n) (hn : 1 ≤ n) : v64 v = v64 (v.take (n - 1)) + 2 ^ (64 * (n - 1)) * (v.getD (n - 1) 0).toNat := by
  have h := v64_take_succD v (n - 1)
  rw [show n - 1 + 1 = n by omega, v64_take_all (by omega)] at h
  exact h
/-- The guess is not too small. -/
theorem qhat_ge {u v : List UInt64} {n Q : Nat} (hu : u.length = n + 1) (hv : v.length = n) (hn : 1 ≤ n) (hQ : Q * v64 v ≤ v64 u) (h0 : 0 < (v.getD (n - 1) 0).toNat) :
    Q ≤ ((u.getD n 0).toNat * 18446744073709551616 + (u.getD (n - 1) 0).toNat) / (v.getD (n - 1) 0).toNat := by
  rw [Nat.le_div_iff_mul_le h0]
  have h1 := v64_top2 hu hn
  have h2 := v64_top1 hv hn
  have h3 : v64 (u.take (n - 1)) < 2 ^ (64 * (n - 1)) := v64_take_lt _ _
  generalize (u.getD n 0).toNat * 18446744073709551616 + (u.getD (n - 1) 0).toNat = T at *
  generalize (v.getD (n - 1) 0).toNat = y at *
  generalize 2 ^ (64 * (n - 1)) = P at *
  have h4 : P * (Q * y) ≤ Q * v64 v := by
    rw [h2, Nat.mul_add, Nat.mul_left_comm Q]; omega
  have h5 : P * (Q * y) < P * (T + 1) := by rw [Nat.mul_add P T, Nat.mul_one]; omega
  have h6 := Nat.lt_of_mul_lt_mul_left h5
  omega
/-- One round of the step's second loop, and its end. -/
theorem step_end {U V x q : Nat} (h : x + q * V = U) (hx : x < V) : q = U / V ∧ x = U % V := by
  subst h
  have hV : 0 < V := by omega
  rw [Nat.add_mul_div_right _ _ hV, Nat.add_mul_mod_self_right, Nat.div_eq_of_lt hx, Nat.mod_eq_of_lt hx]
  exact ⟨by omega, rfl⟩
theorem step_start {U V x q Q bw P : Nat} (hV : 0 < V) (h : x + q * V = U + bw * P) (hQ : U / V ≤ q) (hb : bw = 0) : x < V := by
  rw [hb, Nat.zero_mul, Nat.add_zero] at h
  have h1 : U < (q + 1) * V := by
    exact Nat.lt_mul_of_div_lt (show U / V < q + 1 by omega) hV
  rw [Nat.add_mul, Nat.one_mul] at h1
  omega
theorem step_back {U V x x' q c P : Nat} (hx : x + q * V = U + 1 * P) (hU : U < P + V) (hP : x < P) (h : x' + c * P = x + V) (hc : c ≤ 1) (hx' : x' < P) :
    0 < q ∧ x' + (q - 1) * V = U + (1 - c) * P ∧ (1 - c = 0 → x' < V) := by
  have hq : 0 < q := by
    rcases Nat.eq_zero_or_pos q with h0 | h0
    · rw [h0, Nat.zero_mul] at hx; omega
    · exact h0
  obtain ⟨p, rfl⟩ : ∃ p, q = p + 1 := ⟨q - 1, by omega⟩
  rw [Nat.add_sub_cancel]
  rw [Nat.add_mul, Nat.one_mul] at hx
  have hc2 : c = 0 ∨ c = 1 := by omega
  rcases hc2 with rfl | rfl
  · rw [Nat.zero_mul, Nat.add_zero] at h
    refine ⟨hq, ?_, fun h => absurd h (by decide)⟩
    rw [h]; simp only [Nat.sub_zero, Nat.one_mul] at *; omega
  · rw [Nat.one_mul] at h
    refine ⟨hq, ?_, fun _ => by omega⟩
    rw [Nat.sub_self, Nat.zero_mul]; omega
/-! The whole division. -/
theorem v64_drop_zero {G : List UInt64} {k n : Nat} (h : v64 (G.drop k) < 2 ^ (64 * n)) : v64 (G.drop (k + n)) = 0 := by
  have e : G.drop k = (G.drop k).take n ++ G.drop (k + n) := by
    conv => lhs; rw [← List.take_append_drop n (G.drop k)]
    rw [List.drop_drop]
  rcases Nat.lt_or_ge (G.drop k).length n with h1 | h1
  · rw [List.drop_of_length_le (by rw [List.length_drop] at h1; omega)]; rfl
  · rw [e, v64_append, List.length_take, Nat.min_eq_left h1] at h
    rcases Nat.eq_zero_or_pos (v64 (G.drop (k + n))) with h2 | h2
    · exact h2
    · have := Nat.mul_le_mul_left (2 ^ (64 * n)) h2
      omega
theorem v64_take_drop (G : List UInt64) {k : Nat} (h : k ≤ G.length) : v64 G = v64 (G.take k) + 2 ^ (64 * k) * v64 (G.drop k) := by
  conv => lhs; rw [← List.take_append_drop k G]
  rw [v64_append, List.length_take, Nat.min_eq_left h]
/-- The window of the next step. -/
theorem win_lt {G : List UInt64} {j n V : Nat} (hj : j < G.length) (hV : v64 (G.drop (j + 1)) < V) (hVn : V ≤ 2 ^ (64 * n)) :
    v64 ((G.drop j).take (n + 1)) < V * 18446744073709551616 ∧ v64 (G.drop (j + (n + 1))) = 0 ∧ v64 ((G.drop j).take (n + 1)) = v64 (G.drop j) := by
  have hz : v64 (G.drop (j + (n + 1))) = 0 := by
    rw [show j + (n + 1) = (j + 1) + n by omega]
    exact v64_drop_zero (Nat.lt_of_lt_of_le hV hVn)
  have e1 : v64 ((G.drop j).take (n + 1)) = v64 (G.drop j) := by
    have h := congrArg v64 (List.take_append_drop (n + 1) (G.drop j))
    rw [v64_append, List.drop_drop, hz, Nat.mul_zero, Nat.add_zero] at h
    exact h
  refine ⟨?_, hz, e1⟩
  have e2 : v64 (G.drop j) = (G.getD j 0).toNat + 18446744073709551616 * v64 (G.drop (j + 1)) := by
    rw [List.drop_eq_getElem_cons hj, v64_cons, List.getD_eq_getElem?_getD, List.getElem?_eq_getElem hj]
    rfl
  have h1 := (G.getD j 0).toNat_lt
  rw [e1, e2]
  omega
theorem div_round {G u' qs h : List UInt64} {j n V U : Nat} {q : UInt64} (hj : j + (n + 1) ≤ G.length) (hqs : qs = List.replicate (j + 1) 0 ++ h) (hv : v64 G + v64 qs * V = U) (hw : v64 ((G.drop j).take (n + 1)) = v64 (G.drop j)) (hz : v64 (G.drop (j + (n + 1))) = 0)
    (hu : u'.length = n + 1) (hq : q.toNat = v64 ((G.drop j).take (n + 1)) / V) (hr : v64 u' = v64 ((G.drop j).take (n + 1)) % V) (hV : 0 < V) :
    v64 (G.take j ++ u' ++ G.drop (j + (n + 1))) + v64 (qs.set j q) * V = U ∧ v64 ((G.take j ++ u' ++ G.drop (j + (n + 1))).drop j) < V ∧ qs.set j q = List.replicate j 0 ++ (q :: h) := by
  have e0 : qs.set j q = List.replicate j 0 ++ (q :: h) := by
    rw [hqs, List.replicate_succ', List.append_assoc, List.cons_append, List.nil_append, set_mid (by simp)]
    simp
  have e1 : v64 (qs.set j q) = v64 qs + 2 ^ (64 * j) * q.toNat := by
    rw [e0, hqs, v64_append, v64_append, v64_replicate, v64_replicate, List.length_replicate, List.length_replicate, pow64]
    have : v64 (q :: h) = q.toNat + 18446744073709551616 * v64 h := by simp [v64, n64, val]
    rw [this, Nat.mul_add, Nat.mul_assoc]
    omega
  have e2 : v64 (G.take j ++ u' ++ G.drop (j + (n + 1))) = v64 (G.take j) + 2 ^ (64 * j) * v64 u' := by
    rw [v64_append, hz, v64_append, List.length_take, Nat.min_eq_left (by omega)]; simp
  have e3 := v64_take_drop G (k := j) (by omega)
  rw [← hw] at e3
  have e4 := Nat.div_add_mod (v64 ((G.drop j).take (n + 1))) V
  rw [← hr, ← hq] at e4
  refine ⟨?_, ?_, e0⟩
  · rw [e2, e1, Nat.add_mul, ← hv, e3, ← e4, Nat.mul_add (2 ^ (64 * j)), Nat.mul_comm V, Nat.mul_assoc]
    omega
  · rw [List.append_assoc, List.drop_append_of_le_length (by rw [List.length_take]; omega), List.drop_of_length_le (by rw [List.length_take]; omega), List.nil_append, v64_append, hz, hr]
    simp only [Nat.mul_zero, Nat.add_zero]
    exact Nat.mod_lt _ hV
theorem limbsN_succ (k N : Nat) : limbsN (k + 1) N = limbsN k N ++ [UInt64.ofNat (N / 2 ^ (64 * k))] := by
  simp [limbsN, List.range_succ]
theorem shl64_64 (x : UInt64) : shl64 x 64 = 0 := by
  apply UInt64.toNat_inj.1
  rw [shl64_nat, Nat.mul_mod_left]; rfl
theorem rest_at {l : List UInt64} {i r : Nat} (hr : r ≤ 64) : UInt64.ofNat (v64 l / 2 ^ r / 2 ^ (64 * i)) = (shr64 (l.getD i 0) r ||| shl64 (l.getD (i + 1) 0) (64 - r)) := by
  apply UInt64.toNat_inj.1
  rw [UInt64.toNat_ofNat', ← mid_at hr, Nat.div_div_eq_div_mul, ← Nat.pow_add, Nat.add_comm r]
theorem rest_at0 {l : List UInt64} {i : Nat} : UInt64.ofNat (v64 l / 2 ^ 0 / 2 ^ (64 * i)) = shr64 (l.getD i 0) 0 := by
  rw [rest_at (by omega), shl64_64]
  apply UInt64.toNat_inj.1
  rw [UInt64.toNat_or]; simp
/-- The divisor's upper bit is set when it is shifted. -/
theorem norm_ge {b : List UInt64} {n : Nat} (hb : b.length = n) (hn : 1 ≤ n) (h0 : 0 < (b.getD (n - 1) 0).toNat) :
    2 ^ (64 * (n - 1)) * 9223372036854775808 ≤ v64 b * 2 ^ (64 - bitLen (b.getD (n - 1) 0).toNat) ∧ v64 b * 2 ^ (64 - bitLen (b.getD (n - 1) 0).toNat) < 2 ^ (64 * n) := by
  have h1 := v64_top1 hb hn
  obtain ⟨h2, h3⟩ := div_pos64 h0
  have h4 : v64 (b.take (n - 1)) < 2 ^ (64 * (n - 1)) := v64_take_lt _ _
  have e : 2 ^ (64 * n) = 2 ^ (64 * (n - 1)) * 18446744073709551616 := by
    have := pow64 (n - 1); rwa [show n - 1 + 1 = n by omega] at this
  have hb64 := bitLen64 (b.getD (n - 1) 0)
  have hbl := lt_bitLen (b.getD (n - 1) 0).toNat
  have e2 : 2 ^ bitLen (b.getD (n - 1) 0).toNat * 2 ^ (64 - bitLen (b.getD (n - 1) 0).toNat) = 18446744073709551616 := by
    rw [← Nat.pow_add, show bitLen (b.getD (n - 1) 0).toNat + (64 - bitLen (b.getD (n - 1) 0).toNat) = 64 by omega]
  generalize (b.getD (n - 1) 0).toNat = y at *
  generalize 2 ^ (64 * (n - 1)) = P at *
  generalize 2 ^ (64 - bitLen y) = S at *
  constructor
  · rw [h1, Nat.add_mul, Nat.mul_assoc]
    have := Nat.mul_le_mul_left P h3
    omega
  · rw [e, h1]
    have h5 : v64 (b.take (n - 1)) + P * y < P * 2 ^ bitLen y := by
      have := Nat.mul_le_mul_left P (show y + 1 ≤ 2 ^ bitLen y by omega)
      rw [Nat.mul_add, Nat.mul_one] at this
      omega
    have hS : 0 < S := by
      rcases Nat.eq_zero_or_pos S with h | h
      · rw [h, Nat.mul_zero] at e2; omega
      · exact h
    have h6 := Nat.mul_lt_mul_of_pos_right h5 hS
    rwa [Nat.mul_assoc, e2] at h6
end Go.Proofs.Ytbmlhdecnfplaaa
