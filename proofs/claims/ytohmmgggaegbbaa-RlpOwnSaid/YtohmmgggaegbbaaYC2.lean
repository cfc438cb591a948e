/- rlp.cut takes the first item's payload apart from what is behind it. No condition. -/
import Derived.Test.YtohmmgggaegbbaaYT2
import Derived.Test.YtohmmgggaegbbaaYC1
namespace Go.Proofs.Ytohmmgggaegbbaa
set_option linter.unusedVariables false
set_option linter.unusedSimpArgs false
open Go Go.RowKit
/-- What rlp.cut tells. -/
def CutV (N : Heaplet) (r : Option (Bool × List UInt8 × List UInt8)) (v : Value) : Prop := match r with
  | none => v = .tuple #[.nilIface, .slice none 0 0]
  | some (isL, p, q) => ∃ a1 c1 a2 c2, v = .tuple #[.iface (if isL then 84 else 82) (.slice a1 p.length c1), .slice a2 q.length c2] ∧ RSl N 1 a1 p.length c1 (u8s p) ∧ RSl N 1 a2 q.length c2 (u8s q)
theorem cutv_mk {N : Heaplet} {isL : Bool} {p q : List UInt8} {T : TypeId} {a1 a2 : Option Addr} {n1 n2 c1 c2 : Nat} (hT : T = if isL then 84 else 82) (h1 : RSl N 1 a1 n1 c1 (u8s p)) (h2 : RSl N 1 a2 n2 c2 (u8s q)) : CutV N (some (isL, p, q)) (.tuple #[.iface T (.slice a1 n1 c1), .slice a2 n2 c2]) := by
  have e1 := h1.len8
  have e2 := h2.len8
  subst e1; subst e2
  exact ⟨a1, c1, a2, c2, by rw [hT], h1, h2⟩
theorem cut_f {N : Heaplet} {ao : Option Addr} {n cap : Nat} {b : List UInt8} (h : RSl N 1 ao n cap (u8s b)) (hn : n ≤ 1099511627776) :
    Fn Try.prog 39 #[.slice ao n cap] [] [N] (fun v L => L = [] ∧ ∀ M : Heaplet, RSl M 1 ao n cap (u8s b) → CutV M (cutF b) v) := by
  have hlen := h.len8
  have hcap := h.cap63
  refine Fn.enter (vs := [.slice ao n cap]) Try.func39 rfl rfl rfl ?_
  intro E R hR
  have h := h.le (hR N (by simp))
  have hb0 := (b.getD 0 0).toNat_lt
  have hd : hdr b = ((b.getD 0 0).toNat - 128) % 64 := rfl
  have hn64 : (UInt64.ofNat n).toNat = n := by rw [UInt64.toNat_ofNat']; exact Nat.mod_eq_of_lt (by omega)
  change At _ _ E [R] _
  refine At.seq fun K1 hk_1 => ?_
  refine At.region ?_
  refine op_assign (nxlf rfl) rfl rfl ?_
  refine op_assign (nxlf rfl) rfl rfl ?_
  refine At.opsNil ?_
  refine At.norm (hk_1 ?_)
  refine At.seq fun K2 hk_2 => ?_
  refine At.seq fun K3 hk_3 => ?_
  refine At.region ?_
  refine op_move (nxlf rfl) rfl rfl ?_
  refine op_lenS (nxlf rfl) se22 rfl rfl ?_
  refine op_eql (nxlf rfl) rfl rfl rfl ?_
  refine At.opsNil ?_
  refine At.norm (hk_3 ?_)
  refine At.condP rfl (fun c11 => ?_) (fun c11 => ?_)
  · refine At.seq fun K4 hk_4 => ?_
    refine At.region ?_
    refine op_assign (nxlf rfl) rfl rfl ?_
    refine op_assign (nxlf rfl) rfl rfl ?_
    refine At.opsNil ?_
    refine At.norm (hk_4 ?_)
    refine At.ret (At.thenRet (?_))
    refine At.retN (L1 := []) rfl (.tmp rfl (.tmp rfl .nil)) rfl (.refl _) (.refl _) ?_
    exact ⟨rfl, fun M hM => by rw [cutF, if_pos (by omega)]; rfl⟩
  · refine At.skip ?_
    refine At.norm (hk_2 ?_)
    refine At.seq fun K5 hk_5 => ?_
    refine At.region ?_
    refine op_move (nxlf rfl) rfl rfl ?_
    refine op_idx1 (nxlf rfl) se22 rfl rfl (by assumption) (show _ = ((0 : Nat) : Int) from rfl) (by omega) rfl ?_
    refine op_loadE (nxlf rfl) sc5 rfl (by assumption) (by first | exact get8 (by omega) | exact get64 (by omega) | exact get32 (by omega)) (by first | exact mem0 | exact mem1 | exact mem2 | exact mem3 | exact mem4 | exact mem5 | exact mem6 | exact mem7 | exact mem8 | exact mem9) rfl ?_
    refine op_convI (nxlf rfl) (und_some Try.underlying5) Try.underlying3 rfl (by omega) (by omega) rfl ?_
    refine op_assign (nxlf rfl) rfl rfl ?_
    refine At.opsNil ?_
    refine At.norm (hk_5 ?_)
    refine At.seq fun K6 hk_6 => ?_
    refine At.seq fun K7 hk_7 => ?_
    refine At.region ?_
    refine op_move (nxlf rfl) rfl rfl ?_
    refine op_lss (nxlf rfl) rfl rfl rfl ?_
    refine At.opsNil ?_
    refine At.norm (hk_7 ?_)
    refine At.condP rfl (fun c17 => ?_) (fun c17 => ?_)
    · refine At.seq fun K8 hk_8 => ?_
      refine At.drawn [] [0,1,2,3,4,5,6] (by kernel_rfl) (by kernel_rfl) ?_
      refine op_move (nxof rfl rfl rfl (by kernel_rfl)) rfl rfl ?_
      refine op_slice0 (nxof rfl rfl rfl (by kernel_rfl)) se22 rfl (.some rfl (show _ = ((1 : Nat) : Int) from rfl)) .none (by omega) (by omega) (by simp) rfl ?_
      refine op_mkI (nxof rfl rfl rfl (by kernel_rfl)) (by kernel_rfl) rfl rfl ?_
      refine op_move (nxof rfl rfl rfl (by kernel_rfl)) rfl rfl ?_
      refine op_slice (nxof rfl rfl rfl (by kernel_rfl)) se22 rfl (.some rfl (show _ = ((1 : Nat) : Int) from rfl)) .none .none (by omega) (by omega) (by omega) (by simp) rfl ?_
      refine op_assign (nxof rfl rfl rfl (by kernel_rfl)) rfl rfl ?_
      refine op_assign (nxof rfl rfl rfl (by kernel_rfl)) rfl rfl ?_
      refine At.oneNil ?_
      refine At.norm (hk_8 ?_)
      refine At.ret (At.thenRet (?_))
      refine At.retN (L1 := []) rfl (.tmp rfl (.tmp rfl .nil)) rfl (.refl _) (.refl _) ?_
      refine ⟨rfl, fun M hM => ?_⟩
      rw [cutF, if_neg (by omega), if_pos (by omega)]
      exact cutv_mk rfl (hM.take8 (by omega) (by omega) (by omega)) (hM.drop8 (by omega))
    · refine At.skip ?_
      refine At.norm (hk_6 ?_)
      refine At.seq fun K9 hk_9 => ?_
      refine At.region ?_
      refine op_move (nxlf rfl) rfl rfl ?_
      refine op_subI (nxlf rfl) rfl rfl (by omega) (by omega) rfl ?_
      refine op_rem (nxlf rfl) rfl rfl (by omega) (by omega) rfl ?_
      refine op_assign (nxlf rfl) rfl rfl ?_
      refine op_assign (nxlf rfl) rfl rfl ?_
      refine At.opsNil ?_
      refine At.norm (hk_9 ?_)
      refine At.seq fun K10 hk_10 => ?_
      refine At.meet (fun fr_ hp_ => ∃ (i m : Nat), fr_ = [(0, .slice ao n cap), (4, .int .i64 ((b.getD 0 0).toNat : Int)), (5, .int .i64 (m : Int)), (6, .int .i64 (i : Int))] ∧ hp_ = [R] ∧ (i ≤ n) ∧ (1 ≤ i) ∧ (m ≤ 1099511627776) ∧ (cutF b = cutAt b i m)) ?_ (fun K10_ jk_10 => ?_)
      rotate_left
      · skip
        refine At.seq fun K11 hk_11 => ?_
        refine At.region ?_
        refine op_move (nxlf rfl) rfl rfl ?_
        refine op_gtr (nxlf rfl) rfl rfl rfl ?_
        refine At.opsNil ?_
        refine At.norm (hk_11 ?_)
        refine At.condP rfl (fun c27 => ?_) (fun c27 => ?_)
        · refine At.seq fun K12 hk_12 => ?_
          refine At.region ?_
          refine op_move (nxlf rfl) rfl rfl ?_
          refine op_move (nxlf rfl) rfl rfl ?_
          refine op_subI (nxlf rfl) rfl rfl (by omega) (by omega) rfl ?_
          refine op_addI (nxlf rfl) rfl rfl (by omega) (by omega) rfl ?_
          refine op_assign (nxlf rfl) rfl rfl ?_
          refine At.opsNil ?_
          refine At.norm (hk_12 ?_)
          refine At.seq fun K13 hk_13 => ?_
          refine At.seq fun K14 hk_14 => ?_
          refine At.region ?_
          refine op_move (nxlf rfl) rfl rfl ?_
          refine op_lenS (nxlf rfl) se22 rfl rfl ?_
          refine op_move (nxlf rfl) rfl rfl ?_
          refine op_lss (nxlf rfl) rfl rfl rfl ?_
          refine op_move (nxlf rfl) rfl rfl ?_
          refine At.partP (d := 36) rfl (fun g36 => ?_) (fun g36 => ?_)
          · refine op_skip rfl rfl rfl rfl rfl rfl rfl ?_
            refine op_skip rfl rfl rfl rfl rfl rfl rfl ?_
            refine op_skip rfl rfl rfl rfl rfl rfl rfl ?_
            refine op_skip rfl rfl rfl rfl rfl rfl rfl ?_
            refine op_pickT (nxlf rfl) rfl rfl rfl ?_
            refine At.opsNil ?_
            refine At.norm (hk_14 ?_)
            refine At.condT rfl ?_
            refine At.seq fun K15 hk_15 => ?_
            refine At.region ?_
            refine op_assign (nxlf rfl) rfl rfl ?_
            refine op_assign (nxlf rfl) rfl rfl ?_
            refine At.opsNil ?_
            refine At.norm (hk_15 ?_)
            refine At.ret (At.thenRet (At.thenRet (?_)))
            refine At.retN (L1 := []) rfl (.tmp rfl (.tmp rfl .nil)) rfl (.refl _) (.refl _) ?_
            exact ⟨rfl, fun M hM => by rw [cutF, if_neg (by omega), if_neg (by omega), if_neg (by omega), if_pos (.inl (by omega))]; rfl⟩
          · refine op_move (nxgf rfl rfl rfl rfl) rfl rfl ?_
            refine op_idx1 (nxgf rfl rfl rfl rfl) se22 rfl rfl (by assumption) (show _ = ((1 : Nat) : Int) from rfl) (by omega) rfl ?_
            refine op_loadE (nxgf rfl rfl rfl rfl) sc5 rfl (by assumption) (by first | exact get8 (by omega) | exact get64 (by omega) | exact get32 (by omega)) (by first | exact mem0 | exact mem1 | exact mem2 | exact mem3 | exact mem4 | exact mem5 | exact mem6 | exact mem7 | exact mem8 | exact mem9) rfl ?_
            refine op_eql (nxgf rfl rfl rfl rfl) rfl rfl rfl ?_
            refine op_pickF (nxlf rfl) rfl rfl rfl ?_
            refine At.opsNil ?_
            refine At.norm (hk_14 ?_)
            refine At.condP rfl (fun c41 => ?_) (fun c41 => ?_)
            · refine At.seq fun K16 hk_16 => ?_
              refine At.region ?_
              refine op_assign (nxlf rfl) rfl rfl ?_
              refine op_assign (nxlf rfl) rfl rfl ?_
              refine At.opsNil ?_
              refine At.norm (hk_16 ?_)
              refine At.ret (At.thenRet (At.thenRet (?_)))
              refine At.retN (L1 := []) rfl (.tmp rfl (.tmp rfl .nil)) rfl (.refl _) (.refl _) ?_
              exact ⟨rfl, fun M hM => by rw [cutF, if_neg (by omega), if_neg (by omega), if_neg (by omega), if_pos (.inr (by omega))]; rfl⟩
            · refine At.skip ?_
              refine At.norm (hk_13 ?_)
              refine At.seq fun K17 hk_17 => ?_
              refine At.region ?_
              refine op_move (nxlf rfl) rfl rfl ?_
              refine op_move (nxlf rfl) rfl rfl ?_
              refine op_slice (nxlf rfl) se22 rfl (.some rfl (show _ = ((1 : Nat) : Int) from rfl)) (.some rfl (show _ = (((hdr b - 54 : Nat)) : Int) from by omega)) .none (by omega) (by omega) (by omega) (by simp) rfl ?_
              refine op_callA (nxla rfl) (.cons rfl .nil) (From_f (h.part8 (lo := 1) (hi := hdr b - 54) (m := cap) (by omega) (by omega) (by omega) (by omega)) (by omega)) Try.func52 rfl rfl (by simp) rfl ?_
              rintro v45 L45 ⟨M45, a45, rfl, rfl, s45⟩
              change At _ _ _ [M45, R] _
              have hl := lng_pos (b := b) (by omega) (by omega) (by omega)
              change RSl M45 1 a45 (limbsOf (lng b)).length (limbsOf (lng b)).length (u64s (limbsOf (lng b))) at s45
              change At _ ((45, .slice a45 (limbsOf (lng b)).length (limbsOf (lng b)).length) :: _) _ [M45, R] _
              have hx : ([UInt64.ofNat (lng b)].getD 0 0).toNat = lng b := by rw [show [UInt64.ofNat (lng b)].getD 0 0 = UInt64.ofNat (lng b) from rfl, UInt64.toNat_ofNat']; exact Nat.mod_eq_of_lt hl.2
              rw [limbs_one hl.1 hl.2] at s45 ⊢
              have hl1 : [UInt64.ofNat (lng b)].length = 1 := rfl
              refine op_assign (nxlf rfl) rfl rfl ?_
              refine At.opsNil ?_
              refine At.norm (hk_17 ?_)
              refine At.seq fun K18 hk_18 => ?_
              refine At.seq fun K19 hk_19 => ?_
              refine At.region ?_
              refine op_move (nxlf rfl) rfl rfl ?_
              refine op_lenS (nxlf rfl) se95 rfl rfl ?_
              refine op_gtr (nxlf rfl) rfl rfl rfl ?_
              refine op_move (nxlf rfl) rfl rfl ?_
              refine At.partP (d := 49) rfl (fun g49 => ?_) (fun g49 => ?_)
              · exfalso; omega
              · refine op_move (nxgf rfl rfl rfl rfl) rfl rfl ?_
                refine op_idx1 (nxgf rfl rfl rfl rfl) se95 rfl rfl (by assumption) (show _ = ((0 : Nat) : Int) from rfl) (by omega) rfl ?_
                refine op_loadE (nxgf rfl rfl rfl rfl) sc64 rfl (by assumption) (by first | exact get8 (by omega) | exact get64 (by omega) | exact get32 (by omega)) (by first | exact mem0 | exact mem1 | exact mem2 | exact mem3 | exact mem4 | exact mem5 | exact mem6 | exact mem7 | exact mem8 | exact mem9) rfl ?_
                refine op_leq (nxgf rfl rfl rfl rfl) rfl rfl rfl ?_
                refine op_pickF (nxlf rfl) rfl rfl rfl ?_
                refine op_move (nxlf rfl) rfl rfl ?_
                refine At.partP (d := 55) rfl (fun g55 => ?_) (fun g55 => ?_)
                · refine op_skip rfl rfl rfl rfl rfl rfl rfl ?_
                  refine op_skip rfl rfl rfl rfl rfl rfl rfl ?_
                  refine op_skip rfl rfl rfl rfl rfl rfl rfl ?_
                  refine op_skip rfl rfl rfl rfl rfl rfl rfl ?_
                  refine op_skip rfl rfl rfl rfl rfl rfl rfl ?_
                  refine op_skip rfl rfl rfl rfl rfl rfl rfl ?_
                  refine op_skip rfl rfl rfl rfl rfl rfl rfl ?_
                  refine op_pickT (nxlf rfl) rfl rfl rfl ?_
                  refine At.opsNil ?_
                  refine At.norm (hk_19 ?_)
                  refine At.condT rfl ?_
                  refine At.seq fun K20 hk_20 => ?_
                  refine At.region ?_
                  refine op_assign (nxlf rfl) rfl rfl ?_
                  refine op_assign (nxlf rfl) rfl rfl ?_
                  refine At.opsNil ?_
                  refine At.norm (hk_20 ?_)
                  refine At.ret (At.thenRet (At.thenRet (?_)))
                  refine At.sub (L' := [R]) (.cons _ (.cons_cons _ (.slnil))) ?_
                  refine At.retN (L1 := []) rfl (.tmp rfl (.tmp rfl .nil)) rfl (.refl _) (.refl _) ?_
                  exact ⟨rfl, fun M hM => by rw [cutF, if_neg (by omega), if_neg (by omega), if_neg (by omega), if_neg (by omega), if_pos (.inl (by omega))]; rfl⟩
                · refine op_move (nxgf rfl rfl rfl rfl) rfl rfl ?_
                  refine op_idx1 (nxgf rfl rfl rfl rfl) se95 rfl rfl (by assumption) (show _ = ((0 : Nat) : Int) from rfl) (by omega) rfl ?_
                  refine op_loadE (nxgf rfl rfl rfl rfl) sc64 rfl (by assumption) (by first | exact get8 (by omega) | exact get64 (by omega) | exact get32 (by omega)) (by first | exact mem0 | exact mem1 | exact mem2 | exact mem3 | exact mem4 | exact mem5 | exact mem6 | exact mem7 | exact mem8 | exact mem9) rfl ?_
                  refine op_move (nxgf rfl rfl rfl rfl) rfl rfl ?_
                  refine op_lenS (nxgf rfl rfl rfl rfl) se22 rfl rfl ?_
                  refine op_conv64 (nxgf rfl rfl rfl rfl) (und_some Try.underlying3) Try.underlying64 rfl (by first | rfl | exact (Int.toNat_of_nonneg (by omega)).symm) rfl ?_
                  refine op_gtr (nxgf rfl rfl rfl rfl) rfl rfl rfl ?_
                  refine op_pickF (nxlf rfl) rfl rfl rfl ?_
                  refine At.opsNil ?_
                  refine At.norm (hk_19 ?_)
                  refine At.condP rfl (fun c63 => ?_) (fun c63 => ?_)
                  · refine At.seq fun K21 hk_21 => ?_
                    refine At.region ?_
                    refine op_assign (nxlf rfl) rfl rfl ?_
                    refine op_assign (nxlf rfl) rfl rfl ?_
                    refine At.opsNil ?_
                    refine At.norm (hk_21 ?_)
                    refine At.ret (At.thenRet (At.thenRet (?_)))
                    refine At.sub (L' := [R]) (.cons _ (.cons_cons _ (.slnil))) ?_
                    refine At.retN (L1 := []) rfl (.tmp rfl (.tmp rfl .nil)) rfl (.refl _) (.refl _) ?_
                    exact ⟨rfl, fun M hM => by rw [cutF, if_neg (by omega), if_neg (by omega), if_neg (by omega), if_neg (by omega), if_pos (.inr (by omega))]; rfl⟩
                  · refine At.skip ?_
                    refine At.norm (hk_18 ?_)
                    refine At.region ?_
                    refine op_move (nxlf rfl) rfl rfl ?_
                    refine op_idx1 (nxlf rfl) se95 rfl rfl (by assumption) (show _ = ((0 : Nat) : Int) from rfl) (by omega) rfl ?_
                    refine op_loadE (nxlf rfl) sc64 rfl (by assumption) (by first | exact get8 (by omega) | exact get64 (by omega) | exact get32 (by omega)) (by first | exact mem0 | exact mem1 | exact mem2 | exact mem3 | exact mem4 | exact mem5 | exact mem6 | exact mem7 | exact mem8 | exact mem9) rfl ?_
                    refine op_convI (nxlf rfl) (und_some Try.underlying64) Try.underlying3 rfl (by omega) (by omega) rfl ?_
                    refine op_assign (nxlf rfl) rfl rfl ?_
                    refine At.opsNil ?_
                    refine At.sub (L' := [R]) (.cons _ (.cons_cons _ (.slnil))) ?_
                    refine At.norm (jk_10 ?_ (.refl _) ⟨hdr b - 54, lng b, rfl, rfl, by omega, by omega, by omega, by rw [cutF, if_neg (by omega), if_neg (by omega), if_neg (by omega), if_neg (by omega), if_neg (by omega)]⟩)
                    exact .cons (by first | exact lkI rfl (by omega) | rfl) (.cons (by first | exact lkI rfl (by omega) | rfl) (.cons (by first | exact lkI rfl (by omega) | rfl) (.cons (by first | exact lkI rfl (by omega) | rfl) .nil)))
        · refine At.skip ?_
          refine At.norm (jk_10 ?_ (.refl _) ⟨1, hdr b, rfl, rfl, by omega, by omega, by omega, by rw [cutF, if_neg (by omega), if_neg (by omega), if_pos (by omega)]⟩)
          exact .cons (by first | exact lkI rfl (by omega) | rfl) (.cons (by first | exact lkI rfl (by omega) | rfl) (.cons (by first | exact lkI rfl (by omega) | rfl) (.cons (by first | exact lkI rfl (by omega) | rfl) .nil)))
      rintro _ _ ⟨i, m, rfl, rfl, hi, hi0, hm, hc⟩
      refine hk_10 ?_
      refine At.seq fun K22 hk_22 => ?_
      refine At.seq fun K23 hk_23 => ?_
      refine At.region ?_
      refine op_move (nxlf rfl) rfl rfl ?_
      refine op_move (nxlf rfl) rfl rfl ?_
      refine op_lenS (nxlf rfl) se22 rfl rfl ?_
      refine op_move (nxlf rfl) rfl rfl ?_
      refine op_subI (nxlf rfl) rfl rfl (by omega) (by omega) rfl ?_
      refine op_gtr (nxlf rfl) rfl rfl rfl ?_
      refine At.opsNil ?_
      refine At.norm (hk_23 ?_)
      refine At.condP rfl (fun c73 => ?_) (fun c73 => ?_)
      · refine At.seq fun K24 hk_24 => ?_
        refine At.region ?_
        refine op_assign (nxlf rfl) rfl rfl ?_
        refine op_assign (nxlf rfl) rfl rfl ?_
        refine At.opsNil ?_
        refine At.norm (hk_24 ?_)
        refine At.ret (At.thenRet (?_))
        refine At.retN (L1 := []) rfl (.tmp rfl (.tmp rfl .nil)) rfl (.refl _) (.refl _) ?_
        exact ⟨rfl, fun M hM => by rw [hc, cutAt, if_pos (by omega)]; rfl⟩
      · refine At.skip ?_
        refine At.norm (hk_22 ?_)
        refine At.seq fun K25 hk_25 => ?_
        refine At.region ?_
        refine op_move (nxlf rfl) rfl rfl ?_
        refine op_move (nxlf rfl) rfl rfl ?_
        refine op_move (nxlf rfl) rfl rfl ?_
        refine op_move (nxlf rfl) rfl rfl ?_
        refine op_addI (nxlf rfl) rfl rfl (by omega) (by omega) rfl ?_
        refine op_slice (nxlf rfl) se22 rfl (.some rfl (show _ = (((i : Nat)) : Int) from by omega)) (.some rfl (show _ = (((i + m : Nat)) : Int) from by omega)) .none (by omega) (by omega) (by omega) (by simp) rfl ?_
        have s79 := h.part8 (lo := i) (hi := i + m) (m := cap) (by omega) (by omega) (by omega) (by omega)
        have l79 := s79.len8
        refine op_assign (nxlf rfl) rfl rfl ?_
        refine At.opsNil ?_
        refine At.norm (hk_25 ?_)
        refine At.seq fun K26 hk_26 => ?_
        refine At.block ?_
        refine At.seq fun K27 hk_27 => ?_
        refine At.region ?_
        refine op_move (nxlf rfl) rfl rfl ?_
        refine op_geq (nxlf rfl) rfl rfl rfl ?_
        refine op_assign (nxlf rfl) rfl rfl ?_
        refine At.opsNil ?_
        refine At.norm (hk_27 ?_)
        refine At.condP rfl (fun c80 => ?_) (fun c80 => ?_)
        · refine At.seq fun K28 hk_28 => ?_
          refine At.drawn [] [0,1,2,3,4,5,6,7,8] (by kernel_rfl) (by kernel_rfl) ?_
          refine op_move (nxof rfl rfl rfl (by kernel_rfl)) rfl rfl ?_
          refine op_mkI (nxof rfl rfl rfl (by kernel_rfl)) (by kernel_rfl) rfl rfl ?_
          refine op_move (nxof rfl rfl rfl (by kernel_rfl)) rfl rfl ?_
          refine op_move (nxof rfl rfl rfl (by kernel_rfl)) rfl rfl ?_
          refine op_move (nxof rfl rfl rfl (by kernel_rfl)) rfl rfl ?_
          refine op_addI (nxof rfl rfl rfl (by kernel_rfl)) rfl rfl (by omega) (by omega) rfl ?_
          refine op_slice (nxof rfl rfl rfl (by kernel_rfl)) se22 rfl (.some rfl (show _ = (((i + m : Nat)) : Int) from by omega)) .none .none (by omega) (by omega) (by omega) (by simp) rfl ?_
          refine op_assign (nxof rfl rfl rfl (by kernel_rfl)) rfl rfl ?_
          refine op_assign (nxof rfl rfl rfl (by kernel_rfl)) rfl rfl ?_
          refine At.oneNil ?_
          refine At.norm (hk_28 ?_)
          refine At.ret (At.inRet (At.thenRet (?_)))
          refine At.retN (L1 := []) rfl (.tmp rfl (.tmp rfl .nil)) rfl (.refl _) (.refl _) ?_
          refine ⟨rfl, fun M hM => ?_⟩
          rw [hc, cutAt, if_neg (by omega), if_pos (by omega)]
          have e := hM.part8 (lo := i) (hi := i + m) (m := cap) (by omega) (by omega) (by omega) (by omega)
          rw [show i + m - i = m by omega] at e ⊢
          exact cutv_mk rfl e (hM.drop8 (by omega))
        · refine At.seq fun K29 hk_29 => ?_
          refine At.region ?_
          refine op_move (nxlf rfl) rfl rfl ?_
          refine op_eql (nxlf rfl) rfl rfl rfl ?_
          refine op_move (nxlf rfl) rfl rfl ?_
          refine At.partP (d := 93) rfl (fun g93 => ?_) (fun g93 => ?_)
          · refine op_move (nxgf rfl rfl rfl rfl) rfl rfl ?_
            refine op_idx1 (nxgf rfl rfl rfl rfl) se22 rfl rfl (by assumption) (show _ = ((0 : Nat) : Int) from rfl) (by omega) rfl ?_
            refine op_loadE (nxgf rfl rfl rfl rfl) sc5 rfl (by assumption) (by first | exact get8 (by omega) | exact get64 (by omega) | exact get32 (by omega)) (by first | exact mem0 | exact mem1 | exact mem2 | exact mem3 | exact mem4 | exact mem5 | exact mem6 | exact mem7 | exact mem8 | exact mem9) rfl ?_
            refine op_lss (nxgf rfl rfl rfl rfl) rfl rfl rfl ?_
            refine op_pickT (nxlf rfl) rfl rfl rfl ?_
            refine op_assign (nxlf rfl) rfl rfl ?_
            refine At.opsNil ?_
            refine At.norm (hk_29 ?_)
            refine At.condP rfl (fun c90 => ?_) (fun c90 => ?_)
            · refine At.seq fun K30 hk_30 => ?_
              refine At.region ?_
              refine op_assign (nxlf rfl) rfl rfl ?_
              refine op_assign (nxlf rfl) rfl rfl ?_
              refine At.opsNil ?_
              refine At.norm (hk_30 ?_)
              refine At.ret (At.inRet (At.thenRet (?_)))
              refine At.retN (L1 := []) rfl (.tmp rfl (.tmp rfl .nil)) rfl (.refl _) (.refl _) ?_
              exact ⟨rfl, fun M hM => by rw [hc, cutAt, if_neg (by omega), if_neg (by omega), if_pos ⟨by omega, by rw [getD_part (by omega)] at c90; omega⟩]; rfl⟩
            · refine At.skip ?_
              refine At.inNorm ?_
              refine At.norm (hk_26 ?_)
              refine At.seq fun K31 hk_31 => ?_
              refine At.drawn [] [0,1,2,3,4,5,6,7,8] (by kernel_rfl) (by kernel_rfl) ?_
              refine op_move (nxof rfl rfl rfl (by kernel_rfl)) rfl rfl ?_
              refine op_mkI (nxof rfl rfl rfl (by kernel_rfl)) (by kernel_rfl) rfl rfl ?_
              refine op_move (nxof rfl rfl rfl (by kernel_rfl)) rfl rfl ?_
              refine op_move (nxof rfl rfl rfl (by kernel_rfl)) rfl rfl ?_
              refine op_move (nxof rfl rfl rfl (by kernel_rfl)) rfl rfl ?_
              refine op_addI (nxof rfl rfl rfl (by kernel_rfl)) rfl rfl (by omega) (by omega) rfl ?_
              refine op_slice (nxof rfl rfl rfl (by kernel_rfl)) se22 rfl (.some rfl (show _ = (((i + m : Nat)) : Int) from by omega)) .none .none (by omega) (by omega) (by omega) (by simp) rfl ?_
              refine op_assign (nxof rfl rfl rfl (by kernel_rfl)) rfl rfl ?_
              refine op_assign (nxof rfl rfl rfl (by kernel_rfl)) rfl rfl ?_
              refine At.oneNil ?_
              refine At.norm (hk_31 ?_)
              refine At.ret (?_)
              refine At.retN (L1 := []) rfl (.tmp rfl (.tmp rfl .nil)) rfl (.refl _) (.refl _) ?_
              refine ⟨rfl, fun M hM => ?_⟩
              rw [getD_part (by omega)] at c90
              rw [hc, cutAt, if_neg (by omega), if_neg (by omega), if_neg (by omega)]
              have e := hM.part8 (lo := i) (hi := i + m) (m := cap) (by omega) (by omega) (by omega) (by omega)
              rw [show i + m - i = m by omega] at e ⊢
              exact cutv_mk rfl e (hM.drop8 (by omega))
          · refine op_skip rfl rfl rfl rfl rfl rfl rfl ?_
            refine op_skip rfl rfl rfl rfl rfl rfl rfl ?_
            refine op_skip rfl rfl rfl rfl rfl rfl rfl ?_
            refine op_skip rfl rfl rfl rfl rfl rfl rfl ?_
            refine op_pickF (nxlf rfl) rfl rfl rfl ?_
            refine op_assign (nxlf rfl) rfl rfl ?_
            refine At.opsNil ?_
            refine At.norm (hk_29 ?_)
            refine At.condF rfl ?_
            refine At.skip ?_
            refine At.inNorm ?_
            refine At.norm (hk_26 ?_)
            refine At.seq fun K32 hk_32 => ?_
            refine At.drawn [] [0,1,2,3,4,5,6,7,8] (by kernel_rfl) (by kernel_rfl) ?_
            refine op_move (nxof rfl rfl rfl (by kernel_rfl)) rfl rfl ?_
            refine op_mkI (nxof rfl rfl rfl (by kernel_rfl)) (by kernel_rfl) rfl rfl ?_
            refine op_move (nxof rfl rfl rfl (by kernel_rfl)) rfl rfl ?_
            refine op_move (nxof rfl rfl rfl (by kernel_rfl)) rfl rfl ?_
            refine op_move (nxof rfl rfl rfl (by kernel_rfl)) rfl rfl ?_
            refine op_addI (nxof rfl rfl rfl (by kernel_rfl)) rfl rfl (by omega) (by omega) rfl ?_
            refine op_slice (nxof rfl rfl rfl (by kernel_rfl)) se22 rfl (.some rfl (show _ = (((i + m : Nat)) : Int) from by omega)) .none .none (by omega) (by omega) (by omega) (by simp) rfl ?_
            refine op_assign (nxof rfl rfl rfl (by kernel_rfl)) rfl rfl ?_
            refine op_assign (nxof rfl rfl rfl (by kernel_rfl)) rfl rfl ?_
            refine At.oneNil ?_
            refine At.norm (hk_32 ?_)
            refine At.ret (?_)
            refine At.retN (L1 := []) rfl (.tmp rfl (.tmp rfl .nil)) rfl (.refl _) (.refl _) ?_
            refine ⟨rfl, fun M hM => ?_⟩
            rw [hc, cutAt, if_neg (by omega), if_neg (by omega), if_neg (by omega)]
            have e := hM.part8 (lo := i) (hi := i + m) (m := cap) (by omega) (by omega) (by omega) (by omega)
            rw [show i + m - i = m by omega] at e ⊢
            exact cutv_mk rfl e (hM.drop8 (by omega))
end Go.Proofs.Ytohmmgggaegbbaa
