/- rlp.Split, the reference's Split; quarrylaw05.RlpSplit answers true. No condition but that bytes are not longer than a machine holds. -/
import Derived.Test.YtohmmgggaegbbaaYT5
import Derived.Test.YtohmmgggaegbbaaYV2
namespace Go.Proofs.Ytohmmgggaegbbaa
set_option linter.unusedVariables false
set_option linter.unusedSimpArgs false
open Go Go.RowKit
theorem Split_none {N : Heaplet} {ao : Option Addr} {n cap : Nat} {b : List UInt8} (h : RSl N 1 ao n cap (u8s b)) (hn : n ≤ 1099511627776) (hc : cutF b = none) :
    Fn Try.prog 23 #[.slice ao n cap] [] [N] (fun v L => v = .tuple #[.bool false, .slice none 0 0, .slice none 0 0, .int .i64 2] ∧ L = []) := by
  refine Fn.enter (vs := [.slice ao n cap]) Try.func23 rfl rfl rfl ?_
  intro E R hR
  have h := h.le (hR N (by simp))
  change At _ _ E [R] _
  refine At.seq fun K1 hk_1 => ?_
  refine At.region ?_
  refine op_assign (nxlf rfl) rfl rfl ?_
  refine op_assign (nxlf rfl) rfl rfl ?_
  refine op_assign (nxlf rfl) rfl rfl ?_
  refine op_assign (nxlf rfl) rfl rfl ?_
  refine At.opsNil ?_
  refine At.norm (hk_1 ?_)
  refine At.seq fun K2 hk_2 => ?_
  refine At.region ?_
  refine op_move (nxlf rfl) rfl rfl ?_
  refine op_callA (nxla rfl) (.cons rfl .nil) (cut_none h hn hc) Try.func39 rfl rfl (by simp) rfl ?_
  rintro v12 L12 ⟨rfl, rfl⟩
  change At _ _ _ [R] _
  refine op_move (nxlf rfl) rfl rfl ?_
  refine op_extract (nxlf rfl) rfl rfl rfl ?_
  refine op_extract (nxlf rfl) rfl rfl rfl ?_
  refine op_assign (nxlf rfl) rfl rfl ?_
  refine op_assign (nxlf rfl) rfl rfl ?_
  refine At.opsNil ?_
  refine At.norm (hk_2 ?_)
  refine At.seq fun K3 hk_3 => ?_
  refine At.seq fun K4 hk_4 => ?_
  refine At.region ?_
  refine op_move (nxlf rfl) rfl rfl ?_
  refine op_eqNilT (nxlf rfl) (by kernel_rfl) rfl rfl ?_
  refine At.opsNil ?_
  refine At.norm (hk_4 ?_)
  refine At.condT rfl ?_
  refine At.seq fun K5 hk_5 => ?_
  refine At.region ?_
  refine op_assign (nxlf rfl) rfl rfl ?_
  refine op_assign (nxlf rfl) rfl rfl ?_
  refine op_assign (nxlf rfl) rfl rfl ?_
  refine op_assign (nxlf rfl) rfl rfl ?_
  refine At.opsNil ?_
  refine At.norm (hk_5 ?_)
  refine At.ret (At.thenRet (?_))
  refine At.retN (L1 := []) rfl (.tmp rfl (.tmp rfl (.tmp rfl (.tmp rfl .nil)))) rfl (.refl _) (.refl _) ?_
  exact ⟨rfl, rfl⟩
theorem Split_text {N : Heaplet} {ao : Option Addr} {n cap : Nat} {b p q : List UInt8} (h : RSl N 1 ao n cap (u8s b)) (hn : n ≤ 1099511627776) (hc : cutF b = some (false, p, q)) :
    Fn Try.prog 23 #[.slice ao n cap] [] [N] (fun v L => ∃ M1 M2 a1 c1 a2 c2, v = .tuple #[.bool false, .slice a1 p.length c1, .slice a2 q.length c2, .int .i64 0] ∧ L = [M1, M2] ∧ Row M1 5 1 a1 p.length c1 (u8s p) ∧ Row M2 5 1 a2 q.length c2 (u8s q)) := by
  have hlen := h.len8
  have hcl := cutF_len hc
  refine Fn.enter (vs := [.slice ao n cap]) Try.func23 rfl rfl rfl ?_
  intro E R hR
  have h := h.le (hR N (by simp))
  change At _ _ E [R] _
  refine At.seq fun K1 hk_1 => ?_
  refine At.region ?_
  refine op_assign (nxlf rfl) rfl rfl ?_
  refine op_assign (nxlf rfl) rfl rfl ?_
  refine op_assign (nxlf rfl) rfl rfl ?_
  refine op_assign (nxlf rfl) rfl rfl ?_
  refine At.opsNil ?_
  refine At.norm (hk_1 ?_)
  refine At.seq fun K2 hk_2 => ?_
  refine At.region ?_
  refine op_move (nxlf rfl) rfl rfl ?_
  refine op_callA (nxla rfl) (.cons rfl .nil) (cut_some h hn hc) Try.func39 rfl rfl (by simp) rfl ?_
  rintro v12 L12 ⟨a1, c1, a2, c2, rfl, rfl, h1, h2⟩
  change At _ _ _ [R] _
  have h3 := h2 R h
  refine op_move (nxlf rfl) rfl rfl ?_
  refine op_extract (nxlf rfl) rfl rfl rfl ?_
  refine op_extract (nxlf rfl) rfl rfl rfl ?_
  refine op_assign (nxlf rfl) rfl rfl ?_
  refine op_assign (nxlf rfl) rfl rfl ?_
  refine At.opsNil ?_
  refine At.norm (hk_2 ?_)
  refine At.seq fun K3 hk_3 => ?_
  refine At.seq fun K4 hk_4 => ?_
  refine At.region ?_
  refine op_move (nxlf rfl) rfl rfl ?_
  refine op_eqNilF (nxlf rfl) (by kernel_rfl) rfl rfl ?_
  refine At.opsNil ?_
  refine At.norm (hk_4 ?_)
  refine At.condF rfl ?_
  refine At.skip ?_
  refine At.norm (hk_3 ?_)
  refine At.seq fun K5 hk_5 => ?_
  refine At.region ?_
  refine op_move (nxlf rfl) rfl rfl ?_
  refine op_append0 (nxla rfl) Try.underlying22 Try.underlying22 te5 rfl rfl (by assumption) (by first | exact mem0 | exact mem1 | exact mem2 | exact mem3 | exact mem4 | exact mem5 | exact mem6 | exact mem7 | exact mem8 | exact mem9) (by first | exact one_u8s _ | exact one_u64s _ | exact one_u32s _ | (intro u hu; simp at hu; subst hu; rfl)) (by omega) (by omega) rfl (fun N18 a18 p18 r18 => ?_)
  have s18 := r18.rsl
  refine op_assign (nxlf rfl) rfl rfl ?_
  refine At.opsNil ?_
  refine At.norm (hk_5 ?_)
  refine At.seq fun K6 hk_6 => ?_
  refine At.seq fun K7 hk_7 => ?_
  refine At.region ?_
  refine op_move (nxlf rfl) rfl rfl ?_
  refine op_assertY (nxlf rfl) (by kernel_rfl) rfl rfl ?_
  refine op_move (nxlf rfl) rfl rfl ?_
  refine op_extract (nxlf rfl) rfl rfl rfl ?_
  refine op_extract (nxlf rfl) rfl rfl rfl ?_
  refine op_assign (nxlf rfl) rfl rfl ?_
  refine op_assign (nxlf rfl) rfl rfl ?_
  refine At.opsNil ?_
  refine At.norm (hk_7 ?_)
  refine At.seq fun K8 hk_8 => ?_
  refine At.region ?_
  refine op_move (nxlf rfl) rfl rfl ?_
  refine At.opsNil ?_
  refine At.norm (hk_8 ?_)
  refine At.condT rfl ?_
  refine At.seq fun K9 hk_9 => ?_
  refine At.region ?_
  refine op_move (nxlf rfl) rfl rfl ?_
  refine op_append0 (nxla rfl) Try.underlying22 Try.underlying82 te5 rfl rfl (by assumption) (by first | exact mem0 | exact mem1 | exact mem2 | exact mem3 | exact mem4 | exact mem5 | exact mem6 | exact mem7 | exact mem8 | exact mem9) (by first | exact one_u8s _ | exact one_u64s _ | exact one_u32s _ | (intro u hu; simp at hu; subst hu; rfl)) (by omega) (by omega) rfl (fun N26 a26 p26 r26 => ?_)
  have s26 := r26.rsl
  refine op_move (nxlf rfl) rfl rfl ?_
  refine op_assign (nxlf rfl) rfl rfl ?_
  refine op_assign (nxlf rfl) rfl rfl ?_
  refine op_assign (nxlf rfl) rfl rfl ?_
  refine op_assign (nxlf rfl) rfl rfl ?_
  refine At.opsNil ?_
  refine At.norm (hk_9 ?_)
  refine At.ret (At.thenRet (?_))
  refine At.retN (L1 := [N26, N18]) rfl (.tmp rfl (.tmp rfl (.tmp rfl (.tmp rfl .nil)))) rfl (.refl _) (.refl _) ?_
  exact ⟨_, _, _, _, _, _, rfl, rfl, r26, r18⟩
theorem Split_list {N : Heaplet} {ao : Option Addr} {n cap : Nat} {b p q : List UInt8} (h : RSl N 1 ao n cap (u8s b)) (hn : n ≤ 1099511627776) (hc : cutF b = some (true, p, q)) :
    Fn Try.prog 23 #[.slice ao n cap] [] [N] (fun v L => ∃ M1 M2 a1 c1 a2 c2, v = .tuple #[.bool true, .slice a1 p.length c1, .slice a2 q.length c2, .int .i64 0] ∧ L = [M1, M2] ∧ Row M1 5 1 a1 p.length c1 (u8s p) ∧ Row M2 5 1 a2 q.length c2 (u8s q)) := by
  have hlen := h.len8
  have hcl := cutF_len hc
  refine Fn.enter (vs := [.slice ao n cap]) Try.func23 rfl rfl rfl ?_
  intro E R hR
  have h := h.le (hR N (by simp))
  change At _ _ E [R] _
  refine At.seq fun K1 hk_1 => ?_
  refine At.region ?_
  refine op_assign (nxlf rfl) rfl rfl ?_
  refine op_assign (nxlf rfl) rfl rfl ?_
  refine op_assign (nxlf rfl) rfl rfl ?_
  refine op_assign (nxlf rfl) rfl rfl ?_
  refine At.opsNil ?_
  refine At.norm (hk_1 ?_)
  refine At.seq fun K2 hk_2 => ?_
  refine At.region ?_
  refine op_move (nxlf rfl) rfl rfl ?_
  refine op_callA (nxla rfl) (.cons rfl .nil) (cut_some h hn hc) Try.func39 rfl rfl (by simp) rfl ?_
  rintro v12 L12 ⟨a1, c1, a2, c2, rfl, rfl, h1, h2⟩
  change At _ _ _ [R] _
  have h3 := h2 R h
  refine op_move (nxlf rfl) rfl rfl ?_
  refine op_extract (nxlf rfl) rfl rfl rfl ?_
  refine op_extract (nxlf rfl) rfl rfl rfl ?_
  refine op_assign (nxlf rfl) rfl rfl ?_
  refine op_assign (nxlf rfl) rfl rfl ?_
  refine At.opsNil ?_
  refine At.norm (hk_2 ?_)
  refine At.seq fun K3 hk_3 => ?_
  refine At.seq fun K4 hk_4 => ?_
  refine At.region ?_
  refine op_move (nxlf rfl) rfl rfl ?_
  refine op_eqNilF (nxlf rfl) (by kernel_rfl) rfl rfl ?_
  refine At.opsNil ?_
  refine At.norm (hk_4 ?_)
  refine At.condF rfl ?_
  refine At.skip ?_
  refine At.norm (hk_3 ?_)
  refine At.seq fun K5 hk_5 => ?_
  refine At.region ?_
  refine op_move (nxlf rfl) rfl rfl ?_
  refine op_append0 (nxla rfl) Try.underlying22 Try.underlying22 te5 rfl rfl (by assumption) (by first | exact mem0 | exact mem1 | exact mem2 | exact mem3 | exact mem4 | exact mem5 | exact mem6 | exact mem7 | exact mem8 | exact mem9) (by first | exact one_u8s _ | exact one_u64s _ | exact one_u32s _ | (intro u hu; simp at hu; subst hu; rfl)) (by omega) (by omega) rfl (fun N18 a18 p18 r18 => ?_)
  have s18 := r18.rsl
  refine op_assign (nxlf rfl) rfl rfl ?_
  refine At.opsNil ?_
  refine At.norm (hk_5 ?_)
  refine At.seq fun K6 hk_6 => ?_
  refine At.seq fun K7 hk_7 => ?_
  refine At.region ?_
  refine op_move (nxlf rfl) rfl rfl ?_
  refine op_assertN (nxlf rfl) (by kernel_rfl) ze82 rfl rfl rfl ?_
  refine op_move (nxlf rfl) rfl rfl ?_
  refine op_extract (nxlf rfl) rfl rfl rfl ?_
  refine op_extract (nxlf rfl) rfl rfl rfl ?_
  refine op_assign (nxlf rfl) rfl rfl ?_
  refine op_assign (nxlf rfl) rfl rfl ?_
  refine At.opsNil ?_
  refine At.norm (hk_7 ?_)
  refine At.seq fun K8 hk_8 => ?_
  refine At.region ?_
  refine op_move (nxlf rfl) rfl rfl ?_
  refine At.opsNil ?_
  refine At.norm (hk_8 ?_)
  refine At.condF rfl ?_
  refine At.skip ?_
  refine At.norm (hk_6 ?_)
  refine At.seq fun K9 hk_9 => ?_
  refine At.region ?_
  refine op_move (nxlf rfl) rfl rfl ?_
  refine op_assert1 (nxlf rfl) (by kernel_rfl) rfl rfl ?_
  refine op_append0 (nxla rfl) Try.underlying22 Try.underlying84 te5 rfl rfl (by assumption) (by first | exact mem0 | exact mem1 | exact mem2 | exact mem3 | exact mem4 | exact mem5 | exact mem6 | exact mem7 | exact mem8 | exact mem9) (by first | exact one_u8s _ | exact one_u64s _ | exact one_u32s _ | (intro u hu; simp at hu; subst hu; rfl)) (by omega) (by omega) rfl (fun N30 a30 p30 r30 => ?_)
  have s30 := r30.rsl
  refine op_move (nxlf rfl) rfl rfl ?_
  refine op_assign (nxlf rfl) rfl rfl ?_
  refine op_assign (nxlf rfl) rfl rfl ?_
  refine op_assign (nxlf rfl) rfl rfl ?_
  refine op_assign (nxlf rfl) rfl rfl ?_
  refine At.opsNil ?_
  refine At.norm (hk_9 ?_)
  refine At.ret (?_)
  refine At.retN (L1 := [N30, N18]) rfl (.tmp rfl (.tmp rfl (.tmp rfl (.tmp rfl .nil)))) rfl (.refl _) (.refl _) ?_
  exact ⟨_, _, _, _, _, _, rfl, rfl, r30, r18⟩
theorem Split_f {N : Heaplet} {ao : Option Addr} {n cap : Nat} {b : List UInt8} (h : RSl N 1 ao n cap (u8s b)) (hn : n ≤ 1099511627776) :
    Fn Try.prog 23 #[.slice ao n cap] [] [N] (fun v L => (cutF b = none ∧ v = .tuple #[.bool false, .slice none 0 0, .slice none 0 0, .int .i64 2] ∧ L = []) ∨
      ∃ M1 M2 l p q a1 c1 a2 c2, cutF b = some (l, p, q) ∧ v = .tuple #[.bool l, .slice a1 p.length c1, .slice a2 q.length c2, .int .i64 0] ∧ L = [M1, M2] ∧ Row M1 5 1 a1 p.length c1 (u8s p) ∧ Row M2 5 1 a2 q.length c2 (u8s q)) := by
  match hc : cutF b with
  | none => exact (Split_none h hn hc).mono fun v L hp => .inl ⟨rfl, hp⟩
  | some (false, p, q) => exact (Split_text h hn hc).mono fun v L ⟨M1, M2, a1, c1, a2, c2, hp⟩ => .inr ⟨M1, M2, false, p, q, a1, c1, a2, c2, rfl, hp⟩
  | some (true, p, q) => exact (Split_list h hn hc).mono fun v L ⟨M1, M2, a1, c1, a2, c2, hp⟩ => .inr ⟨M1, M2, true, p, q, a1, c1, a2, c2, rfl, hp⟩
/-- What the reference's Split tells. -/
def SplV (N : Heaplet) (r : Option (Bool × List UInt8 × List UInt8)) (v : Value) : Prop := match r with
  | none => v = .tuple #[.bool false, .slice none 0 0, .slice none 0 0, .int .i64 2]
  | some (isL, p, q) => ∃ a1 c1 a2 c2, v = .tuple #[.bool isL, .slice a1 p.length c1, .slice a2 q.length c2, .int .i64 0] ∧ RSl N 1 a1 p.length c1 (u8s p) ∧ RSl N 1 a2 q.length c2 (u8s q)
theorem splv_mk {N : Heaplet} {isL l : Bool} {p q : List UInt8} {a1 a2 : Option Addr} {n1 n2 c1 c2 : Nat} (hl : l = isL) (h1 : RSl N 1 a1 n1 c1 (u8s p)) (h2 : RSl N 1 a2 n2 c2 (u8s q)) : SplV N (some (isL, p, q)) (.tuple #[.bool l, .slice a1 n1 c1, .slice a2 n2 c2, .int .i64 0]) := by
  have e1 := h1.len8
  have e2 := h2.len8
  subst e1; subst e2; subst hl
  exact ⟨a1, c1, a2, c2, rfl, h1, h2⟩
theorem u64_of {n : Nat} (h : n < 18446744073709551616) : (UInt64.ofNat n).toNat = n := by rw [UInt64.toNat_ofNat']; exact Nat.mod_eq_of_lt h
theorem rSplit_f {N : Heaplet} {ao : Option Addr} {n cap : Nat} {b : List UInt8} (h : RSl N 1 ao n cap (u8s b)) (hn : n ≤ 1099511627776) :
    Fn Try.prog 24 #[.slice ao n cap] [] [N] (fun v L => L = [] ∧ ∀ M : Heaplet, RSl M 1 ao n cap (u8s b) → SplV M (cutF b) v) := by
  have hlen := h.len8
  have hcap := h.cap63
  refine Fn.enter (vs := [.slice ao n cap]) Try.func24 rfl rfl rfl ?_
  intro E R hR
  have h := h.le (hR N (by simp))
  have hb0 := (b.getD 0 0).toNat_lt
  have hd : hdr b = ((b.getD 0 0).toNat - 128) % 64 := rfl
  change At _ _ E [R] _
  refine At.seq fun K1 hk_1 => ?_
  refine At.region ?_
  refine op_assign (nxlf rfl) rfl rfl ?_
  refine op_assign (nxlf rfl) rfl rfl ?_
  refine op_assign (nxlf rfl) rfl rfl ?_
  refine op_assign (nxlf rfl) rfl rfl ?_
  refine At.opsNil ?_
  refine At.norm (hk_1 ?_)
  refine At.seq fun K2 hk_2 => ?_
  refine At.seq fun K3 hk_3 => ?_
  refine At.region ?_
  refine op_move (nxlf rfl) rfl rfl ?_
  refine op_lenS (nxlf rfl) se22 rfl rfl ?_
  refine op_eql (nxlf rfl) rfl rfl rfl ?_
  refine At.opsNil ?_
  refine At.norm (hk_3 ?_)
  refine At.condP rfl (fun c14 => ?_) (fun c14 => ?_)
  · refine At.seq fun K4 hk_4 => ?_
    refine At.region ?_
    refine op_assign (nxlf rfl) rfl rfl ?_
    refine op_assign (nxlf rfl) rfl rfl ?_
    refine op_assign (nxlf rfl) rfl rfl ?_
    refine op_assign (nxlf rfl) rfl rfl ?_
    refine At.opsNil ?_
    refine At.norm (hk_4 ?_)
    refine At.ret (At.thenRet (?_))
    refine At.retN (L1 := []) rfl (.tmp rfl (.tmp rfl (.tmp rfl (.tmp rfl .nil)))) rfl (.refl _) (.refl _) ?_
    exact ⟨rfl, fun M hM => by rw [cutF, if_pos (by omega)]; rfl⟩
  · refine At.skip ?_
    refine At.norm (hk_2 ?_)
    refine At.seq fun K5 hk_5 => ?_
    refine At.region ?_
    refine op_move (nxlf rfl) rfl rfl ?_
    refine op_idx1 (nxlf rfl) se22 rfl rfl (by assumption) (show _ = ((0 : Nat) : Int) from rfl) (by omega) rfl ?_
    refine op_loadE (nxlf rfl) sc5 rfl (by assumption) (by first | exact get8 (by omega) | exact get64 (by omega) | exact get32 (by omega)) (by first | exact mem0 | exact mem1 | exact mem2 | exact mem3 | exact mem4 | exact mem5 | exact mem6 | exact mem7 | exact mem8 | exact mem9) rfl ?_
    refine op_convI (nxlf rfl) (und_some Try.underlying5) Try.underlying3 rfl (by omega) (by omega) rfl ?_
    refine op_assign (nxlf rfl) rfl rfl ?_
    refine At.opsNil ?_
    refine At.norm (hk_5 ?_)
    refine At.seq fun K6 hk_6 => ?_
    refine At.seq fun K7 hk_7 => ?_
    refine At.region ?_
    refine op_move (nxlf rfl) rfl rfl ?_
    refine op_lss (nxlf rfl) rfl rfl rfl ?_
    refine At.opsNil ?_
    refine At.norm (hk_7 ?_)
    refine At.condP rfl (fun c20 => ?_) (fun c20 => ?_)
    · refine At.seq fun K8 hk_8 => ?_
      refine At.drawn [] [0,1,2,3,4,5,6,7] (by kernel_rfl) (by kernel_rfl) ?_
      refine op_move (nxof rfl rfl rfl (by kernel_rfl)) rfl rfl ?_
      refine op_slice0 (nxof rfl rfl rfl (by kernel_rfl)) se22 rfl (.some rfl (show _ = ((1 : Nat) : Int) from rfl)) .none (by omega) (by omega) (by simp) rfl ?_
      refine op_move (nxof rfl rfl rfl (by kernel_rfl)) rfl rfl ?_
      refine op_slice (nxof rfl rfl rfl (by kernel_rfl)) se22 rfl (.some rfl (show _ = ((1 : Nat) : Int) from rfl)) .none .none (by omega) (by omega) (by omega) (by simp) rfl ?_
      refine op_assign (nxof rfl rfl rfl (by kernel_rfl)) rfl rfl ?_
      refine op_assign (nxof rfl rfl rfl (by kernel_rfl)) rfl rfl ?_
      refine op_assign (nxof rfl rfl rfl (by kernel_rfl)) rfl rfl ?_
      refine op_assign (nxof rfl rfl rfl (by kernel_rfl)) rfl rfl ?_
      refine At.oneNil ?_
      refine At.norm (hk_8 ?_)
      refine At.ret (At.thenRet (?_))
      refine At.retN (L1 := []) rfl (.tmp rfl (.tmp rfl (.tmp rfl (.tmp rfl .nil)))) rfl (.refl _) (.refl _) ?_
      refine ⟨rfl, fun M hM => ?_⟩
      rw [cutF, if_neg (by omega), if_pos (by omega)]
      exact splv_mk rfl (hM.take8 (by omega) (by omega) (by omega)) (hM.drop8 (by omega))
    · refine At.skip ?_
      refine At.norm (hk_6 ?_)
      refine At.seq fun K9 hk_9 => ?_
      refine At.region ?_
      refine op_move (nxlf rfl) rfl rfl ?_
      refine op_geq (nxlf rfl) rfl rfl rfl ?_
      refine op_assign (nxlf rfl) rfl rfl ?_
      refine At.opsNil ?_
      refine At.norm (hk_9 ?_)
      refine At.seq fun K10 hk_10 => ?_
      refine At.region ?_
      refine op_move (nxlf rfl) rfl rfl ?_
      refine op_subI (nxlf rfl) rfl rfl (by omega) (by omega) rfl ?_
      refine op_rem (nxlf rfl) rfl rfl (by omega) (by omega) rfl ?_
      refine op_assign (nxlf rfl) rfl rfl ?_
      refine At.opsNil ?_
      refine At.norm (hk_10 ?_)
      refine At.seq fun K11 hk_11 => ?_
      refine At.region ?_
      refine op_assign (nxlf rfl) rfl rfl ?_
      refine At.opsNil ?_
      refine At.norm (hk_11 ?_)
      refine At.seq fun K12 hk_12 => ?_
      refine At.region ?_
      refine op_move (nxlf rfl) rfl rfl ?_
      refine op_conv64 (nxlf rfl) (und_some Try.underlying3) Try.underlying64 rfl (show _ = (((hdr b : Nat)) : Int) from by omega) rfl ?_
      refine op_assign (nxlf rfl) rfl rfl ?_
      refine At.opsNil ?_
      refine At.norm (hk_12 ?_)
      refine At.seq fun K13 hk_13 => ?_
      refine At.meet (fun fr_ hp_ => ∃ (i : Nat) (m : UInt64), fr_ = [(0, .slice ao n cap), (7, .bool (decide (192 ≤ ((b.getD 0 0).toNat : Int)))), (8, .int .i64 (i : Int)), (9, .int .u64 (m.toNat : Int))] ∧ hp_ = [R] ∧ (i ≤ n) ∧ (1 ≤ i) ∧ (cutF b = cutAt b i m.toNat)) ?_ (fun K13_ jk_13 => ?_)
      rotate_left
      · skip
        refine At.seq fun K14 hk_14 => ?_
        refine At.region ?_
        refine op_move (nxlf rfl) rfl rfl ?_
        refine op_gtr (nxlf rfl) rfl rfl rfl ?_
        refine At.opsNil ?_
        refine At.norm (hk_14 ?_)
        refine At.condP rfl (fun c33 => ?_) (fun c33 => ?_)
        · refine At.seq fun K15 hk_15 => ?_
          refine At.region ?_
          refine op_move (nxlf rfl) rfl rfl ?_
          refine op_subI (nxlf rfl) rfl rfl (by omega) (by omega) rfl ?_
          refine op_assign (nxlf rfl) rfl rfl ?_
          refine At.opsNil ?_
          refine At.norm (hk_15 ?_)
          refine At.seq fun K16 hk_16 => ?_
          refine At.seq fun K17 hk_17 => ?_
          refine At.region ?_
          refine op_move (nxlf rfl) rfl rfl ?_
          refine op_lenS (nxlf rfl) se22 rfl rfl ?_
          refine op_move (nxlf rfl) rfl rfl ?_
          refine op_lss (nxlf rfl) rfl rfl rfl ?_
          refine op_move (nxlf rfl) rfl rfl ?_
          refine At.partP (d := 40) rfl (fun g40 => ?_) (fun g40 => ?_)
          · refine op_skip rfl rfl rfl rfl rfl rfl rfl ?_
            refine op_skip rfl rfl rfl rfl rfl rfl rfl ?_
            refine op_skip rfl rfl rfl rfl rfl rfl rfl ?_
            refine op_skip rfl rfl rfl rfl rfl rfl rfl ?_
            refine op_pickT (nxlf rfl) rfl rfl rfl ?_
            refine At.opsNil ?_
            refine At.norm (hk_17 ?_)
            refine At.condT rfl ?_
            refine At.seq fun K18 hk_18 => ?_
            refine At.region ?_
            refine op_assign (nxlf rfl) rfl rfl ?_
            refine op_assign (nxlf rfl) rfl rfl ?_
            refine op_assign (nxlf rfl) rfl rfl ?_
            refine op_assign (nxlf rfl) rfl rfl ?_
            refine At.opsNil ?_
            refine At.norm (hk_18 ?_)
            refine At.ret (At.thenRet (At.thenRet (?_)))
            refine At.retN (L1 := []) rfl (.tmp rfl (.tmp rfl (.tmp rfl (.tmp rfl .nil)))) rfl (.refl _) (.refl _) ?_
            exact ⟨rfl, fun M hM => by rw [cutF, if_neg (by omega), if_neg (by omega), if_neg (by omega), if_pos (.inl (by omega))]; rfl⟩
          · refine op_move (nxgf rfl rfl rfl rfl) rfl rfl ?_
            refine op_idx1 (nxgf rfl rfl rfl rfl) se22 rfl rfl (by assumption) (show _ = ((1 : Nat) : Int) from rfl) (by omega) rfl ?_
            refine op_loadE (nxgf rfl rfl rfl rfl) sc5 rfl (by assumption) (by first | exact get8 (by omega) | exact get64 (by omega) | exact get32 (by omega)) (by first | exact mem0 | exact mem1 | exact mem2 | exact mem3 | exact mem4 | exact mem5 | exact mem6 | exact mem7 | exact mem8 | exact mem9) rfl ?_
            refine op_eql (nxgf rfl rfl rfl rfl) rfl rfl rfl ?_
            refine op_pickF (nxlf rfl) rfl rfl rfl ?_
            refine At.opsNil ?_
            refine At.norm (hk_17 ?_)
            refine At.condP rfl (fun c45 => ?_) (fun c45 => ?_)
            · refine At.seq fun K19 hk_19 => ?_
              refine At.region ?_
              refine op_assign (nxlf rfl) rfl rfl ?_
              refine op_assign (nxlf rfl) rfl rfl ?_
              refine op_assign (nxlf rfl) rfl rfl ?_
              refine op_assign (nxlf rfl) rfl rfl ?_
              refine At.opsNil ?_
              refine At.norm (hk_19 ?_)
              refine At.ret (At.thenRet (At.thenRet (?_)))
              refine At.retN (L1 := []) rfl (.tmp rfl (.tmp rfl (.tmp rfl (.tmp rfl .nil)))) rfl (.refl _) (.refl _) ?_
              exact ⟨rfl, fun M hM => by rw [cutF, if_neg (by omega), if_neg (by omega), if_neg (by omega), if_pos (.inr (by omega))]; rfl⟩
            · refine At.skip ?_
              refine At.norm (hk_16 ?_)
              refine At.seq fun K20 hk_20 => ?_
              refine At.region ?_
              refine op_move (nxlf rfl) rfl rfl ?_
              refine op_move (nxlf rfl) rfl rfl ?_
              refine op_slice (nxlf rfl) se22 rfl (.some rfl (show _ = ((1 : Nat) : Int) from rfl)) (.some rfl (show _ = (((hdr b - 54 : Nat)) : Int) from by omega)) .none (by omega) (by omega) (by omega) (by simp) rfl ?_
              refine op_callA (nxla rfl) (.cons rfl .nil) (rFrom_f (h.part8 (lo := 1) (hi := hdr b - 54) (m := cap) (by omega) (by omega) (by omega) (by omega)) (by omega)) Try.func40 rfl rfl (by simp) rfl ?_
              rintro v49 L49 ⟨M49, a49, c49, rfl, rfl, s49⟩
              change At _ _ _ [M49, R] _
              have hl := lng_pos (b := b) (by omega) (by omega) (by omega)
              change RSl M49 1 a49 (digsOf (lng b)).length c49 (u32s (digsOf (lng b))) at s49
              change At _ ((49, .slice a49 (digsOf (lng b)).length c49) :: _) _ [M49, R] _
              refine op_assign (nxlf rfl) rfl rfl ?_
              refine At.opsNil ?_
              refine At.norm (hk_20 ?_)
              refine At.seq fun K21 hk_21 => ?_
              refine At.seq fun K22 hk_22 => ?_
              refine At.region ?_
              refine op_move (nxlf rfl) rfl rfl ?_
              refine op_callA (nxla rfl) (.cons rfl .nil) (Of32_f 55) Try.func42 rfl rfl (by simp) rfl ?_
              rintro v51 L51 ⟨M51, a51, c51, rfl, rfl, s51⟩
              change At _ _ _ [M51, M49, R] _
              refine op_callA (nxla rfl) (.cons rfl (.cons rfl .nil)) (Cmp32_f s49 s51) Try.func41 rfl rfl (by simp) rfl ?_
              rintro v52 L52 ⟨rfl, rfl⟩
              change At _ _ _ [M51, M49, R] _
              have q52 := @cmpI_le (lng b) 55
              change At _ ((52, .int .i64 (cmpI (lng b) 55)) :: _) _ _ _
              refine op_leq (nxlf rfl) rfl rfl rfl ?_
              refine op_move (nxlf rfl) rfl rfl ?_
              refine At.partP (d := 54) rfl (fun g54 => ?_) (fun g54 => ?_)
              · refine op_skip rfl rfl rfl rfl rfl rfl rfl ?_
                refine op_skip rfl rfl rfl rfl rfl rfl rfl ?_
                refine op_skip rfl rfl rfl rfl rfl rfl rfl ?_
                refine op_skip rfl rfl rfl rfl rfl rfl rfl ?_
                refine op_pickT (nxlf rfl) rfl rfl rfl ?_
                refine At.opsNil ?_
                refine At.norm (hk_22 ?_)
                refine At.condT rfl ?_
                refine At.seq fun K23 hk_23 => ?_
                refine At.region ?_
                refine op_assign (nxlf rfl) rfl rfl ?_
                refine op_assign (nxlf rfl) rfl rfl ?_
                refine op_assign (nxlf rfl) rfl rfl ?_
                refine op_assign (nxlf rfl) rfl rfl ?_
                refine At.opsNil ?_
                refine At.norm (hk_23 ?_)
                refine At.ret (At.thenRet (At.thenRet (?_)))
                refine At.sub (L' := [R]) (.cons _ (.cons _ (.cons_cons _ (.slnil)))) ?_
                refine At.retN (L1 := []) rfl (.tmp rfl (.tmp rfl (.tmp rfl (.tmp rfl .nil)))) rfl (.refl _) (.refl _) ?_
                exact ⟨rfl, fun M hM => by rw [cutF, if_neg (by omega), if_neg (by omega), if_neg (by omega), if_neg (by omega), if_pos (.inl (by omega))]; rfl⟩
              · refine op_move (nxgf rfl rfl rfl rfl) rfl rfl ?_
                refine op_callA (nxga rfl rfl rfl rfl) (.cons rfl .nil) (Of32_f 1099511627776) Try.func42 rfl rfl (by simp) rfl ?_
                rintro v56 L56 ⟨M56, a56, c56, rfl, rfl, s56⟩
                change At _ _ _ [M56, M51, M49, R] _
                refine op_callA (nxga rfl rfl rfl rfl) (.cons rfl (.cons rfl .nil)) (Cmp32_f s49 s56) Try.func41 rfl rfl (by simp) rfl ?_
                rintro v57 L57 ⟨rfl, rfl⟩
                change At _ _ _ [M56, M51, M49, R] _
                have q57 := @cmpI_le (lng b) 1099511627776
                change At _ ((57, .int .i64 (cmpI (lng b) 1099511627776)) :: _) _ _ _
                refine op_gtr (nxgf rfl rfl rfl rfl) rfl rfl rfl ?_
                refine op_pickF (nxlf rfl) rfl rfl rfl ?_
                refine At.opsNil ?_
                refine At.norm (hk_22 ?_)
                refine At.condP rfl (fun c59 => ?_) (fun c59 => ?_)
                · refine At.seq fun K24 hk_24 => ?_
                  refine At.region ?_
                  refine op_assign (nxlf rfl) rfl rfl ?_
                  refine op_assign (nxlf rfl) rfl rfl ?_
                  refine op_assign (nxlf rfl) rfl rfl ?_
                  refine op_assign (nxlf rfl) rfl rfl ?_
                  refine At.opsNil ?_
                  refine At.norm (hk_24 ?_)
                  refine At.ret (At.thenRet (At.thenRet (?_)))
                  refine At.sub (L' := [R]) (.cons _ (.cons _ (.cons _ (.cons_cons _ (.slnil))))) ?_
                  refine At.retN (L1 := []) rfl (.tmp rfl (.tmp rfl (.tmp rfl (.tmp rfl .nil)))) rfl (.refl _) (.refl _) ?_
                  exact ⟨rfl, fun M hM => by rw [cutF, if_neg (by omega), if_neg (by omega), if_neg (by omega), if_neg (by omega), if_pos (.inr (by omega))]; rfl⟩
                · refine At.skip ?_
                  refine At.norm (hk_21 ?_)
                  refine At.region ?_
                  refine op_move (nxlf rfl) rfl rfl ?_
                  refine op_callA (nxla rfl) (.cons rfl .nil) (rW_f s49) Try.func43 rfl rfl (by simp) rfl ?_
                  rintro v61 L61 ⟨rfl, wa, wb, wc, wd, rfl, hw⟩
                  change At _ _ _ [M56, M51, M49, R] _
                  rw [v32_digsOf, Nat.mod_eq_of_lt (Nat.lt_trans hl.2 (by decide))] at hw
                  have hwa : wa.toNat = lng b := by
                    have e := limb_v64 (a := [wa, wb, wc, wd]) (i := 0) (by simp)
                    rw [hw, Nat.mul_zero, Nat.pow_zero, Nat.div_one, Nat.mod_eq_of_lt hl.2] at e
                    exact e.symm
                  refine op_idxV (nxlf rfl) ae66 sc64 rfl rfl (show _ = ((0 : Nat) : Int) from rfl) (by omega) rfl rfl ?_
                  refine op_assign (nxlf rfl) rfl rfl ?_
                  refine At.opsNil ?_
                  refine At.sub (L' := [R]) (.cons _ (.cons _ (.cons _ (.cons_cons _ (.slnil))))) ?_
                  refine At.norm (jk_13 ?_ (.refl _) ⟨hdr b - 54, wa, rfl, rfl, by omega, by omega, by (rw [hwa, cutF, if_neg (by omega), if_neg (by omega), if_neg (by omega), if_neg (by omega)]; by_cases hbl : b.length < lng b; (rw [if_pos (.inr hbl), cutAt, if_pos (by omega)]); (rw [if_neg (by omega)]))⟩)
                  exact .cons (by first | exact lkI rfl (by omega) | rfl) (.cons (by first | exact lkI rfl (by omega) | rfl) (.cons (by first | exact lkI rfl (by omega) | rfl) (.cons (by first | exact lkI rfl (by omega) | rfl) .nil)))
        · refine At.skip ?_
          refine At.norm (jk_13 ?_ (.refl _) ⟨1, UInt64.ofNat (hdr b), rfl, rfl, by omega, by omega, by rw [u64_of (by omega), cutF, if_neg (by omega), if_neg (by omega), if_pos (by omega)]⟩)
          exact .cons (by first | exact lkI rfl (by omega) | rfl) (.cons (by first | exact lkI rfl (by omega) | rfl) (.cons (by first | exact lkI rfl (by omega) | rfl) (.cons (by first | exact lkI rfl (by omega) | rfl) .nil)))
      rintro _ _ ⟨i, m, rfl, rfl, hi, hi0, hc⟩
      have hni := u64_of (n := n - i) (by omega)
      refine hk_13 ?_
      refine At.seq fun K25 hk_25 => ?_
      refine At.seq fun K26 hk_26 => ?_
      refine At.region ?_
      refine op_move (nxlf rfl) rfl rfl ?_
      refine op_move (nxlf rfl) rfl rfl ?_
      refine op_lenS (nxlf rfl) se22 rfl rfl ?_
      refine op_move (nxlf rfl) rfl rfl ?_
      refine op_subI (nxlf rfl) rfl rfl (by omega) (by omega) rfl ?_
      refine op_conv64 (nxlf rfl) (und_some Try.underlying3) Try.underlying64 rfl (show _ = (((n - i : Nat)) : Int) from by omega) rfl ?_
      refine op_gtr (nxlf rfl) rfl rfl rfl ?_
      refine At.opsNil ?_
      refine At.norm (hk_26 ?_)
      refine At.condP rfl (fun c69 => ?_) (fun c69 => ?_)
      · refine At.seq fun K27 hk_27 => ?_
        refine At.region ?_
        refine op_assign (nxlf rfl) rfl rfl ?_
        refine op_assign (nxlf rfl) rfl rfl ?_
        refine op_assign (nxlf rfl) rfl rfl ?_
        refine op_assign (nxlf rfl) rfl rfl ?_
        refine At.opsNil ?_
        refine At.norm (hk_27 ?_)
        refine At.ret (At.thenRet (?_))
        refine At.retN (L1 := []) rfl (.tmp rfl (.tmp rfl (.tmp rfl (.tmp rfl .nil)))) rfl (.refl _) (.refl _) ?_
        exact ⟨rfl, fun M hM => by rw [hc, cutAt, if_pos (by omega)]; rfl⟩
      · refine At.skip ?_
        refine At.norm (hk_25 ?_)
        refine At.seq fun K28 hk_28 => ?_
        refine At.region ?_
        refine op_move (nxlf rfl) rfl rfl ?_
        refine op_move (nxlf rfl) rfl rfl ?_
        refine op_move (nxlf rfl) rfl rfl ?_
        refine op_move (nxlf rfl) rfl rfl ?_
        refine op_convI (nxlf rfl) (und_some Try.underlying64) Try.underlying3 rfl (by omega) (by omega) rfl ?_
        refine op_addI (nxlf rfl) rfl rfl (by omega) (by omega) rfl ?_
        refine op_slice (nxlf rfl) se22 rfl (.some rfl (show _ = (((i : Nat)) : Int) from by omega)) (.some rfl (show _ = (((i + m.toNat : Nat)) : Int) from by omega)) .none (by omega) (by omega) (by omega) (by simp) rfl ?_
        have s76 := h.part8 (lo := i) (hi := i + m.toNat) (m := cap) (by omega) (by omega) (by omega) (by omega)
        have l76 := s76.len8
        refine op_assign (nxlf rfl) rfl rfl ?_
        refine At.opsNil ?_
        refine At.norm (hk_28 ?_)
        refine At.seq fun K29 hk_29 => ?_
        refine At.seq fun K30 hk_30 => ?_
        refine At.region ?_
        refine op_move (nxlf rfl) rfl rfl ?_
        refine op_notP (nxlf rfl) rfl rfl ?_
        refine op_move (nxlf rfl) rfl rfl ?_
        refine At.partP (d := 79) rfl (fun g79 => ?_) (fun g79 => ?_)
        · refine op_move (nxgf rfl rfl rfl rfl) rfl rfl ?_
          refine op_eql (nxgf rfl rfl rfl rfl) rfl rfl rfl ?_
          refine op_pickT (nxlf rfl) rfl rfl rfl ?_
          refine op_move (nxlf rfl) rfl rfl ?_
          refine At.partP (d := 83) rfl (fun g83 => ?_) (fun g83 => ?_)
          · refine op_move (nxgf rfl rfl rfl rfl) rfl rfl ?_
            refine op_idx1 (nxgf rfl rfl rfl rfl) se22 rfl rfl (by assumption) (show _ = ((0 : Nat) : Int) from rfl) (by omega) rfl ?_
            refine op_loadE (nxgf rfl rfl rfl rfl) sc5 rfl (by assumption) (by first | exact get8 (by omega) | exact get64 (by omega) | exact get32 (by omega)) (by first | exact mem0 | exact mem1 | exact mem2 | exact mem3 | exact mem4 | exact mem5 | exact mem6 | exact mem7 | exact mem8 | exact mem9) rfl ?_
            refine op_lss (nxgf rfl rfl rfl rfl) rfl rfl rfl ?_
            refine op_pickT (nxlf rfl) rfl rfl rfl ?_
            refine At.opsNil ?_
            refine At.norm (hk_30 ?_)
            refine At.condP rfl (fun c88 => ?_) (fun c88 => ?_)
            · refine At.seq fun K31 hk_31 => ?_
              refine At.region ?_
              refine op_assign (nxlf rfl) rfl rfl ?_
              refine op_assign (nxlf rfl) rfl rfl ?_
              refine op_assign (nxlf rfl) rfl rfl ?_
              refine op_assign (nxlf rfl) rfl rfl ?_
              refine At.opsNil ?_
              refine At.norm (hk_31 ?_)
              refine At.ret (At.thenRet (?_))
              refine At.retN (L1 := []) rfl (.tmp rfl (.tmp rfl (.tmp rfl (.tmp rfl .nil)))) rfl (.refl _) (.refl _) ?_
              exact ⟨rfl, fun M hM => by rw [hc, cutAt, if_neg (by omega), if_neg (by omega), if_pos ⟨by omega, by rw [getD_part (by omega)] at c88; omega⟩]; rfl⟩
            · refine At.skip ?_
              refine At.norm (hk_29 ?_)
              refine At.seq fun K32 hk_32 => ?_
              refine At.drawn [] [0,1,2,3,4,5,6,7,8,9,10,11] (by kernel_rfl) (by kernel_rfl) ?_
              refine op_move (nxof rfl rfl rfl (by kernel_rfl)) rfl rfl ?_
              refine op_move (nxof rfl rfl rfl (by kernel_rfl)) rfl rfl ?_
              refine op_move (nxof rfl rfl rfl (by kernel_rfl)) rfl rfl ?_
              refine op_move (nxof rfl rfl rfl (by kernel_rfl)) rfl rfl ?_
              refine op_move (nxof rfl rfl rfl (by kernel_rfl)) rfl rfl ?_
              refine op_convI (nxof rfl rfl rfl (by kernel_rfl)) (und_some Try.underlying64) Try.underlying3 rfl (by omega) (by omega) rfl ?_
              refine op_addI (nxof rfl rfl rfl (by kernel_rfl)) rfl rfl (by omega) (by omega) rfl ?_
              refine op_slice (nxof rfl rfl rfl (by kernel_rfl)) se22 rfl (.some rfl (show _ = (((i + m.toNat : Nat)) : Int) from by omega)) .none .none (by omega) (by omega) (by omega) (by simp) rfl ?_
              refine op_assign (nxof rfl rfl rfl (by kernel_rfl)) rfl rfl ?_
              refine op_assign (nxof rfl rfl rfl (by kernel_rfl)) rfl rfl ?_
              refine op_assign (nxof rfl rfl rfl (by kernel_rfl)) rfl rfl ?_
              refine op_assign (nxof rfl rfl rfl (by kernel_rfl)) rfl rfl ?_
              refine At.oneNil ?_
              refine At.norm (hk_32 ?_)
              refine At.ret (?_)
              refine At.retN (L1 := []) rfl (.tmp rfl (.tmp rfl (.tmp rfl (.tmp rfl .nil)))) rfl (.refl _) (.refl _) ?_
              refine ⟨rfl, fun M hM => ?_⟩
              rw [getD_part (by omega)] at c88
              rw [hc, cutAt, if_neg (by omega), if_neg (by omega), if_neg (by omega)]
              have e := hM.part8 (lo := i) (hi := i + m.toNat) (m := cap) (by omega) (by omega) (by omega) (by omega)
              rw [show i + m.toNat - i = m.toNat by omega] at e ⊢
              exact splv_mk (decide_eq_false (by omega)) e (hM.drop8 (by omega))
          · refine op_skip rfl rfl rfl rfl rfl rfl rfl ?_
            refine op_skip rfl rfl rfl rfl rfl rfl rfl ?_
            refine op_skip rfl rfl rfl rfl rfl rfl rfl ?_
            refine op_skip rfl rfl rfl rfl rfl rfl rfl ?_
            refine op_pickF (nxlf rfl) rfl rfl rfl ?_
            refine At.opsNil ?_
            refine At.norm (hk_30 ?_)
            refine At.condF rfl ?_
            refine At.skip ?_
            refine At.norm (hk_29 ?_)
            refine At.seq fun K33 hk_33 => ?_
            refine At.drawn [] [0,1,2,3,4,5,6,7,8,9,10,11] (by kernel_rfl) (by kernel_rfl) ?_
            refine op_move (nxof rfl rfl rfl (by kernel_rfl)) rfl rfl ?_
            refine op_move (nxof rfl rfl rfl (by kernel_rfl)) rfl rfl ?_
            refine op_move (nxof rfl rfl rfl (by kernel_rfl)) rfl rfl ?_
            refine op_move (nxof rfl rfl rfl (by kernel_rfl)) rfl rfl ?_
            refine op_move (nxof rfl rfl rfl (by kernel_rfl)) rfl rfl ?_
            refine op_convI (nxof rfl rfl rfl (by kernel_rfl)) (und_some Try.underlying64) Try.underlying3 rfl (by omega) (by omega) rfl ?_
            refine op_addI (nxof rfl rfl rfl (by kernel_rfl)) rfl rfl (by omega) (by omega) rfl ?_
            refine op_slice (nxof rfl rfl rfl (by kernel_rfl)) se22 rfl (.some rfl (show _ = (((i + m.toNat : Nat)) : Int) from by omega)) .none .none (by omega) (by omega) (by omega) (by simp) rfl ?_
            refine op_assign (nxof rfl rfl rfl (by kernel_rfl)) rfl rfl ?_
            refine op_assign (nxof rfl rfl rfl (by kernel_rfl)) rfl rfl ?_
            refine op_assign (nxof rfl rfl rfl (by kernel_rfl)) rfl rfl ?_
            refine op_assign (nxof rfl rfl rfl (by kernel_rfl)) rfl rfl ?_
            refine At.oneNil ?_
            refine At.norm (hk_33 ?_)
            refine At.ret (?_)
            refine At.retN (L1 := []) rfl (.tmp rfl (.tmp rfl (.tmp rfl (.tmp rfl .nil)))) rfl (.refl _) (.refl _) ?_
            refine ⟨rfl, fun M hM => ?_⟩
            rw [hc, cutAt, if_neg (by omega), if_neg (by omega), if_neg (by omega)]
            have e := hM.part8 (lo := i) (hi := i + m.toNat) (m := cap) (by omega) (by omega) (by omega) (by omega)
            rw [show i + m.toNat - i = m.toNat by omega] at e ⊢
            exact splv_mk (decide_eq_false (by omega)) e (hM.drop8 (by omega))
        · refine op_skip rfl rfl rfl rfl rfl rfl rfl ?_
          refine op_skip rfl rfl rfl rfl rfl rfl rfl ?_
          refine op_pickF (nxlf rfl) rfl rfl rfl ?_
          refine op_move (nxlf rfl) rfl rfl ?_
          refine op_skip rfl rfl rfl rfl rfl rfl rfl ?_
          refine op_skip rfl rfl rfl rfl rfl rfl rfl ?_
          refine op_skip rfl rfl rfl rfl rfl rfl rfl ?_
          refine op_skip rfl rfl rfl rfl rfl rfl rfl ?_
          refine op_pickF (nxlf rfl) rfl rfl rfl ?_
          refine At.opsNil ?_
          refine At.norm (hk_30 ?_)
          refine At.condF rfl ?_
          refine At.skip ?_
          refine At.norm (hk_29 ?_)
          refine At.seq fun K34 hk_34 => ?_
          refine At.drawn [] [0,1,2,3,4,5,6,7,8,9,10,11] (by kernel_rfl) (by kernel_rfl) ?_
          refine op_move (nxof rfl rfl rfl (by kernel_rfl)) rfl rfl ?_
          refine op_move (nxof rfl rfl rfl (by kernel_rfl)) rfl rfl ?_
          refine op_move (nxof rfl rfl rfl (by kernel_rfl)) rfl rfl ?_
          refine op_move (nxof rfl rfl rfl (by kernel_rfl)) rfl rfl ?_
          refine op_move (nxof rfl rfl rfl (by kernel_rfl)) rfl rfl ?_
          refine op_convI (nxof rfl rfl rfl (by kernel_rfl)) (und_some Try.underlying64) Try.underlying3 rfl (by omega) (by omega) rfl ?_
          refine op_addI (nxof rfl rfl rfl (by kernel_rfl)) rfl rfl (by omega) (by omega) rfl ?_
          refine op_slice (nxof rfl rfl rfl (by kernel_rfl)) se22 rfl (.some rfl (show _ = (((i + m.toNat : Nat)) : Int) from by omega)) .none .none (by omega) (by omega) (by omega) (by simp) rfl ?_
          refine op_assign (nxof rfl rfl rfl (by kernel_rfl)) rfl rfl ?_
          refine op_assign (nxof rfl rfl rfl (by kernel_rfl)) rfl rfl ?_
          refine op_assign (nxof rfl rfl rfl (by kernel_rfl)) rfl rfl ?_
          refine op_assign (nxof rfl rfl rfl (by kernel_rfl)) rfl rfl ?_
          refine At.oneNil ?_
          refine At.norm (hk_34 ?_)
          refine At.ret (?_)
          refine At.retN (L1 := []) rfl (.tmp rfl (.tmp rfl (.tmp rfl (.tmp rfl .nil)))) rfl (.refl _) (.refl _) ?_
          refine ⟨rfl, fun M hM => ?_⟩
          rw [hc, cutAt, if_neg (by omega), if_pos (by omega)]
          have e := hM.part8 (lo := i) (hi := i + m.toNat) (m := cap) (by omega) (by omega) (by omega) (by omega)
          rw [show i + m.toNat - i = m.toNat by omega] at e ⊢
          exact splv_mk (decide_eq_true (by omega)) e (hM.drop8 (by omega))
theorem rSplit_none {N : Heaplet} {ao : Option Addr} {n cap : Nat} {b : List UInt8} (h : RSl N 1 ao n cap (u8s b)) (hn : n ≤ 1099511627776) (hc : cutF b = none) :
    Fn Try.prog 24 #[.slice ao n cap] [] [N] (fun v L => v = .tuple #[.bool false, .slice none 0 0, .slice none 0 0, .int .i64 2] ∧ L = []) :=
  (rSplit_f h hn).mono fun v L ⟨h1, h2⟩ => ⟨by have := h2 N h; rw [hc] at this; exact this, h1⟩
theorem rSplit_some {N : Heaplet} {ao : Option Addr} {n cap : Nat} {b p q : List UInt8} {l : Bool} (h : RSl N 1 ao n cap (u8s b)) (hn : n ≤ 1099511627776) (hc : cutF b = some (l, p, q)) :
    Fn Try.prog 24 #[.slice ao n cap] [] [N] (fun v L => ∃ a1 c1 a2 c2, v = .tuple #[.bool l, .slice a1 p.length c1, .slice a2 q.length c2, .int .i64 0] ∧ L = [] ∧ RSl N 1 a1 p.length c1 (u8s p) ∧ ∀ M, RSl M 1 ao n cap (u8s b) → RSl M 1 a2 q.length c2 (u8s q)) :=
  (rSplit_f h hn).mono fun v L ⟨h1, h2⟩ => by
    have h3 := h2 N h
    rw [hc] at h3
    obtain ⟨a1, c1, a2, c2, rfl, h4, h5⟩ := h3
    refine ⟨a1, c1, a2, c2, rfl, h1, h4, fun M hM => ?_⟩
    have h6 := h2 M hM
    rw [hc] at h6
    obtain ⟨_, _, a2', c2', e, _, h7⟩ := h6
    simp only [Value.tuple.injEq, List.toArray_inj, Array.mk.injEq, List.cons.injEq, Value.slice.injEq, true_and, and_true] at e
    obtain ⟨_, rfl, rfl⟩ := e
    exact h7
theorem rSplit_g {N : Heaplet} {ao : Option Addr} {n cap : Nat} {b : List UInt8} (h : RSl N 1 ao n cap (u8s b)) (hn : n ≤ 1099511627776) :
    Fn Try.prog 24 #[.slice ao n cap] [] [N] (fun v L => (cutF b = none ∧ v = .tuple #[.bool false, .slice none 0 0, .slice none 0 0, .int .i64 2] ∧ L = []) ∨
      ∃ l p q a1 c1 a2 c2, cutF b = some (l, p, q) ∧ v = .tuple #[.bool l, .slice a1 p.length c1, .slice a2 q.length c2, .int .i64 0] ∧ L = [] ∧ RSl N 1 a1 p.length c1 (u8s p) ∧ RSl N 1 a2 q.length c2 (u8s q)) :=
  (rSplit_f h hn).mono fun v L ⟨h1, h2⟩ => by
    have h3 := h2 N h
    match hc : cutF b with
    | none => rw [hc] at h3; exact .inl ⟨rfl, h3, h1⟩
    | some (l, p, q) =>
      rw [hc] at h3
      obtain ⟨a1, c1, a2, c2, h4, h5, h6⟩ := h3
      exact .inr ⟨l, p, q, a1, c1, a2, c2, rfl, h4, h1, h5, h6⟩
theorem RlpSplit_f {N : Heaplet} {ao : Option Addr} {n cap : Nat} {b : List UInt8} (h : RSl N 1 ao n cap (u8s b)) :
    Fn Try.prog 7 #[.slice ao n cap] [] [N] (fun v L => v = .bool true ∧ L = []) := by
  have hlen := h.len8
  have hl5 : (b.take 3000).length ≤ 3000 := by rw [List.length_take]; omega
  refine Fn.enter (vs := [.slice ao n cap]) Try.func7 rfl rfl rfl ?_
  intro E R hR
  have h := h.le (hR N (by simp))
  have hnil : RSl R 1 none 0 0 (u8s []) := RSl.nil R 1
  change At _ _ E [R] _
  refine At.seq fun K1 hk_1 => ?_
  refine At.region ?_
  refine op_assign (nxlf rfl) rfl rfl ?_
  refine At.opsNil ?_
  refine At.norm (hk_1 ?_)
  refine At.seq fun K2 hk_2 => ?_
  refine At.region ?_
  refine op_move (nxlf rfl) rfl rfl ?_
  refine op_callA (nxla rfl) (.cons rfl (.cons rfl .nil)) (KTwin_f h 3000 3000 rfl (by decide)) Try.func16 rfl rfl (by simp) rfl ?_
  rintro v13 L13 ⟨M13, a13, p13, rfl, rfl, r13⟩
  change At _ _ _ [M13, R] _
  have s13 := r13.rsl
  refine op_assign (nxlf rfl) rfl rfl ?_
  refine At.opsNil ?_
  refine At.norm (hk_2 ?_)
  refine At.seq fun K3 hk_3 => ?_
  refine At.region ?_
  refine op_move (nxlf rfl) rfl rfl ?_
  refine op_callA (nxla rfl) (.cons rfl (.cons rfl .nil)) (KTwin_all s13 3000 3000 rfl (by decide) hl5) Try.func16 rfl rfl (by simp) rfl ?_
  rintro v16 L16 ⟨M16, a16, p16, rfl, rfl, r16⟩
  change At _ _ _ [M16, M13, R] _
  have s16 := r16.rsl
  refine op_callA (nxla rfl) (.cons rfl .nil) (Split_f s16 (by omega)) Try.func23 rfl rfl (by simp) rfl ?_
  rintro v17 L17 (⟨he, rfl, rfl⟩ | ⟨M17, W17, l, p, q, a17, c17, d17, e17, he, rfl, rfl, r17, t17⟩)
  · change At _ _ _ [M16, M13, R] _
    refine op_move (nxlf rfl) rfl rfl ?_
    refine op_extract (nxlf rfl) rfl rfl rfl ?_
    refine op_extract (nxlf rfl) rfl rfl rfl ?_
    refine op_extract (nxlf rfl) rfl rfl rfl ?_
    refine op_extract (nxlf rfl) rfl rfl rfl ?_
    refine op_assign (nxlf rfl) rfl rfl ?_
    refine op_assign (nxlf rfl) rfl rfl ?_
    refine op_assign (nxlf rfl) rfl rfl ?_
    refine op_assign (nxlf rfl) rfl rfl ?_
    refine At.opsNil ?_
    refine At.norm (hk_3 ?_)
    refine At.seq fun K4 hk_4 => ?_
    refine At.region ?_
    refine op_move (nxlf rfl) rfl rfl ?_
    refine op_callA (nxla rfl) (.cons rfl .nil) (rSplit_g s13 (by omega)) Try.func24 rfl rfl (by simp) rfl ?_
    rintro v24 L24 (⟨he2, rfl, rfl⟩ | ⟨l2, p2, q2, a24, c24, d24, e24, he2, rfl, rfl, s24, t24⟩)
    · change At _ _ _ [M16, M13, R] _
      refine op_move (nxlf rfl) rfl rfl ?_
      refine op_extract (nxlf rfl) rfl rfl rfl ?_
      refine op_extract (nxlf rfl) rfl rfl rfl ?_
      refine op_extract (nxlf rfl) rfl rfl rfl ?_
      refine op_extract (nxlf rfl) rfl rfl rfl ?_
      refine op_assign (nxlf rfl) rfl rfl ?_
      refine op_assign (nxlf rfl) rfl rfl ?_
      refine op_assign (nxlf rfl) rfl rfl ?_
      refine op_assign (nxlf rfl) rfl rfl ?_
      refine At.opsNil ?_
      refine At.norm (hk_4 ?_)
      refine At.seq fun K5 hk_5 => ?_
      refine At.region ?_
      refine op_move (nxlf rfl) rfl rfl ?_
      refine op_move (nxlf rfl) rfl rfl ?_
      refine op_eql (nxlf rfl) rfl rfl rfl ?_
      refine op_move (nxlf rfl) rfl rfl ?_
      refine op_move (nxgf rfl rfl rfl rfl) rfl rfl ?_
      refine op_move (nxgf rfl rfl rfl rfl) rfl rfl ?_
      refine op_eqB (nxgf rfl rfl rfl rfl) Try.underlying4 rfl rfl rfl ?_
      refine op_pickT (nxlf rfl) rfl rfl rfl ?_
      refine op_move (nxlf rfl) rfl rfl ?_
      refine At.part (d := 37) rfl (fun g37 => ?_) (fun g37 => ?_)
      · refine op_move (nxgf rfl rfl rfl rfl) rfl rfl ?_
        refine op_str (nxgf rfl rfl rfl rfl) Try.underlying22 Try.underlying5 Try.underlying9 rfl (by assumption) (by first | exact mem0 | exact mem1 | exact mem2 | exact mem3 | exact mem4 | exact mem5 | exact mem6 | exact mem7 | exact mem8 | exact mem9) rfl ?_
        refine op_move (nxgf rfl rfl rfl rfl) rfl rfl ?_
        refine op_str (nxgf rfl rfl rfl rfl) Try.underlying22 Try.underlying5 Try.underlying9 rfl (by assumption) (by first | exact mem0 | exact mem1 | exact mem2 | exact mem3 | exact mem4 | exact mem5 | exact mem6 | exact mem7 | exact mem8 | exact mem9) rfl ?_
        refine op_eqS (nxgf rfl rfl rfl rfl) rfl rfl rfl ?_
        refine op_pickT (nxlf rfl) rfl rfl rfl ?_
        refine op_move (nxlf rfl) rfl rfl ?_
        refine At.partP (d := 44) rfl (fun g44 => ?_) (fun g44 => ?_)
        · refine op_move (nxgf rfl rfl rfl rfl) rfl rfl ?_
          refine op_str (nxgf rfl rfl rfl rfl) Try.underlying22 Try.underlying5 Try.underlying9 rfl (by assumption) (by first | exact mem0 | exact mem1 | exact mem2 | exact mem3 | exact mem4 | exact mem5 | exact mem6 | exact mem7 | exact mem8 | exact mem9) rfl ?_
          refine op_move (nxgf rfl rfl rfl rfl) rfl rfl ?_
          refine op_str (nxgf rfl rfl rfl rfl) Try.underlying22 Try.underlying5 Try.underlying9 rfl (by assumption) (by first | exact mem0 | exact mem1 | exact mem2 | exact mem3 | exact mem4 | exact mem5 | exact mem6 | exact mem7 | exact mem8 | exact mem9) rfl ?_
          refine op_eqS (nxgf rfl rfl rfl rfl) rfl rfl rfl ?_
          refine op_pickT (nxlf rfl) rfl rfl rfl ?_
          refine op_move (nxlf rfl) rfl rfl ?_
          refine At.partP (d := 51) rfl (fun g51 => ?_) (fun g51 => ?_)
          · refine op_callA (nxga rfl rfl rfl rfl) .nil (wakes_f) Try.func15 rfl rfl (by simp) rfl ?_
            rintro v52 L52 ⟨rfl, rfl⟩
            change At _ _ _ [M16, M13, R] _
            refine op_pickT (nxlf rfl) rfl rfl rfl ?_
            refine op_assign (nxlf rfl) rfl rfl ?_
            refine At.opsNil ?_
            refine At.norm (hk_5 ?_)
            refine At.ret (?_)
            refine At.sub (L' := [R]) (.cons _ (.cons _ (.cons_cons _ (.slnil)))) ?_
            refine At.ret1 (L1 := []) rfl (.tmp rfl .nil) (.refl _) (.refl _) ?_
            exact ⟨rfl, rfl⟩
          · exact absurd rfl g51
        · exact absurd rfl g44
      · simp at g37
    · rw [he] at he2; cases he2
  · change At _ _ _ [M17, W17, M16, M13, R] _
    have s17 := r17.rsl; have s18 := t17.rsl
    refine op_move (nxlf rfl) rfl rfl ?_
    refine op_extract (nxlf rfl) rfl rfl rfl ?_
    refine op_extract (nxlf rfl) rfl rfl rfl ?_
    refine op_extract (nxlf rfl) rfl rfl rfl ?_
    refine op_extract (nxlf rfl) rfl rfl rfl ?_
    refine op_assign (nxlf rfl) rfl rfl ?_
    refine op_assign (nxlf rfl) rfl rfl ?_
    refine op_assign (nxlf rfl) rfl rfl ?_
    refine op_assign (nxlf rfl) rfl rfl ?_
    refine At.opsNil ?_
    refine At.norm (hk_3 ?_)
    refine At.seq fun K6 hk_6 => ?_
    refine At.region ?_
    refine op_move (nxlf rfl) rfl rfl ?_
    refine op_callA (nxla rfl) (.cons rfl .nil) (rSplit_g s13 (by omega)) Try.func24 rfl rfl (by simp) rfl ?_
    rintro v24 L24 (⟨he2, rfl, rfl⟩ | ⟨l2, p2, q2, a24, c24, d24, e24, he2, rfl, rfl, s24, t24⟩)
    · rw [he] at he2; cases he2
    · change At _ _ _ [M17, W17, M16, M13, R] _
      obtain ⟨rfl, rfl, rfl⟩ : l = l2 ∧ p = p2 ∧ q = q2 := by rw [he] at he2; simpa using he2
      refine op_move (nxlf rfl) rfl rfl ?_
      refine op_extract (nxlf rfl) rfl rfl rfl ?_
      refine op_extract (nxlf rfl) rfl rfl rfl ?_
      refine op_extract (nxlf rfl) rfl rfl rfl ?_
      refine op_extract (nxlf rfl) rfl rfl rfl ?_
      refine op_assign (nxlf rfl) rfl rfl ?_
      refine op_assign (nxlf rfl) rfl rfl ?_
      refine op_assign (nxlf rfl) rfl rfl ?_
      refine op_assign (nxlf rfl) rfl rfl ?_
      refine At.opsNil ?_
      refine At.norm (hk_6 ?_)
      refine At.seq fun K7 hk_7 => ?_
      refine At.region ?_
      refine op_move (nxlf rfl) rfl rfl ?_
      refine op_move (nxlf rfl) rfl rfl ?_
      refine op_eql (nxlf rfl) rfl rfl rfl ?_
      refine op_move (nxlf rfl) rfl rfl ?_
      refine op_move (nxgf rfl rfl rfl rfl) rfl rfl ?_
      refine op_move (nxgf rfl rfl rfl rfl) rfl rfl ?_
      refine op_eqB (nxgf rfl rfl rfl rfl) Try.underlying4 rfl rfl rfl ?_
      refine op_pickT (nxlf rfl) rfl rfl rfl ?_
      refine op_move (nxlf rfl) rfl rfl ?_
      refine At.part (d := 37) rfl (fun g37 => ?_) (fun g37 => ?_)
      · refine op_move (nxgf rfl rfl rfl rfl) rfl rfl ?_
        refine op_str (nxgf rfl rfl rfl rfl) Try.underlying22 Try.underlying5 Try.underlying9 rfl (by assumption) (by first | exact mem0 | exact mem1 | exact mem2 | exact mem3 | exact mem4 | exact mem5 | exact mem6 | exact mem7 | exact mem8 | exact mem9) rfl ?_
        refine op_move (nxgf rfl rfl rfl rfl) rfl rfl ?_
        refine op_str (nxgf rfl rfl rfl rfl) Try.underlying22 Try.underlying5 Try.underlying9 rfl (by assumption) (by first | exact mem0 | exact mem1 | exact mem2 | exact mem3 | exact mem4 | exact mem5 | exact mem6 | exact mem7 | exact mem8 | exact mem9) rfl ?_
        refine op_eqS (nxgf rfl rfl rfl rfl) rfl rfl rfl ?_
        refine op_pickT (nxlf rfl) rfl rfl rfl ?_
        refine op_move (nxlf rfl) rfl rfl ?_
        refine At.partP (d := 44) rfl (fun g44 => ?_) (fun g44 => ?_)
        · refine op_move (nxgf rfl rfl rfl rfl) rfl rfl ?_
          refine op_str (nxgf rfl rfl rfl rfl) Try.underlying22 Try.underlying5 Try.underlying9 rfl (by assumption) (by first | exact mem0 | exact mem1 | exact mem2 | exact mem3 | exact mem4 | exact mem5 | exact mem6 | exact mem7 | exact mem8 | exact mem9) rfl ?_
          refine op_move (nxgf rfl rfl rfl rfl) rfl rfl ?_
          refine op_str (nxgf rfl rfl rfl rfl) Try.underlying22 Try.underlying5 Try.underlying9 rfl (by assumption) (by first | exact mem0 | exact mem1 | exact mem2 | exact mem3 | exact mem4 | exact mem5 | exact mem6 | exact mem7 | exact mem8 | exact mem9) rfl ?_
          refine op_eqS (nxgf rfl rfl rfl rfl) rfl rfl rfl ?_
          refine op_pickT (nxlf rfl) rfl rfl rfl ?_
          refine op_move (nxlf rfl) rfl rfl ?_
          refine At.partP (d := 51) rfl (fun g51 => ?_) (fun g51 => ?_)
          · refine op_callA (nxga rfl rfl rfl rfl) .nil (wakes_f) Try.func15 rfl rfl (by simp) rfl ?_
            rintro v52 L52 ⟨rfl, rfl⟩
            change At _ _ _ [M17, W17, M16, M13, R] _
            refine op_pickT (nxlf rfl) rfl rfl rfl ?_
            refine op_assign (nxlf rfl) rfl rfl ?_
            refine At.opsNil ?_
            refine At.norm (hk_7 ?_)
            refine At.ret (?_)
            refine At.sub (L' := [R]) (.cons _ (.cons _ (.cons _ (.cons _ (.cons_cons _ (.slnil)))))) ?_
            refine At.ret1 (L1 := []) rfl (.tmp rfl .nil) (.refl _) (.refl _) ?_
            exact ⟨rfl, rfl⟩
          · exact absurd rfl g51
        · exact absurd rfl g44
      · simp at g37
end Go.Proofs.Ytohmmgggaegbbaa
