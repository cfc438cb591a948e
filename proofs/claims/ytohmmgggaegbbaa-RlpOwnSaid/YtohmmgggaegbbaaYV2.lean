/- quarrylaw05.RlpEnvelope answers true. No condition. -/
import Derived.Test.YtohmmgggaegbbaaYW2
import Derived.Test.YtohmmgggaegbbaaYK2
import Derived.Test.YtohmmgggaegbbaaY2
namespace Go.Proofs.Ytohmmgggaegbbaa
set_option linter.unusedVariables false
set_option linter.unusedSimpArgs false
open Go Go.RowKit
/-- Kind and body. -/
def envF (b : List UInt8) : Option (Nat × List UInt8) :=
  if b.length = 0 ∨ (128 ≤ (b.getD 0 0).toNat ∧ (b.getD 0 0).toNat < 192) then none
  else if 192 ≤ (b.getD 0 0).toNat then some (0, b)
  else some ((b.getD 0 0).toNat, b.drop 1)
/-- What is told of it. -/
def EnvP (N : Heaplet) (r : Option (Nat × List UInt8)) (v : Value) : Prop :=
  (r = none ∧ v = .tuple #[.int .i64 0, .slice none 0 0, .int .i64 2]) ∨
  (∃ k p a c, r = some (k, p) ∧ v = .tuple #[.int .i64 (k : Int), .slice a p.length c, .int .i64 0] ∧ RSl N 1 a p.length c (u8s p))
theorem EnvP.mk {N : Heaplet} {r : Option (Nat × List UInt8)} {k n c : Nat} {q : Int} {a : Option Addr} {p : List UInt8} (hr : r = some (k, p)) (hq : q = (k : Int)) (h : RSl N 1 a n c (u8s p)) : EnvP N r (.tuple #[.int .i64 q, .slice a n c, .int .i64 0]) := by
  have e := h.len8
  subst e; subst hq
  exact .inr ⟨k, p, a, c, hr, rfl, h⟩
theorem Envelope_f {N : Heaplet} {ao : Option Addr} {n cap : Nat} {b : List UInt8} (h : RSl N 1 ao n cap (u8s b)) (hn : n ≤ 1099511627776) :
    Fn Try.prog 21 #[.slice ao n cap] [] [N] (fun v L => (L = [] ∧ envF b = none ∧ v = .tuple #[.int .i64 0, .slice none 0 0, .int .i64 2]) ∨ ∃ M k p a c, L = [M] ∧ envF b = some (k, p) ∧ v = .tuple #[.int .i64 (k : Int), .slice a p.length c, .int .i64 0] ∧ RSl M 1 a p.length c (u8s p)) := by
  have hlen := h.len8
  have hcap := h.cap63
  have ok : ∀ {M : Heaplet} {k n c : Nat} {q : Int} {a : Option Addr} {p : List UInt8}, envF b = some (k, p) → q = (k : Int) → RSl M 1 a n c (u8s p) →
      ∃ M' k p a' c', [M] = [M'] ∧ envF b = some (k, p) ∧ (Value.tuple #[.int .i64 q, .slice a n c, .int .i64 0]) = .tuple #[.int .i64 (k : Int), .slice a' p.length c', .int .i64 0] ∧ RSl M' 1 a' p.length c' (u8s p) := by
    intro M k n c q a p hr hq h
    have e := h.len8
    subst e; subst hq
    exact ⟨M, k, p, a, c, rfl, hr, rfl, h⟩
  refine Fn.enter (vs := [.slice ao n cap]) Try.func21 rfl rfl rfl ?_
  intro E R hR
  have h := h.le (hR N (by simp))
  change At _ _ E [R] _
  refine At.seq fun K1 hk_1 => ?_
  refine At.region ?_
  refine op_assign (nxlf rfl) rfl rfl ?_
  refine op_assign (nxlf rfl) rfl rfl ?_
  refine op_assign (nxlf rfl) rfl rfl ?_
  refine At.opsNil ?_
  refine At.norm (hk_1 ?_)
  refine At.seq fun K2 hk_2 => ?_
  refine At.block ?_
  refine At.seq fun K3 hk_3 => ?_
  refine At.region ?_
  refine op_move (nxlf rfl) rfl rfl ?_
  refine op_lenS (nxlf rfl) se22 rfl rfl ?_
  refine op_eql (nxlf rfl) rfl rfl rfl ?_
  refine op_move (nxlf rfl) rfl rfl ?_
  refine At.partP (d := 9) rfl (fun g9 => ?_) (fun g9 => ?_)
  · refine op_skip rfl rfl rfl rfl rfl rfl rfl ?_
    refine op_skip rfl rfl rfl rfl rfl rfl rfl ?_
    refine op_skip rfl rfl rfl rfl rfl rfl rfl ?_
    refine op_skip rfl rfl rfl rfl rfl rfl rfl ?_
    refine op_skip rfl rfl rfl rfl rfl rfl rfl ?_
    refine op_skipU rfl rfl rfl rfl rfl rfl ?_
    refine op_skipU rfl rfl rfl rfl rfl rfl ?_
    refine op_skipU rfl rfl rfl rfl rfl rfl ?_
    refine op_skipU rfl rfl rfl rfl rfl rfl ?_
    refine op_skip rfl rfl rfl rfl rfl rfl rfl ?_
    refine op_pickT (nxlf rfl) rfl rfl rfl ?_
    refine op_assign (nxlf rfl) rfl rfl ?_
    refine At.opsNil ?_
    refine At.norm (hk_3 ?_)
    refine At.condT rfl ?_
    refine At.seq fun K4 hk_4 => ?_
    refine At.region ?_
    refine op_assign (nxlf rfl) rfl rfl ?_
    refine op_assign (nxlf rfl) rfl rfl ?_
    refine op_assign (nxlf rfl) rfl rfl ?_
    refine At.opsNil ?_
    refine At.norm (hk_4 ?_)
    refine At.ret (At.inRet (At.thenRet (?_)))
    refine At.retN (L1 := []) rfl (.tmp rfl (.tmp rfl (.tmp rfl .nil))) rfl (.refl _) (.refl _) ?_
    exact .inl ⟨rfl, by rw [envF, if_pos (by omega)], rfl⟩
  · refine op_move (nxgf rfl rfl rfl rfl) rfl rfl ?_
    refine op_idx1 (nxgf rfl rfl rfl rfl) se22 rfl rfl (by assumption) (show _ = ((0 : Nat) : Int) from rfl) (by omega) rfl ?_
    refine op_loadE (nxgf rfl rfl rfl rfl) sc5 rfl (by assumption) (by first | exact get8 (by omega) | exact get64 (by omega) | exact get32 (by omega)) (by first | exact mem0 | exact mem1 | exact mem2 | exact mem3 | exact mem4 | exact mem5 | exact mem6 | exact mem7 | exact mem8 | exact mem9) rfl ?_
    refine op_geq (nxgf rfl rfl rfl rfl) rfl rfl rfl ?_
    refine op_move (nxgf rfl rfl rfl rfl) rfl rfl ?_
    refine At.partP (d := 14) rfl (fun g14 => ?_) (fun g14 => ?_)
    · refine op_move (nxgf rfl rfl rfl rfl) rfl rfl ?_
      refine op_idx1 (nxgf rfl rfl rfl rfl) se22 rfl rfl (by assumption) (show _ = ((0 : Nat) : Int) from rfl) (by omega) rfl ?_
      refine op_loadE (nxgf rfl rfl rfl rfl) sc5 rfl (by assumption) (by first | exact get8 (by omega) | exact get64 (by omega) | exact get32 (by omega)) (by first | exact mem0 | exact mem1 | exact mem2 | exact mem3 | exact mem4 | exact mem5 | exact mem6 | exact mem7 | exact mem8 | exact mem9) rfl ?_
      refine op_lss (nxgf rfl rfl rfl rfl) rfl rfl rfl ?_
      refine op_pickT (nxgf rfl rfl rfl rfl) rfl rfl rfl ?_
      refine op_pickF (nxlf rfl) rfl rfl rfl ?_
      refine op_assign (nxlf rfl) rfl rfl ?_
      refine At.opsNil ?_
      refine At.norm (hk_3 ?_)
      refine At.condP rfl (fun c5 => ?_) (fun c5 => ?_)
      · refine At.seq fun K5 hk_5 => ?_
        refine At.region ?_
        refine op_assign (nxlf rfl) rfl rfl ?_
        refine op_assign (nxlf rfl) rfl rfl ?_
        refine op_assign (nxlf rfl) rfl rfl ?_
        refine At.opsNil ?_
        refine At.norm (hk_5 ?_)
        refine At.ret (At.inRet (At.thenRet (?_)))
        refine At.retN (L1 := []) rfl (.tmp rfl (.tmp rfl (.tmp rfl .nil))) rfl (.refl _) (.refl _) ?_
        exact .inl ⟨rfl, by rw [envF, if_pos (by omega)], rfl⟩
      · refine At.seq fun K6 hk_6 => ?_
        refine At.region ?_
        refine op_move (nxlf rfl) rfl rfl ?_
        refine op_idx1 (nxlf rfl) se22 rfl rfl (by assumption) (show _ = ((0 : Nat) : Int) from rfl) (by omega) rfl ?_
        refine op_loadE (nxlf rfl) sc5 rfl (by assumption) (by first | exact get8 (by omega) | exact get64 (by omega) | exact get32 (by omega)) (by first | exact mem0 | exact mem1 | exact mem2 | exact mem3 | exact mem4 | exact mem5 | exact mem6 | exact mem7 | exact mem8 | exact mem9) rfl ?_
        refine op_geq (nxlf rfl) rfl rfl rfl ?_
        refine op_assign (nxlf rfl) rfl rfl ?_
        refine At.opsNil ?_
        refine At.norm (hk_6 ?_)
        refine At.condP rfl (fun c21 => ?_) (fun c21 => ?_)
        · refine At.seq fun K7 hk_7 => ?_
          refine At.region ?_
          refine op_move (nxlf rfl) rfl rfl ?_
          refine op_append0 (nxla rfl) Try.underlying22 Try.underlying22 te5 rfl rfl (by assumption) (by first | exact mem0 | exact mem1 | exact mem2 | exact mem3 | exact mem4 | exact mem5 | exact mem6 | exact mem7 | exact mem8 | exact mem9) (by first | exact one_u8s _ | exact one_u64s _ | exact one_u32s _ | (intro u hu; simp at hu; subst hu; rfl)) (by omega) (by omega) rfl (fun N27 a27 p27 r27 => ?_)
          have s27 := r27.rsl
          refine op_assign (nxlf rfl) rfl rfl ?_
          refine op_assign (nxlf rfl) rfl rfl ?_
          refine op_assign (nxlf rfl) rfl rfl ?_
          refine At.opsNil ?_
          refine At.norm (hk_7 ?_)
          refine At.ret (At.inRet (At.thenRet (?_)))
          refine At.retN (L1 := [N27]) rfl (.tmp rfl (.tmp rfl (.tmp rfl .nil))) rfl (.refl _) (.refl _) ?_
          exact .inr (ok (by rw [envF, if_neg (by omega), if_pos (by omega)]) rfl r27.rsl)
        · refine At.skip ?_
          refine At.inNorm ?_
          refine At.norm (hk_2 ?_)
          refine At.seq fun K8 hk_8 => ?_
          refine At.drawn [] [0,1,2,3,4,5,6,7,8,9] (by kernel_rfl) (by kernel_rfl) ?_
          refine op_move (nxof rfl rfl rfl (by kernel_rfl)) rfl rfl ?_
          refine op_idx1 (nxof rfl rfl rfl (by kernel_rfl)) se22 rfl rfl (by assumption) (show _ = ((0 : Nat) : Int) from rfl) (by omega) rfl ?_
          refine op_loadE (nxof rfl rfl rfl (by kernel_rfl)) sc5 rfl (by assumption) (by first | exact get8 (by omega) | exact get64 (by omega) | exact get32 (by omega)) (by first | exact mem0 | exact mem1 | exact mem2 | exact mem3 | exact mem4 | exact mem5 | exact mem6 | exact mem7 | exact mem8 | exact mem9) rfl ?_
          refine op_convI (nxof rfl rfl rfl (by kernel_rfl)) (und_some Try.underlying5) Try.underlying3 rfl (by omega) (by omega) rfl ?_
          refine op_move (nxof rfl rfl rfl (by kernel_rfl)) rfl rfl ?_
          refine op_slice (nxof rfl rfl rfl (by kernel_rfl)) se22 rfl (.some rfl (show _ = ((1 : Nat) : Int) from rfl)) .none .none (by omega) (by omega) (by omega) (by simp) rfl ?_
          have s33 := h.drop8 (lo := 1) (by omega)
          refine op_append0 (nxoa rfl rfl rfl) Try.underlying22 Try.underlying22 te5 rfl rfl (by assumption) (by first | exact mem0 | exact mem1 | exact mem2 | exact mem3 | exact mem4 | exact mem5 | exact mem6 | exact mem7 | exact mem8 | exact mem9) (by first | exact one_u8s _ | exact one_u64s _ | exact one_u32s _ | (intro u hu; simp at hu; subst hu; rfl)) (by omega) (by omega) rfl (fun N34 a34 p34 r34 => ?_)
          have s34 := r34.rsl
          refine op_assign (nxof rfl rfl rfl (by kernel_rfl)) rfl rfl ?_
          refine op_assign (nxof rfl rfl rfl (by kernel_rfl)) rfl rfl ?_
          refine op_assign (nxof rfl rfl rfl (by kernel_rfl)) rfl rfl ?_
          refine At.oneNil ?_
          refine At.norm (hk_8 ?_)
          refine At.ret (?_)
          refine At.retN (L1 := [N34]) rfl (.tmp rfl (.tmp rfl (.tmp rfl .nil))) rfl (.refl _) (.refl _) ?_
          exfalso; omega
    · refine op_skip rfl rfl rfl rfl rfl rfl rfl ?_
      refine op_skip rfl rfl rfl rfl rfl rfl rfl ?_
      refine op_skip rfl rfl rfl rfl rfl rfl rfl ?_
      refine op_skip rfl rfl rfl rfl rfl rfl rfl ?_
      refine op_pickF (nxgf rfl rfl rfl rfl) rfl rfl rfl ?_
      refine op_pickF (nxlf rfl) rfl rfl rfl ?_
      refine op_assign (nxlf rfl) rfl rfl ?_
      refine At.opsNil ?_
      refine At.norm (hk_3 ?_)
      refine At.condF rfl ?_
      refine At.seq fun K9 hk_9 => ?_
      refine At.region ?_
      refine op_move (nxlf rfl) rfl rfl ?_
      refine op_idx1 (nxlf rfl) se22 rfl rfl (by assumption) (show _ = ((0 : Nat) : Int) from rfl) (by omega) rfl ?_
      refine op_loadE (nxlf rfl) sc5 rfl (by assumption) (by first | exact get8 (by omega) | exact get64 (by omega) | exact get32 (by omega)) (by first | exact mem0 | exact mem1 | exact mem2 | exact mem3 | exact mem4 | exact mem5 | exact mem6 | exact mem7 | exact mem8 | exact mem9) rfl ?_
      refine op_geq (nxlf rfl) rfl rfl rfl ?_
      refine op_assign (nxlf rfl) rfl rfl ?_
      refine At.opsNil ?_
      refine At.norm (hk_9 ?_)
      refine At.condP rfl (fun c21 => ?_) (fun c21 => ?_)
      · refine At.seq fun K10 hk_10 => ?_
        refine At.region ?_
        refine op_move (nxlf rfl) rfl rfl ?_
        refine op_append0 (nxla rfl) Try.underlying22 Try.underlying22 te5 rfl rfl (by assumption) (by first | exact mem0 | exact mem1 | exact mem2 | exact mem3 | exact mem4 | exact mem5 | exact mem6 | exact mem7 | exact mem8 | exact mem9) (by first | exact one_u8s _ | exact one_u64s _ | exact one_u32s _ | (intro u hu; simp at hu; subst hu; rfl)) (by omega) (by omega) rfl (fun N27 a27 p27 r27 => ?_)
        have s27 := r27.rsl
        refine op_assign (nxlf rfl) rfl rfl ?_
        refine op_assign (nxlf rfl) rfl rfl ?_
        refine op_assign (nxlf rfl) rfl rfl ?_
        refine At.opsNil ?_
        refine At.norm (hk_10 ?_)
        refine At.ret (At.inRet (At.thenRet (?_)))
        refine At.retN (L1 := [N27]) rfl (.tmp rfl (.tmp rfl (.tmp rfl .nil))) rfl (.refl _) (.refl _) ?_
        exfalso; omega
      · refine At.skip ?_
        refine At.inNorm ?_
        refine At.norm (hk_2 ?_)
        refine At.seq fun K11 hk_11 => ?_
        refine At.drawn [] [0,1,2,3,4,5,6,7,8,9] (by kernel_rfl) (by kernel_rfl) ?_
        refine op_move (nxof rfl rfl rfl (by kernel_rfl)) rfl rfl ?_
        refine op_idx1 (nxof rfl rfl rfl (by kernel_rfl)) se22 rfl rfl (by assumption) (show _ = ((0 : Nat) : Int) from rfl) (by omega) rfl ?_
        refine op_loadE (nxof rfl rfl rfl (by kernel_rfl)) sc5 rfl (by assumption) (by first | exact get8 (by omega) | exact get64 (by omega) | exact get32 (by omega)) (by first | exact mem0 | exact mem1 | exact mem2 | exact mem3 | exact mem4 | exact mem5 | exact mem6 | exact mem7 | exact mem8 | exact mem9) rfl ?_
        refine op_convI (nxof rfl rfl rfl (by kernel_rfl)) (und_some Try.underlying5) Try.underlying3 rfl (by omega) (by omega) rfl ?_
        refine op_move (nxof rfl rfl rfl (by kernel_rfl)) rfl rfl ?_
        refine op_slice (nxof rfl rfl rfl (by kernel_rfl)) se22 rfl (.some rfl (show _ = ((1 : Nat) : Int) from rfl)) .none .none (by omega) (by omega) (by omega) (by simp) rfl ?_
        have s33 := h.drop8 (lo := 1) (by omega)
        refine op_append0 (nxoa rfl rfl rfl) Try.underlying22 Try.underlying22 te5 rfl rfl (by assumption) (by first | exact mem0 | exact mem1 | exact mem2 | exact mem3 | exact mem4 | exact mem5 | exact mem6 | exact mem7 | exact mem8 | exact mem9) (by first | exact one_u8s _ | exact one_u64s _ | exact one_u32s _ | (intro u hu; simp at hu; subst hu; rfl)) (by omega) (by omega) rfl (fun N34 a34 p34 r34 => ?_)
        have s34 := r34.rsl
        refine op_assign (nxof rfl rfl rfl (by kernel_rfl)) rfl rfl ?_
        refine op_assign (nxof rfl rfl rfl (by kernel_rfl)) rfl rfl ?_
        refine op_assign (nxof rfl rfl rfl (by kernel_rfl)) rfl rfl ?_
        refine At.oneNil ?_
        refine At.norm (hk_11 ?_)
        refine At.ret (?_)
        refine At.retN (L1 := [N34]) rfl (.tmp rfl (.tmp rfl (.tmp rfl .nil))) rfl (.refl _) (.refl _) ?_
        exact .inr (ok (by rw [envF, if_neg (by omega), if_neg (by omega)]) rfl r34.rsl)
theorem rEnvelope_f {N : Heaplet} {ao : Option Addr} {n cap : Nat} {b : List UInt8} (h : RSl N 1 ao n cap (u8s b)) :
    Fn Try.prog 22 #[.slice ao n cap] [] [N] (fun v L => L = [] ∧ EnvP N (envF b) v) := by
  have hlen := h.len8
  have hcap := h.cap63
  refine Fn.enter (vs := [.slice ao n cap]) Try.func22 rfl rfl rfl ?_
  intro E R hR
  have h' := h
  have h := h.le (hR N (by simp))
  change At _ _ E [R] _
  refine At.seq fun K1 hk_1 => ?_
  refine At.region ?_
  refine op_assign (nxlf rfl) rfl rfl ?_
  refine op_assign (nxlf rfl) rfl rfl ?_
  refine op_assign (nxlf rfl) rfl rfl ?_
  refine At.opsNil ?_
  refine At.norm (hk_1 ?_)
  refine At.seq fun K2 hk_2 => ?_
  refine At.seq fun K3 hk_3 => ?_
  refine At.region ?_
  refine op_move (nxlf rfl) rfl rfl ?_
  refine op_lenS (nxlf rfl) se22 rfl rfl ?_
  refine op_eql (nxlf rfl) rfl rfl rfl ?_
  refine op_move (nxlf rfl) rfl rfl ?_
  refine At.partP (d := 8) rfl (fun g8 => ?_) (fun g8 => ?_)
  · refine op_skip rfl rfl rfl rfl rfl rfl rfl ?_
    refine op_skip rfl rfl rfl rfl rfl rfl rfl ?_
    refine op_skip rfl rfl rfl rfl rfl rfl rfl ?_
    refine op_skip rfl rfl rfl rfl rfl rfl rfl ?_
    refine op_skip rfl rfl rfl rfl rfl rfl rfl ?_
    refine op_skipU rfl rfl rfl rfl rfl rfl ?_
    refine op_skipU rfl rfl rfl rfl rfl rfl ?_
    refine op_skipU rfl rfl rfl rfl rfl rfl ?_
    refine op_skipU rfl rfl rfl rfl rfl rfl ?_
    refine op_skip rfl rfl rfl rfl rfl rfl rfl ?_
    refine op_pickT (nxlf rfl) rfl rfl rfl ?_
    refine At.opsNil ?_
    refine At.norm (hk_3 ?_)
    refine At.condT rfl ?_
    refine At.seq fun K4 hk_4 => ?_
    refine At.region ?_
    refine op_assign (nxlf rfl) rfl rfl ?_
    refine op_assign (nxlf rfl) rfl rfl ?_
    refine op_assign (nxlf rfl) rfl rfl ?_
    refine At.opsNil ?_
    refine At.norm (hk_4 ?_)
    refine At.ret (At.thenRet (?_))
    refine At.retN (L1 := []) rfl (.tmp rfl (.tmp rfl (.tmp rfl .nil))) rfl (.refl _) (.refl _) ?_
    exact ⟨rfl, .inl ⟨by rw [envF, if_pos (by omega)], rfl⟩⟩
  · refine op_move (nxgf rfl rfl rfl rfl) rfl rfl ?_
    refine op_idx1 (nxgf rfl rfl rfl rfl) se22 rfl rfl (by assumption) (show _ = ((0 : Nat) : Int) from rfl) (by omega) rfl ?_
    refine op_loadE (nxgf rfl rfl rfl rfl) sc5 rfl (by assumption) (by first | exact get8 (by omega) | exact get64 (by omega) | exact get32 (by omega)) (by first | exact mem0 | exact mem1 | exact mem2 | exact mem3 | exact mem4 | exact mem5 | exact mem6 | exact mem7 | exact mem8 | exact mem9) rfl ?_
    refine op_geq (nxgf rfl rfl rfl rfl) rfl rfl rfl ?_
    refine op_move (nxgf rfl rfl rfl rfl) rfl rfl ?_
    refine At.partP (d := 13) rfl (fun g13 => ?_) (fun g13 => ?_)
    · refine op_move (nxgf rfl rfl rfl rfl) rfl rfl ?_
      refine op_idx1 (nxgf rfl rfl rfl rfl) se22 rfl rfl (by assumption) (show _ = ((0 : Nat) : Int) from rfl) (by omega) rfl ?_
      refine op_loadE (nxgf rfl rfl rfl rfl) sc5 rfl (by assumption) (by first | exact get8 (by omega) | exact get64 (by omega) | exact get32 (by omega)) (by first | exact mem0 | exact mem1 | exact mem2 | exact mem3 | exact mem4 | exact mem5 | exact mem6 | exact mem7 | exact mem8 | exact mem9) rfl ?_
      refine op_lss (nxgf rfl rfl rfl rfl) rfl rfl rfl ?_
      refine op_pickT (nxgf rfl rfl rfl rfl) rfl rfl rfl ?_
      refine op_pickF (nxlf rfl) rfl rfl rfl ?_
      refine At.opsNil ?_
      refine At.norm (hk_3 ?_)
      refine At.condP rfl (fun c19 => ?_) (fun c19 => ?_)
      · refine At.seq fun K5 hk_5 => ?_
        refine At.region ?_
        refine op_assign (nxlf rfl) rfl rfl ?_
        refine op_assign (nxlf rfl) rfl rfl ?_
        refine op_assign (nxlf rfl) rfl rfl ?_
        refine At.opsNil ?_
        refine At.norm (hk_5 ?_)
        refine At.ret (At.thenRet (?_))
        refine At.retN (L1 := []) rfl (.tmp rfl (.tmp rfl (.tmp rfl .nil))) rfl (.refl _) (.refl _) ?_
        exact ⟨rfl, .inl ⟨by rw [envF, if_pos (by omega)], rfl⟩⟩
      · refine At.skip ?_
        refine At.norm (hk_2 ?_)
        refine At.seq fun K6 hk_6 => ?_
        refine At.seq fun K7 hk_7 => ?_
        refine At.region ?_
        refine op_move (nxlf rfl) rfl rfl ?_
        refine op_idx1 (nxlf rfl) se22 rfl rfl (by assumption) (show _ = ((0 : Nat) : Int) from rfl) (by omega) rfl ?_
        refine op_loadE (nxlf rfl) sc5 rfl (by assumption) (by first | exact get8 (by omega) | exact get64 (by omega) | exact get32 (by omega)) (by first | exact mem0 | exact mem1 | exact mem2 | exact mem3 | exact mem4 | exact mem5 | exact mem6 | exact mem7 | exact mem8 | exact mem9) rfl ?_
        refine op_geq (nxlf rfl) rfl rfl rfl ?_
        refine At.opsNil ?_
        refine At.norm (hk_7 ?_)
        refine At.condP rfl (fun c23 => ?_) (fun c23 => ?_)
        · refine At.seq fun K8 hk_8 => ?_
          refine At.region ?_
          refine op_move (nxlf rfl) rfl rfl ?_
          refine op_assign (nxlf rfl) rfl rfl ?_
          refine op_assign (nxlf rfl) rfl rfl ?_
          refine op_assign (nxlf rfl) rfl rfl ?_
          refine At.opsNil ?_
          refine At.norm (hk_8 ?_)
          refine At.ret (At.thenRet (?_))
          refine At.retN (L1 := []) rfl (.tmp rfl (.tmp rfl (.tmp rfl .nil))) rfl (.refl _) (.refl _) ?_
          exact ⟨rfl, .mk (by rw [envF, if_neg (by omega), if_pos (by omega)]) rfl h'⟩
        · refine At.skip ?_
          refine At.norm (hk_6 ?_)
          refine At.seq fun K9 hk_9 => ?_
          refine At.drawn [] [0,1,2,3,4,5,6,7,8] (by kernel_rfl) (by kernel_rfl) ?_
          refine op_move (nxof rfl rfl rfl (by kernel_rfl)) rfl rfl ?_
          refine op_idx1 (nxof rfl rfl rfl (by kernel_rfl)) se22 rfl rfl (by assumption) (show _ = ((0 : Nat) : Int) from rfl) (by omega) rfl ?_
          refine op_loadE (nxof rfl rfl rfl (by kernel_rfl)) sc5 rfl (by assumption) (by first | exact get8 (by omega) | exact get64 (by omega) | exact get32 (by omega)) (by first | exact mem0 | exact mem1 | exact mem2 | exact mem3 | exact mem4 | exact mem5 | exact mem6 | exact mem7 | exact mem8 | exact mem9) rfl ?_
          refine op_convI (nxof rfl rfl rfl (by kernel_rfl)) (und_some Try.underlying5) Try.underlying3 rfl (by omega) (by omega) rfl ?_
          refine op_move (nxof rfl rfl rfl (by kernel_rfl)) rfl rfl ?_
          refine op_slice (nxof rfl rfl rfl (by kernel_rfl)) se22 rfl (.some rfl (show _ = ((1 : Nat) : Int) from rfl)) .none .none (by omega) (by omega) (by omega) (by simp) rfl ?_
          refine op_assign (nxof rfl rfl rfl (by kernel_rfl)) rfl rfl ?_
          refine op_assign (nxof rfl rfl rfl (by kernel_rfl)) rfl rfl ?_
          refine op_assign (nxof rfl rfl rfl (by kernel_rfl)) rfl rfl ?_
          refine At.oneNil ?_
          refine At.norm (hk_9 ?_)
          refine At.ret (?_)
          refine At.retN (L1 := []) rfl (.tmp rfl (.tmp rfl (.tmp rfl .nil))) rfl (.refl _) (.refl _) ?_
          exfalso; omega
    · refine op_skip rfl rfl rfl rfl rfl rfl rfl ?_
      refine op_skip rfl rfl rfl rfl rfl rfl rfl ?_
      refine op_skip rfl rfl rfl rfl rfl rfl rfl ?_
      refine op_skip rfl rfl rfl rfl rfl rfl rfl ?_
      refine op_pickF (nxgf rfl rfl rfl rfl) rfl rfl rfl ?_
      refine op_pickF (nxlf rfl) rfl rfl rfl ?_
      refine At.opsNil ?_
      refine At.norm (hk_3 ?_)
      refine At.condF rfl ?_
      refine At.skip ?_
      refine At.norm (hk_2 ?_)
      refine At.seq fun K10 hk_10 => ?_
      refine At.seq fun K11 hk_11 => ?_
      refine At.region ?_
      refine op_move (nxlf rfl) rfl rfl ?_
      refine op_idx1 (nxlf rfl) se22 rfl rfl (by assumption) (show _ = ((0 : Nat) : Int) from rfl) (by omega) rfl ?_
      refine op_loadE (nxlf rfl) sc5 rfl (by assumption) (by first | exact get8 (by omega) | exact get64 (by omega) | exact get32 (by omega)) (by first | exact mem0 | exact mem1 | exact mem2 | exact mem3 | exact mem4 | exact mem5 | exact mem6 | exact mem7 | exact mem8 | exact mem9) rfl ?_
      refine op_geq (nxlf rfl) rfl rfl rfl ?_
      refine At.opsNil ?_
      refine At.norm (hk_11 ?_)
      refine At.condP rfl (fun c23 => ?_) (fun c23 => ?_)
      · refine At.seq fun K12 hk_12 => ?_
        refine At.region ?_
        refine op_move (nxlf rfl) rfl rfl ?_
        refine op_assign (nxlf rfl) rfl rfl ?_
        refine op_assign (nxlf rfl) rfl rfl ?_
        refine op_assign (nxlf rfl) rfl rfl ?_
        refine At.opsNil ?_
        refine At.norm (hk_12 ?_)
        refine At.ret (At.thenRet (?_))
        refine At.retN (L1 := []) rfl (.tmp rfl (.tmp rfl (.tmp rfl .nil))) rfl (.refl _) (.refl _) ?_
        exfalso; omega
      · refine At.skip ?_
        refine At.norm (hk_10 ?_)
        refine At.seq fun K13 hk_13 => ?_
        refine At.drawn [] [0,1,2,3,4,5,6,7,8] (by kernel_rfl) (by kernel_rfl) ?_
        refine op_move (nxof rfl rfl rfl (by kernel_rfl)) rfl rfl ?_
        refine op_idx1 (nxof rfl rfl rfl (by kernel_rfl)) se22 rfl rfl (by assumption) (show _ = ((0 : Nat) : Int) from rfl) (by omega) rfl ?_
        refine op_loadE (nxof rfl rfl rfl (by kernel_rfl)) sc5 rfl (by assumption) (by first | exact get8 (by omega) | exact get64 (by omega) | exact get32 (by omega)) (by first | exact mem0 | exact mem1 | exact mem2 | exact mem3 | exact mem4 | exact mem5 | exact mem6 | exact mem7 | exact mem8 | exact mem9) rfl ?_
        refine op_convI (nxof rfl rfl rfl (by kernel_rfl)) (und_some Try.underlying5) Try.underlying3 rfl (by omega) (by omega) rfl ?_
        refine op_move (nxof rfl rfl rfl (by kernel_rfl)) rfl rfl ?_
        refine op_slice (nxof rfl rfl rfl (by kernel_rfl)) se22 rfl (.some rfl (show _ = ((1 : Nat) : Int) from rfl)) .none .none (by omega) (by omega) (by omega) (by simp) rfl ?_
        refine op_assign (nxof rfl rfl rfl (by kernel_rfl)) rfl rfl ?_
        refine op_assign (nxof rfl rfl rfl (by kernel_rfl)) rfl rfl ?_
        refine op_assign (nxof rfl rfl rfl (by kernel_rfl)) rfl rfl ?_
        refine At.oneNil ?_
        refine At.norm (hk_13 ?_)
        refine At.ret (?_)
        refine At.retN (L1 := []) rfl (.tmp rfl (.tmp rfl (.tmp rfl .nil))) rfl (.refl _) (.refl _) ?_
        exact ⟨rfl, .mk (by rw [envF, if_neg (by omega), if_neg (by omega)]) rfl (h'.drop8 (by omega))⟩
theorem KTwin_all {N : Heaplet} {ao : Option Addr} {n cap : Nat} {l : List UInt8} (h : RSl N 1 ao n cap (u8s l)) (m : Nat) (q : Int) (hq : q = (m : Int)) (hm : m ≤ 140737488351232) (hl : l.length ≤ m) :
    Fn Try.prog 16 #[.slice ao n cap, .int .i64 q] [] [N] (fun v L => ∃ M a c, v = .slice a l.length c ∧ L = [M] ∧ Row M 5 1 a l.length c (u8s l)) :=
  (KTwin_f h m q hq hm).mono fun v L hp => by rwa [List.take_of_length_le hl] at hp
theorem rEnvelope_g {N : Heaplet} {ao : Option Addr} {n cap : Nat} {b : List UInt8} (h : RSl N 1 ao n cap (u8s b)) :
    Fn Try.prog 22 #[.slice ao n cap] [] [N] (fun v L => (L = [] ∧ envF b = none ∧ v = .tuple #[.int .i64 0, .slice none 0 0, .int .i64 2]) ∨ ∃ k p a c, L = [] ∧ envF b = some (k, p) ∧ v = .tuple #[.int .i64 (k : Int), .slice a p.length c, .int .i64 0] ∧ RSl N 1 a p.length c (u8s p)) :=
  (rEnvelope_f h).mono fun v L ⟨h1, h2⟩ => by
    rcases h2 with ⟨h2, h3⟩ | ⟨k, p, a, c, h2, h3, h4⟩
    · exact .inl ⟨h1, h2, h3⟩
    · exact .inr ⟨k, p, a, c, h1, h2, h3, h4⟩
theorem RlpEnvelope_f {N : Heaplet} {ao : Option Addr} {n cap : Nat} {b : List UInt8} (h : RSl N 1 ao n cap (u8s b)) :
    Fn Try.prog 6 #[.slice ao n cap] [] [N] (fun v L => v = .bool true ∧ L = []) := by
  have hlen := h.len8
  have hl5 : (b.take 500).length ≤ 500 := by rw [List.length_take]; omega
  refine Fn.enter (vs := [.slice ao n cap]) Try.func6 rfl rfl rfl ?_
  intro E R hR
  have h := h.le (hR N (by simp))
  have hnil : RSl R 1 none 0 0 (u8s []) := RSl.nil R 1
  change At _ _ E [R] _
  refine At.seq fun K1 hk_1 => ?_
  refine At.region ?_
  refine op_assign (nxlf rfl) rfl rfl ?_
  refine At.opsNil ?_
  refine At.norm (hk_1 ?_)
  refine At.seq fun K2 hk_2 => ?_
  refine At.region ?_
  refine op_move (nxlf rfl) rfl rfl ?_
  refine op_callA (nxla rfl) (.cons rfl (.cons rfl .nil)) (KTwin_f h 500 500 rfl (by decide)) Try.func16 rfl rfl (by simp) rfl ?_
  rintro v11 L11 ⟨M11, a11, p11, rfl, rfl, r11⟩
  change At _ _ _ [M11, R] _
  have s11 := r11.rsl
  refine op_assign (nxlf rfl) rfl rfl ?_
  refine At.opsNil ?_
  refine At.norm (hk_2 ?_)
  refine At.seq fun K3 hk_3 => ?_
  refine At.region ?_
  refine op_move (nxlf rfl) rfl rfl ?_
  refine op_callA (nxla rfl) (.cons rfl (.cons rfl .nil)) (KTwin_all s11 500 500 rfl (by decide) hl5) Try.func16 rfl rfl (by simp) rfl ?_
  rintro v14 L14 ⟨M14, a14, p14, rfl, rfl, r14⟩
  change At _ _ _ [M14, M11, R] _
  have s14 := r14.rsl
  refine op_callA (nxla rfl) (.cons rfl .nil) (Envelope_f s14 (by omega)) Try.func21 rfl rfl (by simp) rfl ?_
  rintro v15 L15 (⟨rfl, he, rfl⟩ | ⟨M15, k, p, a15, p15, rfl, he, rfl, s15⟩)
  · change At _ _ _ [M14, M11, R] _
    refine op_move (nxlf rfl) rfl rfl ?_
    refine op_extract (nxlf rfl) rfl rfl rfl ?_
    refine op_extract (nxlf rfl) rfl rfl rfl ?_
    refine op_extract (nxlf rfl) rfl rfl rfl ?_
    refine op_assign (nxlf rfl) rfl rfl ?_
    refine op_assign (nxlf rfl) rfl rfl ?_
    refine op_assign (nxlf rfl) rfl rfl ?_
    refine At.opsNil ?_
    refine At.norm (hk_3 ?_)
    refine At.seq fun K4 hk_4 => ?_
    refine At.region ?_
    refine op_move (nxlf rfl) rfl rfl ?_
    refine op_callA (nxla rfl) (.cons rfl .nil) (rEnvelope_g s11) Try.func22 rfl rfl (by simp) rfl ?_
    rintro v21 L21 (⟨rfl, he2, rfl⟩ | ⟨k2, p2, a21, p21, rfl, he2, rfl, s21⟩)
    · change At _ _ _ [M14, M11, R] _
      refine op_move (nxlf rfl) rfl rfl ?_
      refine op_extract (nxlf rfl) rfl rfl rfl ?_
      refine op_extract (nxlf rfl) rfl rfl rfl ?_
      refine op_extract (nxlf rfl) rfl rfl rfl ?_
      refine op_assign (nxlf rfl) rfl rfl ?_
      refine op_assign (nxlf rfl) rfl rfl ?_
      refine op_assign (nxlf rfl) rfl rfl ?_
      refine At.opsNil ?_
      refine At.norm (hk_4 ?_)
      refine At.seq fun K5 hk_5 => ?_
      refine At.region ?_
      refine op_move (nxlf rfl) rfl rfl ?_
      refine op_move (nxlf rfl) rfl rfl ?_
      refine op_eql (nxlf rfl) rfl rfl rfl ?_
      refine op_move (nxlf rfl) rfl rfl ?_
      refine op_move (nxgf rfl rfl rfl rfl) rfl rfl ?_
      refine op_move (nxgf rfl rfl rfl rfl) rfl rfl ?_
      refine op_eql (nxgf rfl rfl rfl rfl) rfl rfl rfl ?_
      refine op_pickT (nxlf rfl) rfl rfl rfl ?_
      refine op_move (nxlf rfl) rfl rfl ?_
      refine At.partP (d := 33) rfl (fun g33 => ?_) (fun g33 => ?_)
      · refine op_move (nxgf rfl rfl rfl rfl) rfl rfl ?_
        refine op_str (nxgf rfl rfl rfl rfl) Try.underlying22 Try.underlying5 Try.underlying9 rfl (by assumption) (by first | exact mem0 | exact mem1 | exact mem2 | exact mem3 | exact mem4 | exact mem5 | exact mem6 | exact mem7 | exact mem8 | exact mem9) rfl ?_
        refine op_move (nxgf rfl rfl rfl rfl) rfl rfl ?_
        refine op_str (nxgf rfl rfl rfl rfl) Try.underlying22 Try.underlying5 Try.underlying9 rfl (by assumption) (by first | exact mem0 | exact mem1 | exact mem2 | exact mem3 | exact mem4 | exact mem5 | exact mem6 | exact mem7 | exact mem8 | exact mem9) rfl ?_
        refine op_eqS (nxgf rfl rfl rfl rfl) rfl rfl rfl ?_
        refine op_pickT (nxlf rfl) rfl rfl rfl ?_
        refine op_move (nxlf rfl) rfl rfl ?_
        refine At.partP (d := 40) rfl (fun g40 => ?_) (fun g40 => ?_)
        · refine op_callA (nxga rfl rfl rfl rfl) .nil (wakes_f) Try.func15 rfl rfl (by simp) rfl ?_
          rintro v41 L41 ⟨rfl, rfl⟩
          change At _ _ _ [M14, M11, R] _
          refine op_pickT (nxlf rfl) rfl rfl rfl ?_
          refine op_assign (nxlf rfl) rfl rfl ?_
          refine At.opsNil ?_
          refine At.norm (hk_5 ?_)
          refine At.ret (?_)
          refine At.sub (L' := [R]) (.cons _ (.cons _ (.cons_cons _ (.slnil)))) ?_
          refine At.ret1 (L1 := []) rfl (.tmp rfl .nil) (.refl _) (.refl _) ?_
          exact ⟨rfl, rfl⟩
        · exact absurd rfl g40
      · exact absurd rfl g33
    · rw [he] at he2; cases he2
  · change At _ _ _ [M15, M14, M11, R] _
    refine op_move (nxlf rfl) rfl rfl ?_
    refine op_extract (nxlf rfl) rfl rfl rfl ?_
    refine op_extract (nxlf rfl) rfl rfl rfl ?_
    refine op_extract (nxlf rfl) rfl rfl rfl ?_
    refine op_assign (nxlf rfl) rfl rfl ?_
    refine op_assign (nxlf rfl) rfl rfl ?_
    refine op_assign (nxlf rfl) rfl rfl ?_
    refine At.opsNil ?_
    refine At.norm (hk_3 ?_)
    refine At.seq fun K6 hk_6 => ?_
    refine At.region ?_
    refine op_move (nxlf rfl) rfl rfl ?_
    refine op_callA (nxla rfl) (.cons rfl .nil) (rEnvelope_g s11) Try.func22 rfl rfl (by simp) rfl ?_
    rintro v21 L21 (⟨rfl, he2, rfl⟩ | ⟨k2, p2, a21, p21, rfl, he2, rfl, s21⟩)
    · rw [he] at he2; cases he2
    · change At _ _ _ [M15, M14, M11, R] _
      obtain ⟨rfl, rfl⟩ : k = k2 ∧ p = p2 := by rw [he] at he2; simpa using he2
      refine op_move (nxlf rfl) rfl rfl ?_
      refine op_extract (nxlf rfl) rfl rfl rfl ?_
      refine op_extract (nxlf rfl) rfl rfl rfl ?_
      refine op_extract (nxlf rfl) rfl rfl rfl ?_
      refine op_assign (nxlf rfl) rfl rfl ?_
      refine op_assign (nxlf rfl) rfl rfl ?_
      refine op_assign (nxlf rfl) rfl rfl ?_
      refine At.opsNil ?_
      refine At.norm (hk_6 ?_)
      refine At.seq fun K7 hk_7 => ?_
      refine At.region ?_
      refine op_move (nxlf rfl) rfl rfl ?_
      refine op_move (nxlf rfl) rfl rfl ?_
      refine op_eql (nxlf rfl) rfl rfl rfl ?_
      refine op_move (nxlf rfl) rfl rfl ?_
      refine op_move (nxgf rfl rfl rfl rfl) rfl rfl ?_
      refine op_move (nxgf rfl rfl rfl rfl) rfl rfl ?_
      refine op_eql (nxgf rfl rfl rfl rfl) rfl rfl rfl ?_
      refine op_pickT (nxlf rfl) rfl rfl rfl ?_
      refine op_move (nxlf rfl) rfl rfl ?_
      refine At.partP (d := 33) rfl (fun g33 => ?_) (fun g33 => ?_)
      · refine op_move (nxgf rfl rfl rfl rfl) rfl rfl ?_
        refine op_str (nxgf rfl rfl rfl rfl) Try.underlying22 Try.underlying5 Try.underlying9 rfl (by assumption) (by first | exact mem0 | exact mem1 | exact mem2 | exact mem3 | exact mem4 | exact mem5 | exact mem6 | exact mem7 | exact mem8 | exact mem9) rfl ?_
        refine op_move (nxgf rfl rfl rfl rfl) rfl rfl ?_
        refine op_str (nxgf rfl rfl rfl rfl) Try.underlying22 Try.underlying5 Try.underlying9 rfl (by assumption) (by first | exact mem0 | exact mem1 | exact mem2 | exact mem3 | exact mem4 | exact mem5 | exact mem6 | exact mem7 | exact mem8 | exact mem9) rfl ?_
        refine op_eqS (nxgf rfl rfl rfl rfl) rfl rfl rfl ?_
        refine op_pickT (nxlf rfl) rfl rfl rfl ?_
        refine op_move (nxlf rfl) rfl rfl ?_
        refine At.partP (d := 40) rfl (fun g40 => ?_) (fun g40 => ?_)
        · refine op_callA (nxga rfl rfl rfl rfl) .nil (wakes_f) Try.func15 rfl rfl (by simp) rfl ?_
          rintro v41 L41 ⟨rfl, rfl⟩
          change At _ _ _ [M15, M14, M11, R] _
          refine op_pickT (nxlf rfl) rfl rfl rfl ?_
          refine op_assign (nxlf rfl) rfl rfl ?_
          refine At.opsNil ?_
          refine At.norm (hk_7 ?_)
          refine At.ret (?_)
          refine At.sub (L' := [R]) (.cons _ (.cons _ (.cons _ (.cons_cons _ (.slnil))))) ?_
          refine At.ret1 (L1 := []) rfl (.tmp rfl .nil) (.refl _) (.refl _) ?_
          exact ⟨rfl, rfl⟩
        · exact absurd rfl g40
      · exact absurd rfl g33
end Go.Proofs.Ytohmmgggaegbbaa
