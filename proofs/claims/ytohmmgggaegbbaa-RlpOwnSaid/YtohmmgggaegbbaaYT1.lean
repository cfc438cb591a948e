/- limb.Trim: a number without zeros at its upper end. No condition. -/
import Derived.Test.YtohmmgggaegbbaaY2
import Derived.Test.YtohmmgggaegbbaaY1
import Derived.Lib.Hide
namespace Go.Proofs.Ytohmmgggaegbbaa
set_option linter.unusedVariables false
set_option linter.unusedSimpArgs false
open Go Go.RowKit
theorem u64_zero {x : UInt64} (h : (x.toNat : Int) = 0) : x = 0 := by rw [← UInt64.toNat_inj]; simpa using h
theorem trim_len {l : List UInt64} {k : Nat} (hk : k ≤ l.length) (hz : ∀ i, k ≤ i → l.getD i 0 = 0) (hl : k = 0 ∨ (0 < k ∧ l.getD (k - 1) 0 ≠ 0)) : l.take k = limbsOf (v64 l) ∧ (limbsOf (v64 l)).length = k := by
  have h1 : l.take k = limbsOf (v64 l) := trim_eq hk (fun i h hki => by
    have := hz i hki
    rwa [List.getD_eq_getElem?_getD, List.getElem?_eq_getElem h] at this) (by
    rcases hl with h | ⟨h0, h⟩
    · exact .inl h
    · refine .inr ⟨by omega, ?_⟩
      rwa [List.getD_eq_getElem?_getD, List.getElem?_eq_getElem (by omega)] at h)
  exact ⟨h1, by rw [← h1, List.length_take]; omega⟩
theorem Trim_f {N : Heaplet} {ao : Option Addr} {n cap : Nat} {l : List UInt64} (h : RSl N 1 ao n cap (u64s l)) :
    Fn Try.prog 60 #[.slice ao n cap] [] [N] (fun v L => v = .slice ao (limbsOf (v64 l)).length (limbsOf (v64 l)).length ∧ L = [] ∧ l.take (limbsOf (v64 l)).length = limbsOf (v64 l) ∧ (limbsOf (v64 l)).length ≤ n) := by
  have hlen : l.length = n := by simpa using h.len
  have hcap := h.2.1
  have hmax := h.2.2.1
  unfold maxLen at hmax
  refine Fn.enter (vs := [.slice ao n cap]) Try.func60 rfl rfl rfl ?_
  intro E R hR
  have h := h.le (hR N (by simp))
  change At _ _ E [R] _
  refine At.seq fun K1 hk_1 => ?_
  refine At.region ?_
  refine op_assign (nxlf rfl) rfl rfl ?_
  refine At.opsNil ?_
  refine At.norm (hk_1 ?_)
  refine At.seq fun K2 hk_2 => ?_
  refine At.region ?_
  refine op_move (nxlf rfl) rfl rfl ?_
  refine op_lenS (nxlf rfl) se95 rfl rfl ?_
  refine op_assign (nxlf rfl) rfl rfl ?_
  refine At.opsNil ?_
  refine At.norm (hk_2 ?_)
  refine At.seq fun K3 hk_3 => ?_
  refine At.block ?_
  refine At.loop (fun fr_ hp_ ms_ => ∃ (k : Nat), fr_ = [(0, .slice ao n cap), (3, .int .i64 (k : Int))] ∧ hp_ = [R] ∧ k = ms_ ∧ (k ≤ n) ∧ (∀ i, k ≤ i → l.getD i 0 = 0)) ?_ (.refl _) ⟨n, rfl, rfl, rfl, Nat.le_refl _, fun i hi => by rw [List.getD_eq_getElem?_getD, List.getElem?_eq_none (by omega)]; rfl⟩ ?_
  · exact .cons (by first | exact lkI rfl (by omega) | rfl) (.cons (by first | exact lkI rfl (by omega) | rfl) .nil)
  rintro _ _ _ ⟨k, rfl, rfl, rfl, hk, hz⟩
  refine At.seq fun K4 hk_4 => ?_
  refine At.seq fun K5 hk_5 => ?_
  refine At.region ?_
  refine op_move (nxlf rfl) rfl rfl ?_
  refine op_gtr (nxlf rfl) rfl rfl rfl ?_
  refine op_move (nxlf rfl) rfl rfl ?_
  refine At.partP (d := 8) rfl (fun g8 => ?_) (fun g8 => ?_)
  · refine op_move (nxgf rfl rfl rfl rfl) rfl rfl ?_
    refine op_move (nxgf rfl rfl rfl rfl) rfl rfl ?_
    refine op_subI (nxgf rfl rfl rfl rfl) rfl rfl (by omega) (by omega) rfl ?_
    refine op_idx1 (nxgf rfl rfl rfl rfl) se95 rfl rfl (by assumption) (show _ = (((k - 1 : Nat)) : Int) from by omega) (by omega) rfl ?_
    refine op_loadE (nxgf rfl rfl rfl rfl) sc64 rfl (by assumption) (by first | exact get8 (by omega) | exact get64 (by omega) | exact get32 (by omega)) (by first | exact mem0 | exact mem1 | exact mem2 | exact mem3 | exact mem4 | exact mem5 | exact mem6 | exact mem7 | exact mem8 | exact mem9) rfl ?_
    refine op_eql (nxgf rfl rfl rfl rfl) rfl rfl rfl ?_
    refine op_pickT (nxlf rfl) rfl rfl rfl ?_
    refine At.opsNil ?_
    refine At.norm (hk_5 ?_)
    refine At.condP rfl (fun c15 => ?_) (fun c15 => ?_)
    · refine At.skip ?_
      refine At.norm (hk_4 ?_)
      refine At.block ?_
      refine At.region ?_
      refine op_move (nxlf rfl) rfl rfl ?_
      refine op_subI (nxlf rfl) rfl rfl (by omega) (by omega) rfl ?_
      refine op_assign (nxlf rfl) rfl rfl ?_
      refine At.opsNil ?_
      refine At.inNorm ?_
      refine At.norm ?_
      refine At.back ?_ (.refl _) ⟨k - 1, rfl, rfl, rfl, by omega, fun i hi => by rcases Nat.lt_or_ge i k with h | h; (rw [show i = k - 1 by omega]; exact u64_zero c15); exact hz i h⟩ ?_
      · exact .cons (by first | exact lkI rfl (by omega) | rfl) (.cons (by first | exact lkI rfl (by omega) | rfl) .nil)
      · omega
    · refine At.exit (At.thenExit (At.thenExit (At.inHit ?_)))
      refine At.norm (hk_3 ?_)
      refine At.seq fun K6 hk_6 => ?_
      refine At.region ?_
      refine op_move (nxlf rfl) rfl rfl ?_
      refine op_move (nxlf rfl) rfl rfl ?_
      refine op_move (nxlf rfl) rfl rfl ?_
      refine op_slice0 (nxlf rfl) se95 rfl (.some rfl (show _ = (((k : Nat)) : Int) from by omega)) (.some rfl (show _ = (((k : Nat)) : Int) from by omega)) (by omega) (by omega) (by simp) rfl ?_
      refine op_assign (nxlf rfl) rfl rfl ?_
      refine At.opsNil ?_
      refine At.norm (hk_6 ?_)
      refine At.ret (?_)
      refine At.ret1 (L1 := []) rfl (.tmp rfl .nil) (.refl _) (.refl _) ?_
      have ⟨e1, e2⟩ := trim_len (by omega) hz (.inr ⟨by omega, fun e => c15 (by rw [e]; rfl)⟩); rw [e2]; exact ⟨rfl, rfl, e1, hk⟩
  · refine op_skip rfl rfl rfl rfl rfl rfl rfl ?_
    refine op_skip rfl rfl rfl rfl rfl rfl rfl ?_
    refine op_skip rfl rfl rfl rfl rfl rfl rfl ?_
    refine op_skip rfl rfl rfl rfl rfl rfl rfl ?_
    refine op_skip rfl rfl rfl rfl rfl rfl rfl ?_
    refine op_skip rfl rfl rfl rfl rfl rfl rfl ?_
    refine op_pickF (nxlf rfl) rfl rfl rfl ?_
    refine At.opsNil ?_
    refine At.norm (hk_5 ?_)
    refine At.condF rfl ?_
    refine At.exit (At.thenExit (At.thenExit (At.inHit ?_)))
    refine At.norm (hk_3 ?_)
    refine At.seq fun K7 hk_7 => ?_
    refine At.region ?_
    refine op_move (nxlf rfl) rfl rfl ?_
    refine op_move (nxlf rfl) rfl rfl ?_
    refine op_move (nxlf rfl) rfl rfl ?_
    refine op_slice0 (nxlf rfl) se95 rfl (.some rfl (show _ = (((k : Nat)) : Int) from by omega)) (.some rfl (show _ = (((k : Nat)) : Int) from by omega)) (by omega) (by omega) (by simp) rfl ?_
    refine op_assign (nxlf rfl) rfl rfl ?_
    refine At.opsNil ?_
    refine At.norm (hk_7 ?_)
    refine At.ret (?_)
    refine At.ret1 (L1 := []) rfl (.tmp rfl .nil) (.refl _) (.refl _) ?_
    have ⟨e1, e2⟩ := trim_len (by omega) hz (.inl (by omega)); rw [e2]; exact ⟨rfl, rfl, e1, hk⟩
end Go.Proofs.Ytohmmgggaegbbaa
