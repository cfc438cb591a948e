/- Numbers: rlp.Number, rlp.Of and the reference's. No condition. -/
import Derived.Test.YtohmmgggaegbbaaYT8
import Derived.Test.YtohmmgggaegbbaaYV4
namespace Go.Proofs.Ytohmmgggaegbbaa
set_option linter.unusedVariables false
set_option linter.unusedSimpArgs false
open Go Go.RowKit
/-- The error's number. -/
def numE (b : List UInt8) : Nat := if 0 < b.length ∧ (b.getD 0 0).toNat = 0 then 2 else if 32 < b.length then 3 else 0
/-- The number. -/
def numV (b : List UInt8) : Nat := if numE b = 0 then be b else 0
theorem numE2 {b : List UInt8} (h1 : 0 < b.length) (h2 : (b.getD 0 0).toNat = 0) : numE b = 2 := by rw [numE, if_pos ⟨h1, h2⟩]
theorem numE3 {b : List UInt8} (h1 : ¬ (0 < b.length ∧ (b.getD 0 0).toNat = 0)) (h2 : 32 < b.length) : numE b = 3 := by rw [numE, if_neg h1, if_pos h2]
theorem numE0 {b : List UInt8} (h1 : ¬ (0 < b.length ∧ (b.getD 0 0).toNat = 0)) (h2 : ¬ 32 < b.length) : numE b = 0 := by rw [numE, if_neg h1, if_neg h2]
def NumP (b : List UInt8) (v : Value) (L : List Heaplet) : Prop :=
  ∃ wa wb wc wd : UInt64, v = .tuple #[.agg #[.int .u64 (wa.toNat : Int), .int .u64 (wb.toNat : Int), .int .u64 (wc.toNat : Int), .int .u64 (wd.toNat : Int)], .int .i64 (numE b : Int)] ∧ L = [] ∧ v64 [wa, wb, wc, wd] = numV b
theorem NumP.bad {b : List UInt8} {e : Nat} (h : numE b = e) (he : e ≠ 0) : NumP b (.tuple #[.agg #[.int .u64 0, .int .u64 0, .int .u64 0, .int .u64 0], .int .i64 (e : Int)]) [] := by
  refine ⟨0, 0, 0, 0, by rw [h]; rfl, rfl, ?_⟩
  rw [numV, if_neg (by omega)]; rfl
theorem NumP.good {b : List UInt8} {wa wb wc wd : UInt64} (h : numE b = 0) (hv : v64 [wa, wb, wc, wd] = be b) : NumP b (.tuple #[.agg #[.int .u64 (wa.toNat : Int), .int .u64 (wb.toNat : Int), .int .u64 (wc.toNat : Int), .int .u64 (wd.toNat : Int)], .int .i64 0]) [] :=
  ⟨wa, wb, wc, wd, by rw [h]; rfl, rfl, by rw [numV, if_pos h, hv]⟩
theorem Number_s {N : Heaplet} {ao : Option Addr} {n cap : Nat} {b : List UInt8} (h : RSl N 1 ao n cap (u8s b)) (hn : n ≤ 32) : Fn Try.prog 31 #[.slice ao n cap] [] [N] (NumP b) := by
  have hlen := h.len8
  have hcap := h.cap63
  refine Fn.enter (vs := [.slice ao n cap]) Try.func31 rfl rfl rfl ?_
  intro E R hR
  have h := h.le (hR N (by simp))
  change At _ _ E [R] _
  refine At.seq fun K1 hk_1 => ?_
  refine At.region ?_
  refine op_alloc (nxla rfl) ze66 rfl (fun N2 b2 B2 => ?_)
  change Blk N2 b2 _ [.int .u64 0, .int .u64 0, .int .u64 0, .int .u64 0] at B2
  refine op_assign (nxlf rfl) rfl rfl ?_
  refine At.opsNil ?_
  refine At.norm (hk_1 ?_)
  refine At.seq fun K2 hk_2 => ?_
  refine At.seq fun K3 hk_3 => ?_
  refine At.region ?_
  refine op_move (nxlf rfl) rfl rfl ?_
  refine op_lenS (nxlf rfl) se22 rfl rfl ?_
  refine op_gtr (nxlf rfl) rfl rfl rfl ?_
  refine op_move (nxlf rfl) rfl rfl ?_
  refine At.partP (d := 9) rfl (fun g9 => ?_) (fun g9 => ?_)
  · refine op_move (nxgf rfl rfl rfl rfl) rfl rfl ?_
    refine op_idx1 (nxgf rfl rfl rfl rfl) se22 rfl rfl (by assumption) (show _ = ((0 : Nat) : Int) from rfl) (by omega) rfl ?_
    refine op_loadE (nxgf rfl rfl rfl rfl) sc5 rfl (by assumption) (by first | exact get8 (by omega) | exact get64 (by omega) | exact get32 (by omega)) (by first | exact mem0 | exact mem1 | exact mem2 | exact mem3 | exact mem4 | exact mem5 | exact mem6 | exact mem7 | exact mem8 | exact mem9) rfl ?_
    refine op_eql (nxgf rfl rfl rfl rfl) rfl rfl rfl ?_
    refine op_pickT (nxlf rfl) rfl rfl rfl ?_
    refine At.opsNil ?_
    refine At.norm (hk_3 ?_)
    refine At.condP rfl (fun c14 => ?_) (fun c14 => ?_)
    · refine At.seq fun K4 hk_4 => ?_
      refine At.region ?_
      refine op_buildA (out := [.int .u64 0, .int .u64 0, .int .u64 0, .int .u64 0]) (nxlf rfl) ze66 ae66 .nil rfl rfl ?_
      refine op_store (nxl rfl) sz66 rfl rfl rfl rfl rfl B2 (by simp) sel0 (fun N2 B2 => ?_)
      simp only [setL, List.set] at B2
      refine op_assign (nxlf rfl) rfl rfl ?_
      refine At.opsNil ?_
      refine At.norm (hk_4 ?_)
      refine At.ret (At.thenRet (?_))
      refine At.retN (L1 := []) rfl (.cell rfl (res_agg (ds := [_, _, _, _]) ag66 B2 rfl rfl mem0) (.tmp rfl .nil)) rfl (.cons _ (.refl _)) (.refl _) ?_
      exact NumP.bad (numE2 (by omega) (by omega)) (by decide)
    · refine At.skip ?_
      refine At.norm (hk_2 ?_)
      refine At.seq fun K5 hk_5 => ?_
      refine At.region ?_
      refine op_move (nxlf rfl) rfl rfl ?_
      refine op_callA (nxla rfl) (.cons rfl .nil) (WFrom_f h hn) Try.func48 rfl rfl (by simp) rfl ?_
      rintro v18 L18 ⟨wa, wb, wc, wd, rfl, rfl, hw⟩
      change At _ _ _ [N2, R] _
      refine op_move (nxlf rfl) rfl rfl ?_
      refine op_extract (nxlf rfl) rfl rfl rfl ?_
      refine op_extract (nxlf rfl) rfl rfl rfl ?_
      refine op_alloc (nxla rfl) ze66 rfl (fun N4 b4 B4 => ?_)
      change Blk N4 b4 _ [.int .u64 0, .int .u64 0, .int .u64 0, .int .u64 0] at B4
      refine op_store (nxl rfl) sz66 rfl rfl rfl rfl rfl B4 (by simp) sel0 (fun N4 B4 => ?_)
      simp only [setL, List.set] at B4
      refine op_assign (nxlf rfl) rfl rfl ?_
      refine At.opsNil ?_
      refine At.norm (hk_5 ?_)
      refine At.seq fun K6 hk_6 => ?_
      refine At.seq fun K7 hk_7 => ?_
      refine At.region ?_
      refine op_move (nxlf rfl) rfl rfl ?_
      refine op_not (nxlf rfl) rfl rfl ?_
      refine At.opsNil ?_
      refine At.norm (hk_7 ?_)
      refine At.condF rfl ?_
      refine At.skip ?_
      refine At.norm (hk_6 ?_)
      refine At.seq fun K8 hk_8 => ?_
      refine At.region ?_
      refine op_loadAggB (ds := [_, _, _, _]) (nxlf rfl) ag66 rfl B4 rfl rfl mem0 rfl ?_
      refine op_store (nxl rfl) sz66 rfl rfl rfl rfl rfl B2 (by simp) sel1 (fun N2 B2 => ?_)
      simp only [setL, List.set] at B2
      refine op_assign (nxlf rfl) rfl rfl ?_
      refine At.opsNil ?_
      refine At.norm (hk_8 ?_)
      refine At.ret (?_)
      refine At.sub (L' := [N2, R]) (.cons_cons _ (.cons _ (.cons_cons _ (.slnil)))) ?_
      refine At.retN (L1 := []) rfl (.cell rfl (res_agg (ds := [_, _, _, _]) ag66 B2 rfl rfl mem0) (.tmp rfl .nil)) rfl (.cons _ (.refl _)) (.refl _) ?_
      exact NumP.good (numE0 (by omega) (by omega)) hw
  · refine op_skip rfl rfl rfl rfl rfl rfl rfl ?_
    refine op_skip rfl rfl rfl rfl rfl rfl rfl ?_
    refine op_skip rfl rfl rfl rfl rfl rfl rfl ?_
    refine op_skip rfl rfl rfl rfl rfl rfl rfl ?_
    refine op_pickF (nxlf rfl) rfl rfl rfl ?_
    refine At.opsNil ?_
    refine At.norm (hk_3 ?_)
    refine At.condF rfl ?_
    refine At.skip ?_
    refine At.norm (hk_2 ?_)
    refine At.seq fun K9 hk_9 => ?_
    refine At.region ?_
    refine op_move (nxlf rfl) rfl rfl ?_
    refine op_callA (nxla rfl) (.cons rfl .nil) (WFrom_f h hn) Try.func48 rfl rfl (by simp) rfl ?_
    rintro v18 L18 ⟨wa, wb, wc, wd, rfl, rfl, hw⟩
    change At _ _ _ [N2, R] _
    refine op_move (nxlf rfl) rfl rfl ?_
    refine op_extract (nxlf rfl) rfl rfl rfl ?_
    refine op_extract (nxlf rfl) rfl rfl rfl ?_
    refine op_alloc (nxla rfl) ze66 rfl (fun N4 b4 B4 => ?_)
    change Blk N4 b4 _ [.int .u64 0, .int .u64 0, .int .u64 0, .int .u64 0] at B4
    refine op_store (nxl rfl) sz66 rfl rfl rfl rfl rfl B4 (by simp) sel0 (fun N4 B4 => ?_)
    simp only [setL, List.set] at B4
    refine op_assign (nxlf rfl) rfl rfl ?_
    refine At.opsNil ?_
    refine At.norm (hk_9 ?_)
    refine At.seq fun K10 hk_10 => ?_
    refine At.seq fun K11 hk_11 => ?_
    refine At.region ?_
    refine op_move (nxlf rfl) rfl rfl ?_
    refine op_not (nxlf rfl) rfl rfl ?_
    refine At.opsNil ?_
    refine At.norm (hk_11 ?_)
    refine At.condF rfl ?_
    refine At.skip ?_
    refine At.norm (hk_10 ?_)
    refine At.seq fun K12 hk_12 => ?_
    refine At.region ?_
    refine op_loadAggB (ds := [_, _, _, _]) (nxlf rfl) ag66 rfl B4 rfl rfl mem0 rfl ?_
    refine op_store (nxl rfl) sz66 rfl rfl rfl rfl rfl B2 (by simp) sel1 (fun N2 B2 => ?_)
    simp only [setL, List.set] at B2
    refine op_assign (nxlf rfl) rfl rfl ?_
    refine At.opsNil ?_
    refine At.norm (hk_12 ?_)
    refine At.ret (?_)
    refine At.sub (L' := [N2, R]) (.cons_cons _ (.cons _ (.cons_cons _ (.slnil)))) ?_
    refine At.retN (L1 := []) rfl (.cell rfl (res_agg (ds := [_, _, _, _]) ag66 B2 rfl rfl mem0) (.tmp rfl .nil)) rfl (.cons _ (.refl _)) (.refl _) ?_
    exact NumP.good (numE0 (by omega) (by omega)) hw
theorem Number_l {N : Heaplet} {ao : Option Addr} {n cap : Nat} {b : List UInt8} (h : RSl N 1 ao n cap (u8s b)) (hn : 32 < n) : Fn Try.prog 31 #[.slice ao n cap] [] [N] (NumP b) := by
  have hlen := h.len8
  have hcap := h.cap63
  refine Fn.enter (vs := [.slice ao n cap]) Try.func31 rfl rfl rfl ?_
  intro E R hR
  have h := h.le (hR N (by simp))
  change At _ _ E [R] _
  refine At.seq fun K1 hk_1 => ?_
  refine At.region ?_
  refine op_alloc (nxla rfl) ze66 rfl (fun N2 b2 B2 => ?_)
  change Blk N2 b2 _ [.int .u64 0, .int .u64 0, .int .u64 0, .int .u64 0] at B2
  refine op_assign (nxlf rfl) rfl rfl ?_
  refine At.opsNil ?_
  refine At.norm (hk_1 ?_)
  refine At.seq fun K2 hk_2 => ?_
  refine At.seq fun K3 hk_3 => ?_
  refine At.region ?_
  refine op_move (nxlf rfl) rfl rfl ?_
  refine op_lenS (nxlf rfl) se22 rfl rfl ?_
  refine op_gtr (nxlf rfl) rfl rfl rfl ?_
  refine op_move (nxlf rfl) rfl rfl ?_
  refine At.partP (d := 9) rfl (fun g9 => ?_) (fun g9 => ?_)
  · refine op_move (nxgf rfl rfl rfl rfl) rfl rfl ?_
    refine op_idx1 (nxgf rfl rfl rfl rfl) se22 rfl rfl (by assumption) (show _ = ((0 : Nat) : Int) from rfl) (by omega) rfl ?_
    refine op_loadE (nxgf rfl rfl rfl rfl) sc5 rfl (by assumption) (by first | exact get8 (by omega) | exact get64 (by omega) | exact get32 (by omega)) (by first | exact mem0 | exact mem1 | exact mem2 | exact mem3 | exact mem4 | exact mem5 | exact mem6 | exact mem7 | exact mem8 | exact mem9) rfl ?_
    refine op_eql (nxgf rfl rfl rfl rfl) rfl rfl rfl ?_
    refine op_pickT (nxlf rfl) rfl rfl rfl ?_
    refine At.opsNil ?_
    refine At.norm (hk_3 ?_)
    refine At.condP rfl (fun c14 => ?_) (fun c14 => ?_)
    · refine At.seq fun K4 hk_4 => ?_
      refine At.region ?_
      refine op_buildA (out := [.int .u64 0, .int .u64 0, .int .u64 0, .int .u64 0]) (nxlf rfl) ze66 ae66 .nil rfl rfl ?_
      refine op_store (nxl rfl) sz66 rfl rfl rfl rfl rfl B2 (by simp) sel0 (fun N2 B2 => ?_)
      simp only [setL, List.set] at B2
      refine op_assign (nxlf rfl) rfl rfl ?_
      refine At.opsNil ?_
      refine At.norm (hk_4 ?_)
      refine At.ret (At.thenRet (?_))
      refine At.retN (L1 := []) rfl (.cell rfl (res_agg (ds := [_, _, _, _]) ag66 B2 rfl rfl mem0) (.tmp rfl .nil)) rfl (.cons _ (.refl _)) (.refl _) ?_
      exact NumP.bad (numE2 (by omega) (by omega)) (by decide)
    · refine At.skip ?_
      refine At.norm (hk_2 ?_)
      refine At.seq fun K5 hk_5 => ?_
      refine At.region ?_
      refine op_move (nxlf rfl) rfl rfl ?_
      refine op_callA (nxla rfl) (.cons rfl .nil) (WFrom_long h hn) Try.func48 rfl rfl (by simp) rfl ?_
      rintro v18 L18 ⟨rfl, rfl⟩
      change At _ _ _ [N2, R] _
      refine op_move (nxlf rfl) rfl rfl ?_
      refine op_extract (nxlf rfl) rfl rfl rfl ?_
      refine op_extract (nxlf rfl) rfl rfl rfl ?_
      refine op_alloc (nxla rfl) ze66 rfl (fun N4 b4 B4 => ?_)
      change Blk N4 b4 _ [.int .u64 0, .int .u64 0, .int .u64 0, .int .u64 0] at B4
      refine op_store (nxl rfl) sz66 rfl rfl rfl rfl rfl B4 (by simp) sel0 (fun N4 B4 => ?_)
      simp only [setL, List.set] at B4
      refine op_assign (nxlf rfl) rfl rfl ?_
      refine At.opsNil ?_
      refine At.norm (hk_5 ?_)
      refine At.seq fun K6 hk_6 => ?_
      refine At.seq fun K7 hk_7 => ?_
      refine At.region ?_
      refine op_move (nxlf rfl) rfl rfl ?_
      refine op_not (nxlf rfl) rfl rfl ?_
      refine At.opsNil ?_
      refine At.norm (hk_7 ?_)
      refine At.condT rfl ?_
      refine At.seq fun K8 hk_8 => ?_
      refine At.region ?_
      refine op_buildA (out := [.int .u64 0, .int .u64 0, .int .u64 0, .int .u64 0]) (nxlf rfl) ze66 ae66 .nil rfl rfl ?_
      refine op_store (nxl rfl) sz66 rfl rfl rfl rfl rfl B2 (by simp) sel1 (fun N2 B2 => ?_)
      simp only [setL, List.set] at B2
      refine op_assign (nxlf rfl) rfl rfl ?_
      refine At.opsNil ?_
      refine At.norm (hk_8 ?_)
      refine At.ret (At.thenRet (?_))
      refine At.sub (L' := [N2, R]) (.cons_cons _ (.cons _ (.cons_cons _ (.slnil)))) ?_
      refine At.retN (L1 := []) rfl (.cell rfl (res_agg (ds := [_, _, _, _]) ag66 B2 rfl rfl mem0) (.tmp rfl .nil)) rfl (.cons _ (.refl _)) (.refl _) ?_
      exact NumP.bad (numE3 (by omega) (by omega)) (by decide)
  · refine op_skip rfl rfl rfl rfl rfl rfl rfl ?_
    refine op_skip rfl rfl rfl rfl rfl rfl rfl ?_
    refine op_skip rfl rfl rfl rfl rfl rfl rfl ?_
    refine op_skip rfl rfl rfl rfl rfl rfl rfl ?_
    refine op_pickF (nxlf rfl) rfl rfl rfl ?_
    refine At.opsNil ?_
    refine At.norm (hk_3 ?_)
    refine At.condF rfl ?_
    refine At.skip ?_
    refine At.norm (hk_2 ?_)
    refine At.seq fun K9 hk_9 => ?_
    refine At.region ?_
    refine op_move (nxlf rfl) rfl rfl ?_
    refine op_callA (nxla rfl) (.cons rfl .nil) (WFrom_long h hn) Try.func48 rfl rfl (by simp) rfl ?_
    rintro v18 L18 ⟨rfl, rfl⟩
    change At _ _ _ [N2, R] _
    refine op_move (nxlf rfl) rfl rfl ?_
    refine op_extract (nxlf rfl) rfl rfl rfl ?_
    refine op_extract (nxlf rfl) rfl rfl rfl ?_
    refine op_alloc (nxla rfl) ze66 rfl (fun N4 b4 B4 => ?_)
    change Blk N4 b4 _ [.int .u64 0, .int .u64 0, .int .u64 0, .int .u64 0] at B4
    refine op_store (nxl rfl) sz66 rfl rfl rfl rfl rfl B4 (by simp) sel0 (fun N4 B4 => ?_)
    simp only [setL, List.set] at B4
    refine op_assign (nxlf rfl) rfl rfl ?_
    refine At.opsNil ?_
    refine At.norm (hk_9 ?_)
    refine At.seq fun K10 hk_10 => ?_
    refine At.seq fun K11 hk_11 => ?_
    refine At.region ?_
    refine op_move (nxlf rfl) rfl rfl ?_
    refine op_not (nxlf rfl) rfl rfl ?_
    refine At.opsNil ?_
    refine At.norm (hk_11 ?_)
    refine At.condT rfl ?_
    refine At.seq fun K12 hk_12 => ?_
    refine At.region ?_
    refine op_buildA (out := [.int .u64 0, .int .u64 0, .int .u64 0, .int .u64 0]) (nxlf rfl) ze66 ae66 .nil rfl rfl ?_
    refine op_store (nxl rfl) sz66 rfl rfl rfl rfl rfl B2 (by simp) sel1 (fun N2 B2 => ?_)
    simp only [setL, List.set] at B2
    refine op_assign (nxlf rfl) rfl rfl ?_
    refine At.opsNil ?_
    refine At.norm (hk_12 ?_)
    refine At.ret (At.thenRet (?_))
    refine At.sub (L' := [N2, R]) (.cons_cons _ (.cons _ (.cons_cons _ (.slnil)))) ?_
    refine At.retN (L1 := []) rfl (.cell rfl (res_agg (ds := [_, _, _, _]) ag66 B2 rfl rfl mem0) (.tmp rfl .nil)) rfl (.cons _ (.refl _)) (.refl _) ?_
    exact NumP.bad (numE3 (by omega) (by omega)) (by decide)
theorem Number_f {N : Heaplet} {ao : Option Addr} {n cap : Nat} {b : List UInt8} (h : RSl N 1 ao n cap (u8s b)) : Fn Try.prog 31 #[.slice ao n cap] [] [N] (NumP b) := by
  rcases Nat.lt_or_ge 32 n with hn | hn
  · exact Number_l h hn
  · exact Number_s h hn
theorem rNumber_f {N : Heaplet} {ao : Option Addr} {n cap : Nat} {b : List UInt8} (h : RSl N 1 ao n cap (u8s b)) : Fn Try.prog 32 #[.slice ao n cap] [] [N] (NumP b) := by
  have hlen := h.len8
  have hcap := h.cap63
  have hbl := be_lt b
  refine Fn.enter (vs := [.slice ao n cap]) Try.func32 rfl rfl rfl ?_
  intro E R hR
  have h := h.le (hR N (by simp))
  change At _ _ E [R] _
  refine At.seq fun K1 hk_1 => ?_
  refine At.region ?_
  refine op_alloc (nxla rfl) ze66 rfl (fun N2 b2 B2 => ?_)
  change Blk N2 b2 _ [.int .u64 0, .int .u64 0, .int .u64 0, .int .u64 0] at B2
  refine op_assign (nxlf rfl) rfl rfl ?_
  refine At.opsNil ?_
  refine At.norm (hk_1 ?_)
  refine At.seq fun K2 hk_2 => ?_
  refine At.seq fun K3 hk_3 => ?_
  refine At.region ?_
  refine op_move (nxlf rfl) rfl rfl ?_
  refine op_lenS (nxlf rfl) se22 rfl rfl ?_
  refine op_gtr (nxlf rfl) rfl rfl rfl ?_
  refine op_move (nxlf rfl) rfl rfl ?_
  refine At.partP (d := 7) rfl (fun g7 => ?_) (fun g7 => ?_)
  · refine op_move (nxgf rfl rfl rfl rfl) rfl rfl ?_
    refine op_idx1 (nxgf rfl rfl rfl rfl) se22 rfl rfl (by assumption) (show _ = ((0 : Nat) : Int) from rfl) (by omega) rfl ?_
    refine op_loadE (nxgf rfl rfl rfl rfl) sc5 rfl (by assumption) (by first | exact get8 (by omega) | exact get64 (by omega) | exact get32 (by omega)) (by first | exact mem0 | exact mem1 | exact mem2 | exact mem3 | exact mem4 | exact mem5 | exact mem6 | exact mem7 | exact mem8 | exact mem9) rfl ?_
    refine op_eql (nxgf rfl rfl rfl rfl) rfl rfl rfl ?_
    refine op_pickT (nxlf rfl) rfl rfl rfl ?_
    refine At.opsNil ?_
    refine At.norm (hk_3 ?_)
    refine At.condP rfl (fun c12 => ?_) (fun c12 => ?_)
    · refine At.seq fun K4 hk_4 => ?_
      refine At.region ?_
      refine op_buildA (out := [.int .u64 0, .int .u64 0, .int .u64 0, .int .u64 0]) (nxlf rfl) ze66 ae66 .nil rfl rfl ?_
      refine op_store (nxl rfl) sz66 rfl rfl rfl rfl rfl B2 (by simp) sel0 (fun N2 B2 => ?_)
      simp only [setL, List.set] at B2
      refine op_assign (nxlf rfl) rfl rfl ?_
      refine At.opsNil ?_
      refine At.norm (hk_4 ?_)
      refine At.ret (At.thenRet (?_))
      refine At.retN (L1 := []) rfl (.cell rfl (res_agg (ds := [_, _, _, _]) ag66 B2 rfl rfl mem0) (.tmp rfl .nil)) rfl (.cons _ (.refl _)) (.refl _) ?_
      exact NumP.bad (numE2 (by omega) (by omega)) (by decide)
    · refine At.skip ?_
      refine At.norm (hk_2 ?_)
      refine At.seq fun K5 hk_5 => ?_
      refine At.seq fun K6 hk_6 => ?_
      refine At.region ?_
      refine op_move (nxlf rfl) rfl rfl ?_
      refine op_lenS (nxlf rfl) se22 rfl rfl ?_
      refine op_gtr (nxlf rfl) rfl rfl rfl ?_
      refine At.opsNil ?_
      refine At.norm (hk_6 ?_)
      refine At.condP rfl (fun c16 => ?_) (fun c16 => ?_)
      · refine At.seq fun K7 hk_7 => ?_
        refine At.region ?_
        refine op_buildA (out := [.int .u64 0, .int .u64 0, .int .u64 0, .int .u64 0]) (nxlf rfl) ze66 ae66 .nil rfl rfl ?_
        refine op_store (nxl rfl) sz66 rfl rfl rfl rfl rfl B2 (by simp) sel0 (fun N2 B2 => ?_)
        simp only [setL, List.set] at B2
        refine op_assign (nxlf rfl) rfl rfl ?_
        refine At.opsNil ?_
        refine At.norm (hk_7 ?_)
        refine At.ret (At.thenRet (?_))
        refine At.retN (L1 := []) rfl (.cell rfl (res_agg (ds := [_, _, _, _]) ag66 B2 rfl rfl mem0) (.tmp rfl .nil)) rfl (.cons _ (.refl _)) (.refl _) ?_
        exact NumP.bad (numE3 (by omega) (by omega)) (by decide)
      · refine At.skip ?_
        refine At.norm (hk_5 ?_)
        refine At.seq fun K8 hk_8 => ?_
        refine At.region ?_
        refine op_move (nxlf rfl) rfl rfl ?_
        refine op_callA (nxla rfl) (.cons rfl .nil) (rFrom_f h (by omega)) Try.func40 rfl rfl (by simp) rfl ?_
        rintro v19 L19 ⟨M19, a19, c19, rfl, rfl, s19⟩
        change At _ _ _ [M19, N2, R] _
        refine op_callA (nxla rfl) (.cons rfl .nil) (rW_f s19) Try.func43 rfl rfl (by simp) rfl ?_
        rintro v20 L20 ⟨rfl, wa, wb, wc, wd, rfl, hw⟩
        change At _ _ _ [M19, N2, R] _
        have hbe : be b < 2 ^ 256 := Nat.lt_of_lt_of_le hbl (Nat.le_trans (Nat.pow_le_pow_right (by decide) (show b.length ≤ 32 by omega)) (by decide))
        rw [v32_digsOf, Nat.mod_eq_of_lt hbe] at hw
        refine op_store (nxl rfl) sz66 rfl rfl rfl rfl rfl B2 (by simp) sel1 (fun N2 B2 => ?_)
        simp only [setL, List.set] at B2
        refine op_assign (nxlf rfl) rfl rfl ?_
        refine At.opsNil ?_
        refine At.norm (hk_8 ?_)
        refine At.ret (?_)
        refine At.sub (L' := [N2, R]) (.cons_cons _ (.cons _ (.cons_cons _ (.slnil)))) ?_
        refine At.retN (L1 := []) rfl (.cell rfl (res_agg (ds := [_, _, _, _]) ag66 B2 rfl rfl mem0) (.tmp rfl .nil)) rfl (.cons _ (.refl _)) (.refl _) ?_
        exact NumP.good (numE0 (by omega) (by omega)) hw
  · refine op_skip rfl rfl rfl rfl rfl rfl rfl ?_
    refine op_skip rfl rfl rfl rfl rfl rfl rfl ?_
    refine op_skip rfl rfl rfl rfl rfl rfl rfl ?_
    refine op_skip rfl rfl rfl rfl rfl rfl rfl ?_
    refine op_pickF (nxlf rfl) rfl rfl rfl ?_
    refine At.opsNil ?_
    refine At.norm (hk_3 ?_)
    refine At.condF rfl ?_
    refine At.skip ?_
    refine At.norm (hk_2 ?_)
    refine At.seq fun K9 hk_9 => ?_
    refine At.seq fun K10 hk_10 => ?_
    refine At.region ?_
    refine op_move (nxlf rfl) rfl rfl ?_
    refine op_lenS (nxlf rfl) se22 rfl rfl ?_
    refine op_gtr (nxlf rfl) rfl rfl rfl ?_
    refine At.opsNil ?_
    refine At.norm (hk_10 ?_)
    refine At.condP rfl (fun c16 => ?_) (fun c16 => ?_)
    · refine At.seq fun K11 hk_11 => ?_
      refine At.region ?_
      refine op_buildA (out := [.int .u64 0, .int .u64 0, .int .u64 0, .int .u64 0]) (nxlf rfl) ze66 ae66 .nil rfl rfl ?_
      refine op_store (nxl rfl) sz66 rfl rfl rfl rfl rfl B2 (by simp) sel0 (fun N2 B2 => ?_)
      simp only [setL, List.set] at B2
      refine op_assign (nxlf rfl) rfl rfl ?_
      refine At.opsNil ?_
      refine At.norm (hk_11 ?_)
      refine At.ret (At.thenRet (?_))
      refine At.retN (L1 := []) rfl (.cell rfl (res_agg (ds := [_, _, _, _]) ag66 B2 rfl rfl mem0) (.tmp rfl .nil)) rfl (.cons _ (.refl _)) (.refl _) ?_
      exact NumP.bad (numE3 (by omega) (by omega)) (by decide)
    · refine At.skip ?_
      refine At.norm (hk_9 ?_)
      refine At.seq fun K12 hk_12 => ?_
      refine At.region ?_
      refine op_move (nxlf rfl) rfl rfl ?_
      refine op_callA (nxla rfl) (.cons rfl .nil) (rFrom_f h (by omega)) Try.func40 rfl rfl (by simp) rfl ?_
      rintro v19 L19 ⟨M19, a19, c19, rfl, rfl, s19⟩
      change At _ _ _ [M19, N2, R] _
      refine op_callA (nxla rfl) (.cons rfl .nil) (rW_f s19) Try.func43 rfl rfl (by simp) rfl ?_
      rintro v20 L20 ⟨rfl, wa, wb, wc, wd, rfl, hw⟩
      change At _ _ _ [M19, N2, R] _
      have hbe : be b < 2 ^ 256 := Nat.lt_of_lt_of_le hbl (Nat.le_trans (Nat.pow_le_pow_right (by decide) (show b.length ≤ 32 by omega)) (by decide))
      rw [v32_digsOf, Nat.mod_eq_of_lt hbe] at hw
      refine op_store (nxl rfl) sz66 rfl rfl rfl rfl rfl B2 (by simp) sel1 (fun N2 B2 => ?_)
      simp only [setL, List.set] at B2
      refine op_assign (nxlf rfl) rfl rfl ?_
      refine At.opsNil ?_
      refine At.norm (hk_12 ?_)
      refine At.ret (?_)
      refine At.sub (L' := [N2, R]) (.cons_cons _ (.cons _ (.cons_cons _ (.slnil)))) ?_
      refine At.retN (L1 := []) rfl (.cell rfl (res_agg (ds := [_, _, _, _]) ag66 B2 rfl rfl mem0) (.tmp rfl .nil)) rfl (.cons _ (.refl _)) (.refl _) ?_
      exact NumP.good (numE0 (by omega) (by omega)) hw
def OfP (a b c d : UInt64) (v : Value) (L : List Heaplet) : Prop :=
  ∃ M p k, v = .agg #[.bool false, .slice p (bytesOf (v64 [a, b, c, d])).length k, .slice none 0 0] ∧ L = [M] ∧ Row M 5 1 p (bytesOf (v64 [a, b, c, d])).length k (u8s (bytesOf (v64 [a, b, c, d])))
theorem Of_f (a b c d : UInt64) : Fn Try.prog 28 #[.agg #[.int .u64 (a.toNat : Int), .int .u64 (b.toNat : Int), .int .u64 (c.toNat : Int), .int .u64 (d.toNat : Int)]] [] [] (OfP a b c d) := by
  refine Fn.enter (vs := [.agg #[.int .u64 (a.toNat : Int), .int .u64 (b.toNat : Int), .int .u64 (c.toNat : Int), .int .u64 (d.toNat : Int)]]) Try.func28 rfl rfl rfl ?_
  intro E R hR
  change At _ _ E [R] _
  refine At.seq fun K1 hk_1 => ?_
  refine At.region ?_
  refine op_box (nxla rfl) rfl rfl rfl (fun N1 b1 B1 => ?_)
  refine op_alloc (nxla rfl) ze25 rfl (fun N2 b2 B2 => ?_)
  change Blk N2 b2 _ [.bool false, .slice none 0 0, .slice none 0 0] at B2
  refine At.opsNil ?_
  refine At.norm (hk_1 ?_)
  refine At.seq fun K2 hk_2 => ?_
  refine At.region ?_
  refine op_loadAggB (ds := [_, _, _, _]) (nxlf rfl) ag66 rfl B1 rfl rfl mem1 rfl ?_
  refine op_callA (nxla rfl) (.cons rfl .nil) (WShort_f a b c d) Try.func45 rfl rfl (by simp) rfl ?_
  rintro v4 L4 ⟨M4, p, k, rfl, rfl, r4⟩
  change At _ _ _ [M4, N2, N1, R] _
  refine op_build (out := [.bool false, _, .slice none 0 0]) (nxlf rfl) ze25 pl25 (.cons rfl .nil) rfl rfl ?_
  refine op_store (nxl rfl) sz25 rfl rfl rfl rfl rfl B2 (by simp) sel1 (fun N2 B2 => ?_)
  simp only [setL, List.set] at B2
  refine At.opsNil ?_
  refine At.norm (hk_2 ?_)
  refine At.ret (?_)
  refine At.sub (L' := [N2, M4, R]) (.cons_cons _ (.cons_cons _ (.cons _ (.cons_cons _ (.slnil))))) ?_
  refine At.ret1 (L1 := [M4]) rfl (.cell rfl (res_agg (ds := [_, _, _]) ag25 B2 rfl rfl mem0) .nil) (.cons _ (.refl _)) (.refl _) ?_
  exact ⟨M4, p, k, rfl, rfl, r4⟩
theorem rOf_f (a b c d : UInt64) : Fn Try.prog 33 #[.agg #[.int .u64 (a.toNat : Int), .int .u64 (b.toNat : Int), .int .u64 (c.toNat : Int), .int .u64 (d.toNat : Int)]] [] [] (OfP a b c d) := by
  refine Fn.enter (vs := [.agg #[.int .u64 (a.toNat : Int), .int .u64 (b.toNat : Int), .int .u64 (c.toNat : Int), .int .u64 (d.toNat : Int)]]) Try.func33 rfl rfl rfl ?_
  intro E R hR
  change At _ _ E [R] _
  refine At.seq fun K1 hk_1 => ?_
  refine At.region ?_
  refine op_box (nxla rfl) rfl rfl rfl (fun N1 b1 B1 => ?_)
  refine op_alloc (nxla rfl) ze25 rfl (fun N2 b2 B2 => ?_)
  change Blk N2 b2 _ [.bool false, .slice none 0 0, .slice none 0 0] at B2
  refine At.opsNil ?_
  refine At.norm (hk_1 ?_)
  refine At.seq fun K2 hk_2 => ?_
  refine At.region ?_
  refine op_loadAggB (ds := [_, _, _, _]) (nxlf rfl) ag66 rfl B1 rfl rfl mem1 rfl ?_
  refine op_callA (nxla rfl) (.cons rfl .nil) (rShort_f a b c d) Try.func49 rfl rfl (by simp) rfl ?_
  rintro v4 L4 ⟨M4, p, k, rfl, rfl, r4⟩
  change At _ _ _ [M4, N2, N1, R] _
  refine op_build (out := [.bool false, _, .slice none 0 0]) (nxlf rfl) ze25 pl25 (.cons rfl .nil) rfl rfl ?_
  refine op_store (nxl rfl) sz25 rfl rfl rfl rfl rfl B2 (by simp) sel1 (fun N2 B2 => ?_)
  simp only [setL, List.set] at B2
  refine At.opsNil ?_
  refine At.norm (hk_2 ?_)
  refine At.ret (?_)
  refine At.sub (L' := [N2, M4, R]) (.cons_cons _ (.cons_cons _ (.cons _ (.cons_cons _ (.slnil))))) ?_
  refine At.ret1 (L1 := [M4]) rfl (.cell rfl (res_agg (ds := [_, _, _]) ag25 B2 rfl rfl mem0) .nil) (.cons _ (.refl _)) (.refl _) ?_
  exact ⟨M4, p, k, rfl, rfl, r4⟩
end Go.Proofs.Ytohmmgggaegbbaa
