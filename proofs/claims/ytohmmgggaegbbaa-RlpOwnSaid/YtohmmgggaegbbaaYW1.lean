/- rlp.Decode; quarrylaw05.wakes holds. No condition but that bytes are not longer than a machine holds. -/
import Derived.Test.YtohmmgggaegbbaaYD1
import Derived.Test.YtohmmgggaegbbaaYE4
namespace Go.Proofs.Ytohmmgggaegbbaa
set_option linter.unusedVariables false
set_option linter.unusedSimpArgs false
open Go Go.RowKit
/-- The item that bytes tell, or the error's number. -/
def decodeF (b : List UInt8) : Except Nat It := match decF 1024 b with
  | .error e => .error e
  | .ok (t, q) => if q.length = 0 then .ok t else .error 2
def DecodeP (r : Except Nat It) (v : Value) (L : List Heaplet) : Prop :=
  (∃ t M, ∃ x : IV, r = .ok t ∧ v = .tuple #[.agg #[.bool x.l, .slice x.ab x.nb x.cb, .slice x.ai x.ni x.ci], .int .i64 0] ∧ L = [M] ∧ ItN M t x) ∨
  (∃ e : Nat, r = .error e ∧ v = .tuple #[.agg #[.bool false, .slice none 0 0, .slice none 0 0], .int .i64 (e : Int)] ∧ L = [] ∧ e ≠ 0)
theorem Decode_f {N : Heaplet} {ao : Option Addr} {n cap : Nat} {b : List UInt8} (h : RSl N 1 ao n cap (u8s b)) (hn : n ≤ 1099511627776) :
    Fn Try.prog 17 #[.slice ao n cap] [] [N] (DecodeP (decodeF b)) := by
  refine Fn.enter (vs := [.slice ao n cap]) Try.func17 rfl rfl rfl ?_
  intro E R hR
  have h := h.le (hR N (by simp))
  change At _ _ E [R] _
  refine At.seq fun K1 hk_1 => ?_
  refine At.region ?_
  refine op_alloc (nxla rfl) ze25 rfl (fun N2 b2 B2 => ?_)
  change Blk N2 b2 _ [.bool false, .slice none 0 0, .slice none 0 0] at B2
  refine op_assign (nxlf rfl) rfl rfl ?_
  refine At.opsNil ?_
  refine At.norm (hk_1 ?_)
  refine At.seq fun K2 hk_2 => ?_
  refine At.region ?_
  refine op_move (nxlf rfl) rfl rfl ?_
  refine op_callA (nxla rfl) (.cons rfl (.cons rfl .nil)) (decode_f 1024 R ao n cap b 0 h hn (by omega) (by omega)) Try.func37 rfl rfl (by simp) rfl ?_
  rintro v9 L9 (⟨t, q, M9, x, aq, cq, he, rfl, rfl, hi, hq⟩ | ⟨e, he, rfl, rfl, hne⟩)
  · change At _ _ _ [M9, N2, R] _
    refine op_move (nxlf rfl) rfl rfl ?_
    refine op_extract (nxlf rfl) rfl rfl rfl ?_
    refine op_extract (nxlf rfl) rfl rfl rfl ?_
    refine op_extract (nxlf rfl) rfl rfl rfl ?_
    refine op_alloc (nxla rfl) ze25 rfl (fun N4 b4 B4 => ?_)
    change Blk N4 b4 _ [.bool false, .slice none 0 0, .slice none 0 0] at B4
    refine op_store (nxl rfl) sz25 rfl rfl rfl rfl rfl B4 (by simp) sel0 (fun N4 B4 => ?_)
    simp only [setL, List.set] at B4
    refine op_assign (nxlf rfl) rfl rfl ?_
    refine op_assign (nxlf rfl) rfl rfl ?_
    refine At.opsNil ?_
    refine At.norm (hk_2 ?_)
    refine At.seq fun K3 hk_3 => ?_
    refine At.seq fun K4 hk_4 => ?_
    refine At.region ?_
    refine op_move (nxlf rfl) rfl rfl ?_
    refine op_eql (nxlf rfl) rfl rfl rfl ?_
    refine op_move (nxlf rfl) rfl rfl ?_
    refine At.partP (d := 15) rfl (fun g15 => ?_) (fun g15 => ?_)
    · refine op_move (nxgf rfl rfl rfl rfl) rfl rfl ?_
      refine op_lenS (nxgf rfl rfl rfl rfl) se22 rfl rfl ?_
      refine op_gtr (nxgf rfl rfl rfl rfl) rfl rfl rfl ?_
      refine op_pickT (nxlf rfl) rfl rfl rfl ?_
      refine At.opsNil ?_
      refine At.norm (hk_4 ?_)
      refine At.condP rfl (fun c19 => ?_) (fun c19 => ?_)
      · refine At.seq fun K5 hk_5 => ?_
        refine At.region ?_
        refine op_build (out := [.bool false, .slice none 0 0, .slice none 0 0]) (nxlf rfl) ze25 pl25 .nil rfl rfl ?_
        refine op_store (nxl rfl) sz25 rfl rfl rfl rfl rfl B2 (by simp) sel2 (fun N2 B2 => ?_)
        simp only [setL, List.set] at B2
        refine op_assign (nxlf rfl) rfl rfl ?_
        refine At.opsNil ?_
        refine At.norm (hk_5 ?_)
        refine At.ret (At.thenRet (?_))
        refine At.sub (L' := [N2, R]) (.cons_cons _ (.cons _ (.cons _ (.cons_cons _ (.slnil))))) ?_
        refine At.retN (L1 := []) rfl (.cell rfl (res_agg (ds := [_, _, _]) ag25 B2 rfl rfl mem0) (.tmp rfl .nil)) rfl (.cons _ (.refl _)) (.refl _) ?_
        exact .inr ⟨2, by rw [decodeF, he]; simp only; rw [if_neg (by omega)], rfl, rfl, by decide⟩
      · refine At.skip ?_
        refine At.norm (hk_3 ?_)
        refine At.seq fun K6 hk_6 => ?_
        refine At.region ?_
        refine op_loadAggB (ds := [_, _, _]) (nxlf rfl) ag25 rfl B4 rfl rfl mem0 rfl ?_
        refine op_move (nxlf rfl) rfl rfl ?_
        refine op_store (nxl rfl) sz25 rfl rfl rfl rfl rfl B2 (by simp) sel2 (fun N2 B2 => ?_)
        simp only [setL, List.set] at B2
        refine op_assign (nxlf rfl) rfl rfl ?_
        refine At.opsNil ?_
        refine At.norm (hk_6 ?_)
        refine At.ret (?_)
        refine At.sub (L' := [N2, M9, R]) (.cons_cons _ (.cons _ (.cons_cons _ (.cons_cons _ (.slnil))))) ?_
        refine At.retN (L1 := [M9]) rfl (.cell rfl (res_agg (ds := [_, _, _]) ag25 B2 rfl rfl mem0) (.tmp rfl .nil)) rfl (.cons _ (.refl _)) (.refl _) ?_
        exact .inl ⟨t, M9, x, by rw [decodeF, he]; simp only; rw [if_pos (by omega)], rfl, rfl, hi⟩
    · exact absurd rfl g15
  · change At _ _ _ [N2, R] _
    refine op_move (nxlf rfl) rfl rfl ?_
    refine op_extract (nxlf rfl) rfl rfl rfl ?_
    refine op_extract (nxlf rfl) rfl rfl rfl ?_
    refine op_extract (nxlf rfl) rfl rfl rfl ?_
    refine op_alloc (nxla rfl) ze25 rfl (fun N4 b4 B4 => ?_)
    change Blk N4 b4 _ [.bool false, .slice none 0 0, .slice none 0 0] at B4
    refine op_store (nxl rfl) sz25 rfl rfl rfl rfl rfl B4 (by simp) sel0 (fun N4 B4 => ?_)
    simp only [setL, List.set] at B4
    refine op_assign (nxlf rfl) rfl rfl ?_
    refine op_assign (nxlf rfl) rfl rfl ?_
    refine At.opsNil ?_
    refine At.norm (hk_2 ?_)
    refine At.seq fun K7 hk_7 => ?_
    refine At.seq fun K8 hk_8 => ?_
    refine At.region ?_
    refine op_move (nxlf rfl) rfl rfl ?_
    refine op_eql (nxlf rfl) rfl rfl rfl ?_
    refine op_move (nxlf rfl) rfl rfl ?_
    refine At.partP (d := 15) rfl (fun g15 => ?_) (fun g15 => ?_)
    · exfalso; omega
    · refine op_skip rfl rfl rfl rfl rfl rfl rfl ?_
      refine op_skip rfl rfl rfl rfl rfl rfl rfl ?_
      refine op_skip rfl rfl rfl rfl rfl rfl rfl ?_
      refine op_pickF (nxlf rfl) rfl rfl rfl ?_
      refine At.opsNil ?_
      refine At.norm (hk_8 ?_)
      refine At.condF rfl ?_
      refine At.skip ?_
      refine At.norm (hk_7 ?_)
      refine At.seq fun K9 hk_9 => ?_
      refine At.region ?_
      refine op_loadAggB (ds := [_, _, _]) (nxlf rfl) ag25 rfl B4 rfl rfl mem0 rfl ?_
      refine op_move (nxlf rfl) rfl rfl ?_
      refine op_store (nxl rfl) sz25 rfl rfl rfl rfl rfl B2 (by simp) sel1 (fun N2 B2 => ?_)
      simp only [setL, List.set] at B2
      refine op_assign (nxlf rfl) rfl rfl ?_
      refine At.opsNil ?_
      refine At.norm (hk_9 ?_)
      refine At.ret (?_)
      refine At.sub (L' := [N2, R]) (.cons_cons _ (.cons _ (.cons_cons _ (.slnil)))) ?_
      refine At.retN (L1 := []) rfl (.cell rfl (res_agg (ds := [_, _, _]) ag25 B2 rfl rfl mem0) (.tmp rfl .nil)) rfl (.cons _ (.refl _)) (.refl _) ?_
      exact .inr ⟨e, by rw [decodeF, he], rfl, rfl, hne⟩
end Go.Proofs.Ytohmmgggaegbbaa
