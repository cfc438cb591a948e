/- rlp.Split, rlp.Envelope, rlp.Of: what they give is the caller's own. No condition but that bytes are not longer than a machine holds. -/
import Derived.Test.YtohmmgggaegbbaaYDo
import Derived.Test.YtohmmgggaegbbaaYV3
import Derived.Test.YtohmmgggaegbbaaYV8
namespace Go.Proofs.Ytohmmgggaegbbaa
set_option linter.unusedVariables false
set_option linter.unusedSimpArgs false
open Go Go.RowKit
/-- Two lists of bytes in memory of their own. -/
def SplW (nb : Nat) (v : Value) (L : List Heaplet) : Prop := ∃ M1 M2 l n1 n2 a1 c1 a2 c2 p q, ∃ e : Int, v = .tuple #[.bool l, .slice a1 n1 c1, .slice a2 n2 c2, .int .i64 e] ∧ L = [M1, M2] ∧ Row M1 5 1 a1 n1 c1 (u8s p) ∧ Row M2 5 1 a2 n2 c2 (u8s q) ∧ n1 ≤ nb ∧ n2 ≤ nb
theorem Split_w {N : Heaplet} {ao : Option Addr} {n cap : Nat} {b : List UInt8} (h : RSl N 1 ao n cap (u8s b)) (hn : n ≤ 1099511627776) : Fn Try.prog 23 #[.slice ao n cap] [] [N] (SplW b.length) := by
  intro E w R hw hr
  refine (Split_f h hn E w R hw hr).mono ?_
  rintro e w' ⟨v, L, rfl, hP, hh⟩
  rcases hP with ⟨_, rfl, rfl⟩ | ⟨M1, M2, l, p, q, a1, c1, a2, c2, hc, rfl, rfl, r1, r2⟩
  · exact ⟨_, [nilH, nilH], rfl, ⟨nilH, nilH, false, 0, 0, none, 0, none, 0, [], [], 2, rfl, rfl, Row.nil _ _ _, Row.nil _ _ _, Nat.zero_le _, Nat.zero_le _⟩, hh.nilP.nilP⟩
  · have hl := cutF_len hc
    exact ⟨_, [M1, M2], rfl, ⟨M1, M2, l, p.length, q.length, a1, c1, a2, c2, p, q, 0, rfl, rfl, r1, r2, by omega, by omega⟩, hh⟩
theorem Envelope_r {N : Heaplet} {ao : Option Addr} {n cap : Nat} {b : List UInt8} (h : RSl N 1 ao n cap (u8s b)) (hn : n ≤ 1099511627776) :
    Fn Try.prog 21 #[.slice ao n cap] [] [N] (fun v L => (L = [] ∧ envF b = none ∧ v = .tuple #[.int .i64 0, .slice none 0 0, .int .i64 2]) ∨ ∃ M k p a c, L = [M] ∧ envF b = some (k, p) ∧ v = .tuple #[.int .i64 (k : Int), .slice a p.length c, .int .i64 0] ∧ Row M 5 1 a p.length c (u8s p)) := by
  have hlen := h.len8
  have hcap := h.cap63
  have ok : ∀ {M : Heaplet} {k n c : Nat} {q : Int} {a : Option Addr} {p : List UInt8}, envF b = some (k, p) → q = (k : Int) → Row M 5 1 a n c (u8s p) →
      ∃ M' k p a' c', [M] = [M'] ∧ envF b = some (k, p) ∧ (Value.tuple #[.int .i64 q, .slice a n c, .int .i64 0]) = .tuple #[.int .i64 (k : Int), .slice a' p.length c', .int .i64 0] ∧ Row M' 5 1 a' p.length c' (u8s p) := by
    intro M k n c q a p hr hq h
    have e := h.rsl.len8
    subst e; subst hq
    exact ⟨M, k, p, a, c, rfl, hr, rfl, h⟩
  refine Fn.enter (vs := [.slice ao n cap]) Try.func21 rfl rfl rfl ?_
  intro E R hR
  have h := h.le (hR N (by simp))
  change At _ _ E [R] _
  refine At.seq fun K1 hk_1 => ?_
  refine At.region ?_
  refine op_assign (nxlf rfl) rfl rfl ?_
  refine op_assign (nxlf rfl) rfl rfl ?_
  refine op_assign (nxlf rfl) rfl rfl ?_
  refine At.opsNil ?_
  refine At.norm (hk_1 ?_)
  refine At.seq fun K2 hk_2 => ?_
  refine At.block ?_
  refine At.seq fun K3 hk_3 => ?_
  refine At.region ?_
  refine op_move (nxlf rfl) rfl rfl ?_
  refine op_lenS (nxlf rfl) se22 rfl rfl ?_
  refine op_eql (nxlf rfl) rfl rfl rfl ?_
  refine op_move (nxlf rfl) rfl rfl ?_
  refine At.partP (d := 9) rfl (fun g9 => ?_) (fun g9 => ?_)
  · refine op_skip rfl rfl rfl rfl rfl rfl rfl ?_
    refine op_skip rfl rfl rfl rfl rfl rfl rfl ?_
    refine op_skip rfl rfl rfl rfl rfl rfl rfl ?_
    refine op_skip rfl rfl rfl rfl rfl rfl rfl ?_
    refine op_skip rfl rfl rfl rfl rfl rfl rfl ?_
    refine op_skipU rfl rfl rfl rfl rfl rfl ?_
    refine op_skipU rfl rfl rfl rfl rfl rfl ?_
    refine op_skipU rfl rfl rfl rfl rfl rfl ?_
    refine op_skipU rfl rfl rfl rfl rfl rfl ?_
    refine op_skip rfl rfl rfl rfl rfl rfl rfl ?_
    refine op_pickT (nxlf rfl) rfl rfl rfl ?_
    refine op_assign (nxlf rfl) rfl rfl ?_
    refine At.opsNil ?_
    refine At.norm (hk_3 ?_)
    refine At.condT rfl ?_
    refine At.seq fun K4 hk_4 => ?_
    refine At.region ?_
    refine op_assign (nxlf rfl) rfl rfl ?_
    refine op_assign (nxlf rfl) rfl rfl ?_
    refine op_assign (nxlf rfl) rfl rfl ?_
    refine At.opsNil ?_
    refine At.norm (hk_4 ?_)
    refine At.ret (At.inRet (At.thenRet (?_)))
    refine At.retN (L1 := []) rfl (.tmp rfl (.tmp rfl (.tmp rfl .nil))) rfl (.refl _) (.refl _) ?_
    exact .inl ⟨rfl, by rw [envF, if_pos (by omega)], rfl⟩
  · refine op_move (nxgf rfl rfl rfl rfl) rfl rfl ?_
    refine op_idx1 (nxgf rfl rfl rfl rfl) se22 rfl rfl (by assumption) (show _ = ((0 : Nat) : Int) from rfl) (by omega) rfl ?_
    refine op_loadE (nxgf rfl rfl rfl rfl) sc5 rfl (by assumption) (by first | exact get8 (by omega) | exact get64 (by omega) | exact get32 (by omega)) (by first | exact mem0 | exact mem1 | exact mem2 | exact mem3 | exact mem4 | exact mem5 | exact mem6 | exact mem7 | exact mem8 | exact mem9) rfl ?_
    refine op_geq (nxgf rfl rfl rfl rfl) rfl rfl rfl ?_
    refine op_move (nxgf rfl rfl rfl rfl) rfl rfl ?_
    refine At.partP (d := 14) rfl (fun g14 => ?_) (fun g14 => ?_)
    · refine op_move (nxgf rfl rfl rfl rfl) rfl rfl ?_
      refine op_idx1 (nxgf rfl rfl rfl rfl) se22 rfl rfl (by assumption) (show _ = ((0 : Nat) : Int) from rfl) (by omega) rfl ?_
      refine op_loadE (nxgf rfl rfl rfl rfl) sc5 rfl (by assumption) (by first | exact get8 (by omega) | exact get64 (by omega) | exact get32 (by omega)) (by first | exact mem0 | exact mem1 | exact mem2 | exact mem3 | exact mem4 | exact mem5 | exact mem6 | exact mem7 | exact mem8 | exact mem9) rfl ?_
      refine op_lss (nxgf rfl rfl rfl rfl) rfl rfl rfl ?_
      refine op_pickT (nxgf rfl rfl rfl rfl) rfl rfl rfl ?_
      refine op_pickF (nxlf rfl) rfl rfl rfl ?_
      refine op_assign (nxlf rfl) rfl rfl ?_
      refine At.opsNil ?_
      refine At.norm (hk_3 ?_)
      refine At.condP rfl (fun c5 => ?_) (fun c5 => ?_)
      · refine At.seq fun K5 hk_5 => ?_
        refine At.region ?_
        refine op_assign (nxlf rfl) rfl rfl ?_
        refine op_assign (nxlf rfl) rfl rfl ?_
        refine op_assign (nxlf rfl) rfl rfl ?_
        refine At.opsNil ?_
        refine At.norm (hk_5 ?_)
        refine At.ret (At.inRet (At.thenRet (?_)))
        refine At.retN (L1 := []) rfl (.tmp rfl (.tmp rfl (.tmp rfl .nil))) rfl (.refl _) (.refl _) ?_
        exact .inl ⟨rfl, by rw [envF, if_pos (by omega)], rfl⟩
      · refine At.seq fun K6 hk_6 => ?_
        refine At.region ?_
        refine op_move (nxlf rfl) rfl rfl ?_
        refine op_idx1 (nxlf rfl) se22 rfl rfl (by assumption) (show _ = ((0 : Nat) : Int) from rfl) (by omega) rfl ?_
        refine op_loadE (nxlf rfl) sc5 rfl (by assumption) (by first | exact get8 (by omega) | exact get64 (by omega) | exact get32 (by omega)) (by first | exact mem0 | exact mem1 | exact mem2 | exact mem3 | exact mem4 | exact mem5 | exact mem6 | exact mem7 | exact mem8 | exact mem9) rfl ?_
        refine op_geq (nxlf rfl) rfl rfl rfl ?_
        refine op_assign (nxlf rfl) rfl rfl ?_
        refine At.opsNil ?_
        refine At.norm (hk_6 ?_)
        refine At.condP rfl (fun c21 => ?_) (fun c21 => ?_)
        · refine At.seq fun K7 hk_7 => ?_
          refine At.region ?_
          refine op_move (nxlf rfl) rfl rfl ?_
          refine op_append0 (nxla rfl) Try.underlying22 Try.underlying22 te5 rfl rfl (by assumption) (by first | exact mem0 | exact mem1 | exact mem2 | exact mem3 | exact mem4 | exact mem5 | exact mem6 | exact mem7 | exact mem8 | exact mem9) (by first | exact one_u8s _ | exact one_u64s _ | exact one_u32s _ | (intro u hu; simp at hu; subst hu; rfl)) (by omega) (by omega) rfl (fun N27 a27 p27 r27 => ?_)
          have s27 := r27.rsl
          refine op_assign (nxlf rfl) rfl rfl ?_
          refine op_assign (nxlf rfl) rfl rfl ?_
          refine op_assign (nxlf rfl) rfl rfl ?_
          refine At.opsNil ?_
          refine At.norm (hk_7 ?_)
          refine At.ret (At.inRet (At.thenRet (?_)))
          refine At.retN (L1 := [N27]) rfl (.tmp rfl (.tmp rfl (.tmp rfl .nil))) rfl (.refl _) (.refl _) ?_
          exact .inr (ok (by rw [envF, if_neg (by omega), if_pos (by omega)]) rfl r27)
        · refine At.skip ?_
          refine At.inNorm ?_
          refine At.norm (hk_2 ?_)
          refine At.seq fun K8 hk_8 => ?_
          refine At.drawn [] [0,1,2,3,4,5,6,7,8,9] (by kernel_rfl) (by kernel_rfl) ?_
          refine op_move (nxof rfl rfl rfl (by kernel_rfl)) rfl rfl ?_
          refine op_idx1 (nxof rfl rfl rfl (by kernel_rfl)) se22 rfl rfl (by assumption) (show _ = ((0 : Nat) : Int) from rfl) (by omega) rfl ?_
          refine op_loadE (nxof rfl rfl rfl (by kernel_rfl)) sc5 rfl (by assumption) (by first | exact get8 (by omega) | exact get64 (by omega) | exact get32 (by omega)) (by first | exact mem0 | exact mem1 | exact mem2 | exact mem3 | exact mem4 | exact mem5 | exact mem6 | exact mem7 | exact mem8 | exact mem9) rfl ?_
          refine op_convI (nxof rfl rfl rfl (by kernel_rfl)) (und_some Try.underlying5) Try.underlying3 rfl (by omega) (by omega) rfl ?_
          refine op_move (nxof rfl rfl rfl (by kernel_rfl)) rfl rfl ?_
          refine op_slice (nxof rfl rfl rfl (by kernel_rfl)) se22 rfl (.some rfl (show _ = ((1 : Nat) : Int) from rfl)) .none .none (by omega) (by omega) (by omega) (by simp) rfl ?_
          have s33 := h.drop8 (lo := 1) (by omega)
          refine op_append0 (nxoa rfl rfl rfl) Try.underlying22 Try.underlying22 te5 rfl rfl (by assumption) (by first | exact mem0 | exact mem1 | exact mem2 | exact mem3 | exact mem4 | exact mem5 | exact mem6 | exact mem7 | exact mem8 | exact mem9) (by first | exact one_u8s _ | exact one_u64s _ | exact one_u32s _ | (intro u hu; simp at hu; subst hu; rfl)) (by omega) (by omega) rfl (fun N34 a34 p34 r34 => ?_)
          have s34 := r34.rsl
          refine op_assign (nxof rfl rfl rfl (by kernel_rfl)) rfl rfl ?_
          refine op_assign (nxof rfl rfl rfl (by kernel_rfl)) rfl rfl ?_
          refine op_assign (nxof rfl rfl rfl (by kernel_rfl)) rfl rfl ?_
          refine At.oneNil ?_
          refine At.norm (hk_8 ?_)
          refine At.ret (?_)
          refine At.retN (L1 := [N34]) rfl (.tmp rfl (.tmp rfl (.tmp rfl .nil))) rfl (.refl _) (.refl _) ?_
          exfalso; omega
    · refine op_skip rfl rfl rfl rfl rfl rfl rfl ?_
      refine op_skip rfl rfl rfl rfl rfl rfl rfl ?_
      refine op_skip rfl rfl rfl rfl rfl rfl rfl ?_
      refine op_skip rfl rfl rfl rfl rfl rfl rfl ?_
      refine op_pickF (nxgf rfl rfl rfl rfl) rfl rfl rfl ?_
      refine op_pickF (nxlf rfl) rfl rfl rfl ?_
      refine op_assign (nxlf rfl) rfl rfl ?_
      refine At.opsNil ?_
      refine At.norm (hk_3 ?_)
      refine At.condF rfl ?_
      refine At.seq fun K9 hk_9 => ?_
      refine At.region ?_
      refine op_move (nxlf rfl) rfl rfl ?_
      refine op_idx1 (nxlf rfl) se22 rfl rfl (by assumption) (show _ = ((0 : Nat) : Int) from rfl) (by omega) rfl ?_
      refine op_loadE (nxlf rfl) sc5 rfl (by assumption) (by first | exact get8 (by omega) | exact get64 (by omega) | exact get32 (by omega)) (by first | exact mem0 | exact mem1 | exact mem2 | exact mem3 | exact mem4 | exact mem5 | exact mem6 | exact mem7 | exact mem8 | exact mem9) rfl ?_
      refine op_geq (nxlf rfl) rfl rfl rfl ?_
      refine op_assign (nxlf rfl) rfl rfl ?_
      refine At.opsNil ?_
      refine At.norm (hk_9 ?_)
      refine At.condP rfl (fun c21 => ?_) (fun c21 => ?_)
      · refine At.seq fun K10 hk_10 => ?_
        refine At.region ?_
        refine op_move (nxlf rfl) rfl rfl ?_
        refine op_append0 (nxla rfl) Try.underlying22 Try.underlying22 te5 rfl rfl (by assumption) (by first | exact mem0 | exact mem1 | exact mem2 | exact mem3 | exact mem4 | exact mem5 | exact mem6 | exact mem7 | exact mem8 | exact mem9) (by first | exact one_u8s _ | exact one_u64s _ | exact one_u32s _ | (intro u hu; simp at hu; subst hu; rfl)) (by omega) (by omega) rfl (fun N27 a27 p27 r27 => ?_)
        have s27 := r27.rsl
        refine op_assign (nxlf rfl) rfl rfl ?_
        refine op_assign (nxlf rfl) rfl rfl ?_
        refine op_assign (nxlf rfl) rfl rfl ?_
        refine At.opsNil ?_
        refine At.norm (hk_10 ?_)
        refine At.ret (At.inRet (At.thenRet (?_)))
        refine At.retN (L1 := [N27]) rfl (.tmp rfl (.tmp rfl (.tmp rfl .nil))) rfl (.refl _) (.refl _) ?_
        exfalso; omega
      · refine At.skip ?_
        refine At.inNorm ?_
        refine At.norm (hk_2 ?_)
        refine At.seq fun K11 hk_11 => ?_
        refine At.drawn [] [0,1,2,3,4,5,6,7,8,9] (by kernel_rfl) (by kernel_rfl) ?_
        refine op_move (nxof rfl rfl rfl (by kernel_rfl)) rfl rfl ?_
        refine op_idx1 (nxof rfl rfl rfl (by kernel_rfl)) se22 rfl rfl (by assumption) (show _ = ((0 : Nat) : Int) from rfl) (by omega) rfl ?_
        refine op_loadE (nxof rfl rfl rfl (by kernel_rfl)) sc5 rfl (by assumption) (by first | exact get8 (by omega) | exact get64 (by omega) | exact get32 (by omega)) (by first | exact mem0 | exact mem1 | exact mem2 | exact mem3 | exact mem4 | exact mem5 | exact mem6 | exact mem7 | exact mem8 | exact mem9) rfl ?_
        refine op_convI (nxof rfl rfl rfl (by kernel_rfl)) (und_some Try.underlying5) Try.underlying3 rfl (by omega) (by omega) rfl ?_
        refine op_move (nxof rfl rfl rfl (by kernel_rfl)) rfl rfl ?_
        refine op_slice (nxof rfl rfl rfl (by kernel_rfl)) se22 rfl (.some rfl (show _ = ((1 : Nat) : Int) from rfl)) .none .none (by omega) (by omega) (by omega) (by simp) rfl ?_
        have s33 := h.drop8 (lo := 1) (by omega)
        refine op_append0 (nxoa rfl rfl rfl) Try.underlying22 Try.underlying22 te5 rfl rfl (by assumption) (by first | exact mem0 | exact mem1 | exact mem2 | exact mem3 | exact mem4 | exact mem5 | exact mem6 | exact mem7 | exact mem8 | exact mem9) (by first | exact one_u8s _ | exact one_u64s _ | exact one_u32s _ | (intro u hu; simp at hu; subst hu; rfl)) (by omega) (by omega) rfl (fun N34 a34 p34 r34 => ?_)
        have s34 := r34.rsl
        refine op_assign (nxof rfl rfl rfl (by kernel_rfl)) rfl rfl ?_
        refine op_assign (nxof rfl rfl rfl (by kernel_rfl)) rfl rfl ?_
        refine op_assign (nxof rfl rfl rfl (by kernel_rfl)) rfl rfl ?_
        refine At.oneNil ?_
        refine At.norm (hk_11 ?_)
        refine At.ret (?_)
        refine At.retN (L1 := [N34]) rfl (.tmp rfl (.tmp rfl (.tmp rfl .nil))) rfl (.refl _) (.refl _) ?_
        exact .inr (ok (by rw [envF, if_neg (by omega), if_neg (by omega)]) rfl r34)
def EnvW (nb : Nat) (v : Value) (L : List Heaplet) : Prop := ∃ M k n1 a c p, ∃ e : Int, v = .tuple #[.int .i64 k, .slice a n1 c, .int .i64 e] ∧ L = [M] ∧ Row M 5 1 a n1 c (u8s p) ∧ n1 ≤ nb
theorem Envelope_w {N : Heaplet} {ao : Option Addr} {n cap : Nat} {b : List UInt8} (h : RSl N 1 ao n cap (u8s b)) (hn : n ≤ 1099511627776) : Fn Try.prog 21 #[.slice ao n cap] [] [N] (EnvW b.length) := by
  intro E w R hw hr
  refine (Envelope_r h hn E w R hw hr).mono ?_
  rintro e w' ⟨v, L, rfl, hP, hh⟩
  rcases hP with ⟨rfl, _, rfl⟩ | ⟨M, k, p, a, c, rfl, he, rfl, r⟩
  · exact ⟨_, [nilH], rfl, ⟨nilH, 0, 0, none, 0, [], 2, rfl, rfl, Row.nil _ _ _, Nat.zero_le _⟩, hh.nilP⟩
  · refine ⟨_, [M], rfl, ⟨M, (k : Int), p.length, a, c, p, 0, rfl, rfl, r, ?_⟩, hh⟩
    unfold envF at he
    split at he
    · cases he
    · split at he
      · simp only [Option.some.injEq, Prod.mk.injEq] at he
        rw [← he.2]; exact Nat.le_refl _
      · simp only [Option.some.injEq, Prod.mk.injEq] at he
        rw [← he.2, List.length_drop]; omega
/-- A call that reads several parts of the memory. -/
theorem Fn.over {P : Program} {f : FuncId} {args : Array Value} {Ns : List Heaplet} {Post : Value → List Heaplet → Prop} (h : ∀ J, (∀ N ∈ Ns, N.le J) → Fn P f args [] [J] Post) : Fn P f args [] Ns Post :=
  fun E w R hw hr => h R hr E w R hw fun N hN => by rw [List.mem_singleton.1 hN]; exact Heaplet.le_refl _
end Go.Proofs.Ytohmmgggaegbbaa
