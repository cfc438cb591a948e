/- quarryref02's trim, Of, Bytes: numbers in digits of 32 bits. No condition. -/
import Derived.Test.YtohmmgggaegbbaaY2
import Derived.Test.YtohmmgggaegbbaaYM2
import Derived.Test.YtohmmgggaegbbaaYT2
namespace Go.Proofs.Ytohmmgggaegbbaa
set_option linter.unusedVariables false
set_option linter.unusedSimpArgs false
open Go Go.RowKit
theorem u32_zero {x : UInt32} (h : (x.toNat : Int) = 0) : x = 0 := by rw [← UInt32.toNat_inj]; simpa using h
theorem trim32_f {N : Heaplet} {ao : Option Addr} {n cap : Nat} {l : List UInt32} (h : RSl N 1 ao n cap (u32s l)) :
    Fn Try.prog 53 #[.slice ao n cap] [] [N] (fun v L => v = .slice ao (digsOf (v32 l)).length cap ∧ L = [] ∧ l.take (digsOf (v32 l)).length = digsOf (v32 l) ∧ (digsOf (v32 l)).length ≤ n) := by
  have hlen := h.len32
  have hcap := h.cap63
  refine Fn.enter (vs := [.slice ao n cap]) Try.func53 rfl rfl rfl ?_
  intro E R hR
  have h := h.le (hR N (by simp))
  change At _ _ E [R] _
  refine At.seq fun K1 hk_1 => ?_
  refine At.region ?_
  refine op_assign (nxlf rfl) rfl rfl ?_
  refine At.opsNil ?_
  refine At.norm (hk_1 ?_)
  refine At.seq fun K2 hk_2 => ?_
  refine At.region ?_
  refine op_move (nxlf rfl) rfl rfl ?_
  refine op_lenS (nxlf rfl) se86 rfl rfl ?_
  refine op_assign (nxlf rfl) rfl rfl ?_
  refine At.opsNil ?_
  refine At.norm (hk_2 ?_)
  refine At.seq fun K3 hk_3 => ?_
  refine At.block ?_
  refine At.loop (fun fr_ hp_ ms_ => ∃ (k : Nat), fr_ = [(0, .slice ao n cap), (3, .int .i64 (k : Int))] ∧ hp_ = [R] ∧ k = ms_ ∧ (k ≤ n) ∧ (∀ i, k ≤ i → l.getD i 0 = 0)) ?_ (.refl _) ⟨n, rfl, rfl, rfl, Nat.le_refl _, fun i hi => by rw [List.getD_eq_getElem?_getD, List.getElem?_eq_none (by omega)]; rfl⟩ ?_
  · exact .cons (by first | exact lkI rfl (by omega) | rfl) (.cons (by first | exact lkI rfl (by omega) | rfl) .nil)
  rintro _ _ _ ⟨k, rfl, rfl, rfl, hk, hz⟩
  refine At.seq fun K4 hk_4 => ?_
  refine At.seq fun K5 hk_5 => ?_
  refine At.region ?_
  refine op_move (nxlf rfl) rfl rfl ?_
  refine op_gtr (nxlf rfl) rfl rfl rfl ?_
  refine op_move (nxlf rfl) rfl rfl ?_
  refine At.partP (d := 8) rfl (fun g8 => ?_) (fun g8 => ?_)
  · refine op_move (nxgf rfl rfl rfl rfl) rfl rfl ?_
    refine op_move (nxgf rfl rfl rfl rfl) rfl rfl ?_
    refine op_subI (nxgf rfl rfl rfl rfl) rfl rfl (by omega) (by omega) rfl ?_
    refine op_idx1 (nxgf rfl rfl rfl rfl) se86 rfl rfl (by assumption) (show _ = (((k - 1 : Nat)) : Int) from by omega) (by omega) rfl ?_
    refine op_loadE (nxgf rfl rfl rfl rfl) sc97 rfl (by assumption) (by first | exact get8 (by omega) | exact get64 (by omega) | exact get32 (by omega)) (by first | exact mem0 | exact mem1 | exact mem2 | exact mem3 | exact mem4 | exact mem5 | exact mem6 | exact mem7 | exact mem8 | exact mem9) rfl ?_
    refine op_eql (nxgf rfl rfl rfl rfl) rfl rfl rfl ?_
    refine op_pickT (nxlf rfl) rfl rfl rfl ?_
    refine At.opsNil ?_
    refine At.norm (hk_5 ?_)
    refine At.condP rfl (fun c15 => ?_) (fun c15 => ?_)
    · refine At.skip ?_
      refine At.norm (hk_4 ?_)
      refine At.block ?_
      refine At.region ?_
      refine op_move (nxlf rfl) rfl rfl ?_
      refine op_subI (nxlf rfl) rfl rfl (by omega) (by omega) rfl ?_
      refine op_assign (nxlf rfl) rfl rfl ?_
      refine At.opsNil ?_
      refine At.inNorm ?_
      refine At.norm ?_
      refine At.back ?_ (.refl _) ⟨k - 1, rfl, rfl, rfl, by omega, fun i hi => by rcases Nat.lt_or_ge i k with h | h; (rw [show i = k - 1 by omega]; exact u32_zero c15); exact hz i h⟩ ?_
      · exact .cons (by first | exact lkI rfl (by omega) | rfl) (.cons (by first | exact lkI rfl (by omega) | rfl) .nil)
      · omega
    · refine At.exit (At.thenExit (At.thenExit (At.inHit ?_)))
      refine At.norm (hk_3 ?_)
      refine At.seq fun K6 hk_6 => ?_
      refine At.region ?_
      refine op_move (nxlf rfl) rfl rfl ?_
      refine op_move (nxlf rfl) rfl rfl ?_
      refine op_slice0 (nxlf rfl) se86 rfl (.some rfl (show _ = (((k : Nat)) : Int) from by omega)) .none (by omega) (by omega) (by simp) rfl ?_
      refine op_assign (nxlf rfl) rfl rfl ?_
      refine At.opsNil ?_
      refine At.norm (hk_6 ?_)
      refine At.ret (?_)
      refine At.ret1 (L1 := []) rfl (.tmp rfl .nil) (.refl _) (.refl _) ?_
      have ⟨e1, e2⟩ := trim_len32 (by omega) hz (.inr ⟨by omega, fun e => c15 (by rw [e]; rfl)⟩); rw [e2]; exact ⟨rfl, rfl, e1, hk⟩
  · refine op_skip rfl rfl rfl rfl rfl rfl rfl ?_
    refine op_skip rfl rfl rfl rfl rfl rfl rfl ?_
    refine op_skip rfl rfl rfl rfl rfl rfl rfl ?_
    refine op_skip rfl rfl rfl rfl rfl rfl rfl ?_
    refine op_skip rfl rfl rfl rfl rfl rfl rfl ?_
    refine op_skip rfl rfl rfl rfl rfl rfl rfl ?_
    refine op_pickF (nxlf rfl) rfl rfl rfl ?_
    refine At.opsNil ?_
    refine At.norm (hk_5 ?_)
    refine At.condF rfl ?_
    refine At.exit (At.thenExit (At.thenExit (At.inHit ?_)))
    refine At.norm (hk_3 ?_)
    refine At.seq fun K7 hk_7 => ?_
    refine At.region ?_
    refine op_move (nxlf rfl) rfl rfl ?_
    refine op_move (nxlf rfl) rfl rfl ?_
    refine op_slice0 (nxlf rfl) se86 rfl (.some rfl (show _ = (((k : Nat)) : Int) from by omega)) .none (by omega) (by omega) (by simp) rfl ?_
    refine op_assign (nxlf rfl) rfl rfl ?_
    refine At.opsNil ?_
    refine At.norm (hk_7 ?_)
    refine At.ret (?_)
    refine At.ret1 (L1 := []) rfl (.tmp rfl .nil) (.refl _) (.refl _) ?_
    have ⟨e1, e2⟩ := trim_len32 (by omega) hz (.inl (by omega)); rw [e2]; exact ⟨rfl, rfl, e1, hk⟩
theorem Of32_f (x : UInt64) : Fn Try.prog 42 #[.int .u64 (x.toNat : Int)] [] [] (fun v L => ∃ M a cap, v = .slice a (digsOf x.toNat).length cap ∧ L = [M] ∧ RSl M 1 a (digsOf x.toNat).length cap (u32s (digsOf x.toNat))) := by
  refine Fn.enter (vs := [.int .u64 (x.toNat : Int)]) Try.func42 rfl rfl rfl ?_
  intro E R hR
  change At _ _ E [R] _
  refine At.seq fun K1 hk_1 => ?_
  refine At.region ?_
  refine op_assign (nxlf rfl) rfl rfl ?_
  refine At.opsNil ?_
  refine At.norm (hk_1 ?_)
  refine At.seq fun K2 hk_2 => ?_
  refine At.region ?_
  refine op_move (nxlf rfl) rfl rfl ?_
  refine op_conv32 (nxlf rfl) (und_some Try.underlying64) Try.underlying97 rfl (by first | rfl | exact (Int.toNat_of_nonneg (by omega)).symm) rfl ?_
  refine op_move (nxlf rfl) rfl rfl ?_
  refine op_shrU (nxlf rfl) rfl rfl (show _ = ((32 : Nat) : Int) from rfl) rfl ?_
  refine op_conv32 (nxlf rfl) (und_some Try.underlying64) Try.underlying97 rfl (by first | rfl | exact (Int.toNat_of_nonneg (by omega)).symm) rfl ?_
  refine op_lit (nxla rfl) Try.underlying86 ze97 sz97 (.cons rfl (.cons rfl .nil)) rfl rfl (by simp [Value.cells]) rfl rfl rfl (fun N8 a8 r8 => ?_)
  simp only [flatV, List.flatMap_cons, List.flatMap_nil, Value.cells, List.append_nil, List.cons_append, List.nil_append] at r8
  have s8 := r8.rsl
  refine op_callA (nxla rfl) (.cons rfl .nil) (trim32_f (l := [UInt32.ofNat x.toNat, UInt32.ofNat (shr64 x 32).toNat]) s8) Try.func53 rfl rfl (by simp) rfl ?_
  rintro v9 L9 ⟨rfl, rfl, e1, e2⟩
  change At _ _ _ [N8, R] _
  rw [v32_two] at e1 e2 ⊢
  have s9 := s8.take e2 (Nat.le_refl _) e2
  refine op_assign (nxlf rfl) rfl rfl ?_
  refine At.opsNil ?_
  refine At.norm (hk_2 ?_)
  refine At.ret (?_)
  refine At.ret1 (L1 := [N8]) rfl (.tmp rfl .nil) (.refl _) (.refl _) ?_
  refine ⟨N8, a8, 2, rfl, rfl, ?_⟩
  have e : List.take ((digsOf x.toNat).length * 1) [Value.int IntKind.u32 ↑(UInt32.ofNat x.toNat).toNat, Value.int IntKind.u32 ↑(UInt32.ofNat (shr64 x 32).toNat).toNat] = u32s (digsOf x.toNat) := by
    rw [Nat.mul_one, ← e1, ← u32s_take, e1]; rfl
  rw [e] at s9
  exact s9
theorem Bytes32_f {N : Heaplet} {ao : Option Addr} {n cap : Nat} {l : List UInt32} (h : RSl N 1 ao n cap (u32s l)) (hn : n ≤ 17592186044416) :
    Fn Try.prog 57 #[.slice ao n cap] [] [N] (fun v L => ∃ M a cap, v = .slice a (bytesOf (v32 l)).length cap ∧ L = [M] ∧ Row M 5 1 a (bytesOf (v32 l)).length cap (u8s (bytesOf (v32 l)))) := by
  have hlen := h.len32
  have hcap := h.cap63
  have hlim : v32 l < 256 ^ (4 * n) := by
    rw [show (256 : Nat) = 2 ^ 8 from rfl, ← Nat.pow_mul, show 8 * (4 * n) = 32 * l.length from by omega]; exact v32_lt l
  have hb4 : ∀ j, (bytesOf (v32 l / 256 ^ j)).length ≤ 4 * n := fun j => by
    rw [length_bytesOf]; exact byteLen_le.2 (Nat.lt_of_le_of_lt (Nat.div_le_self _ _) hlim)
  refine Fn.enter (vs := [.slice ao n cap]) Try.func57 rfl rfl rfl ?_
  intro E R hR
  have h := h.le (hR N (by simp))
  change At _ _ E [R] _
  refine At.seq fun K1 hk_1 => ?_
  refine At.region ?_
  refine op_assign (nxlf rfl) rfl rfl ?_
  refine At.opsNil ?_
  refine At.norm (hk_1 ?_)
  refine At.seq fun K2 hk_2 => ?_
  refine At.region ?_
  refine op_assign (nxlf rfl) rfl rfl ?_
  refine At.opsNil ?_
  refine At.norm (hk_2 ?_)
  refine At.seq fun K3 hk_3 => ?_
  refine At.seq fun K4 hk_4 => ?_
  refine At.region ?_
  refine op_move (nxlf rfl) rfl rfl ?_
  refine op_lenS (nxlf rfl) se86 rfl rfl ?_
  refine op_mulI (nxlf rfl) rfl rfl (by omega) (by omega) rfl ?_
  refine op_subI (nxlf rfl) rfl rfl (by omega) (by omega) rfl ?_
  refine op_assign (nxlf rfl) rfl rfl ?_
  refine At.opsNil ?_
  refine At.norm (hk_4 ?_)
  refine At.block ?_
  refine At.empty ?_
  refine At.loop (fun fr_ hp_ ms_ => ∃ (j : Nat) (ap : Option Addr) (np cp : Nat) (Np : Heaplet), fr_ = [(0, .slice ao n cap), (3, .slice ap np cp), (4, .int .i64 ((j : Int) - 1))] ∧ hp_ = [Np, R] ∧ j = ms_ ∧ (j ≤ 4 * n) ∧ (np = (bytesOf (v32 l / 256 ^ j)).length) ∧ (Row Np 5 1 ap np cp (u8s (bytesOf (v32 l / 256 ^ j))))) ?_ (.refl _) ⟨4 * n, none, 0, 0, nilH, rfl, rfl, rfl, Nat.le_refl _, by rw [Nat.div_eq_of_lt hlim]; rfl, by rw [Nat.div_eq_of_lt hlim]; exact Row.nil _ _ _⟩ ?_
  · exact .cons (by first | exact lkI rfl (by omega) | rfl) (.cons (by first | exact lkI rfl (by omega) | rfl) (.cons (by first | exact lkI rfl (by omega) | rfl) .nil))
  rintro _ _ _ ⟨j, ap, np, cp, Np, rfl, rfl, rfl, hj, hnp, rp⟩
  have hb := hb4 j
  refine At.seq fun K5 hk_5 => ?_
  refine At.seq fun K6 hk_6 => ?_
  refine At.region ?_
  refine op_move (nxlf rfl) rfl rfl ?_
  refine op_geq (nxlf rfl) rfl rfl rfl ?_
  refine At.opsNil ?_
  refine At.norm (hk_6 ?_)
  refine At.condP rfl (fun c11 => ?_) (fun c11 => ?_)
  · have hbyte := byte32_at (l := l) (i := j - 1) (by omega)
    obtain ⟨i, hi⟩ : ∃ i, j = i + 1 := ⟨j - 1, by omega⟩
    have hj1 : j - 1 = i := by omega
    have hj1' : j = i + 1 := hi
    have hst : (0 < np ∨ (UInt8.ofNat (shr32 (l.getD ((j - 1) / 4) 0) (8 * ((j - 1) % 4))).toNat).toNat ≠ 0) → bytesOf (v32 l / 256 ^ (j - 1)) = bytesOf (v32 l / 256 ^ j) ++ [UInt8.ofNat (shr32 (l.getD ((j - 1) / 4) 0) (8 * ((j - 1) % 4))).toNat] := fun hh => by
      rw [hbyte] at hh ⊢
      rw [hnp] at hh
      rw [hj1, hj1'] at *
      exact bytesOf_down (down_ne hh)
    refine At.skip ?_
    refine At.norm (hk_5 ?_)
    refine At.seq fun K7 hk_7 => ?_
    refine At.block ?_
    refine At.seq fun K8 hk_8 => ?_
    refine At.region ?_
    refine op_move (nxlf rfl) rfl rfl ?_
    refine op_move (nxlf rfl) rfl rfl ?_
    refine op_quoI (nxlf rfl) rfl rfl (by omega) (by omega) (by omega) rfl ?_
    refine op_idx1 (nxlf rfl) se86 rfl rfl (by assumption) (show _ = ((((j - 1) / 4 : Nat)) : Int) from by omega) (by omega) rfl ?_
    refine op_loadE (nxlf rfl) sc97 rfl (by assumption) (by first | exact get8 (by omega) | exact get64 (by omega) | exact get32 (by omega)) (by first | exact mem0 | exact mem1 | exact mem2 | exact mem3 | exact mem4 | exact mem5 | exact mem6 | exact mem7 | exact mem8 | exact mem9) rfl ?_
    refine op_move (nxlf rfl) rfl rfl ?_
    refine op_rem (nxlf rfl) rfl rfl (by omega) (by omega) rfl ?_
    refine op_mulI (nxlf rfl) rfl rfl (by omega) (by omega) rfl ?_
    refine op_shrU32 (nxlf rfl) rfl rfl (show _ = (((8 * ((j - 1) % 4) : Nat)) : Int) from by omega) rfl ?_
    refine op_conv8 (nxlf rfl) (und_some Try.underlying97) Try.underlying5 rfl (by first | rfl | exact (Int.toNat_of_nonneg (by omega)).symm) rfl ?_
    refine op_assign (nxlf rfl) rfl rfl ?_
    refine At.opsNil ?_
    refine At.norm (hk_8 ?_)
    refine At.seq fun K9 hk_9 => ?_
    refine At.region ?_
    refine op_move (nxlf rfl) rfl rfl ?_
    refine op_lenS (nxlf rfl) se22 rfl rfl ?_
    refine op_gtr (nxlf rfl) rfl rfl rfl ?_
    refine op_move (nxlf rfl) rfl rfl ?_
    refine At.partP (d := 27) rfl (fun g27 => ?_) (fun g27 => ?_)
    · refine op_skip rfl rfl rfl rfl rfl rfl rfl ?_
      refine op_skip rfl rfl rfl rfl rfl rfl rfl ?_
      refine op_pickT (nxlf rfl) rfl rfl rfl ?_
      refine At.opsNil ?_
      refine At.norm (hk_9 ?_)
      refine At.condT rfl ?_
      refine At.region ?_
      refine op_move (nxlf rfl) rfl rfl ?_
      refine op_move (nxlf rfl) rfl rfl ?_
      refine op_lit (nxla rfl) Try.underlying22 ze5 sz5 (.cons rfl .nil) rfl rfl (by simp [Value.cells]) rfl rfl rfl (fun N33 a33 r33 => ?_)
      simp only [flatV, List.flatMap_cons, List.flatMap_nil, Value.cells, List.append_nil, List.cons_append, List.nil_append] at r33
      have s33 := r33.rsl
      refine op_append (nxl rfl) Try.underlying22 Try.underlying22 te5 rfl rfl rp (by assumption) (by first | exact mem0 | exact mem1 | exact mem2 | exact mem3 | exact mem4 | exact mem5 | exact mem6 | exact mem7 | exact mem8 | exact mem9) (by first | exact one_u8s _ | exact one_u64s _ | exact one_u32s _ | (intro u hu; simp at hu; subst hu; rfl)) (by omega) (by omega) sel1 rfl (fun N34 a34 p34 r34 => ?_)
      have s34 := r34.rsl
      refine op_assign (nxlf rfl) rfl rfl ?_
      refine At.opsNil ?_
      refine At.inNorm ?_
      refine At.norm (hk_7 ?_)
      refine At.region ?_
      refine op_move (nxlf rfl) rfl rfl ?_
      refine op_subI (nxlf rfl) rfl rfl (by omega) (by omega) rfl ?_
      refine op_assign (nxlf rfl) rfl rfl ?_
      refine At.opsNil ?_
      refine At.norm ?_
      refine At.sub (L' := [N34, R]) (.cons_cons _ (.cons _ (.cons_cons _ (.slnil)))) ?_
      refine At.back ?_ (.refl _) ⟨j - 1, a34, np + 1, p34, N34, rfl, rfl, rfl, by omega, by rw [hst (.inl (by omega)), List.length_append, hnp]; rfl, by rw [hst (.inl (by omega)), u8s, List.map_append]; exact r34⟩ ?_
      · exact .cons (by first | exact lkI rfl (by omega) | rfl) (.cons (by first | exact lkI rfl (by omega) | rfl) (.cons (by first | exact lkI rfl (by omega) | rfl) .nil))
      · omega
    · refine op_move (nxgf rfl rfl rfl rfl) rfl rfl ?_
      refine op_neq (nxgf rfl rfl rfl rfl) rfl rfl rfl ?_
      refine op_pickF (nxlf rfl) rfl rfl rfl ?_
      refine At.opsNil ?_
      refine At.norm (hk_9 ?_)
      refine At.condP rfl (fun c30 => ?_) (fun c30 => ?_)
      · refine At.region ?_
        refine op_move (nxlf rfl) rfl rfl ?_
        refine op_move (nxlf rfl) rfl rfl ?_
        refine op_lit (nxla rfl) Try.underlying22 ze5 sz5 (.cons rfl .nil) rfl rfl (by simp [Value.cells]) rfl rfl rfl (fun N33 a33 r33 => ?_)
        simp only [flatV, List.flatMap_cons, List.flatMap_nil, Value.cells, List.append_nil, List.cons_append, List.nil_append] at r33
        have s33 := r33.rsl
        refine op_append (nxl rfl) Try.underlying22 Try.underlying22 te5 rfl rfl rp (by assumption) (by first | exact mem0 | exact mem1 | exact mem2 | exact mem3 | exact mem4 | exact mem5 | exact mem6 | exact mem7 | exact mem8 | exact mem9) (by first | exact one_u8s _ | exact one_u64s _ | exact one_u32s _ | (intro u hu; simp at hu; subst hu; rfl)) (by omega) (by omega) sel1 rfl (fun N34 a34 p34 r34 => ?_)
        have s34 := r34.rsl
        refine op_assign (nxlf rfl) rfl rfl ?_
        refine At.opsNil ?_
        refine At.inNorm ?_
        refine At.norm (hk_7 ?_)
        refine At.region ?_
        refine op_move (nxlf rfl) rfl rfl ?_
        refine op_subI (nxlf rfl) rfl rfl (by omega) (by omega) rfl ?_
        refine op_assign (nxlf rfl) rfl rfl ?_
        refine At.opsNil ?_
        refine At.norm ?_
        refine At.sub (L' := [N34, R]) (.cons_cons _ (.cons _ (.cons_cons _ (.slnil)))) ?_
        refine At.back ?_ (.refl _) ⟨j - 1, a34, np + 1, p34, N34, rfl, rfl, rfl, by omega, by rw [hst (.inr (by omega)), List.length_append, hnp]; rfl, by rw [hst (.inr (by omega)), u8s, List.map_append]; exact r34⟩ ?_
        · exact .cons (by first | exact lkI rfl (by omega) | rfl) (.cons (by first | exact lkI rfl (by omega) | rfl) (.cons (by first | exact lkI rfl (by omega) | rfl) .nil))
        · omega
      · refine At.skip ?_
        refine At.inNorm ?_
        refine At.norm (hk_7 ?_)
        refine At.region ?_
        refine op_move (nxlf rfl) rfl rfl ?_
        refine op_subI (nxlf rfl) rfl rfl (by omega) (by omega) rfl ?_
        refine op_assign (nxlf rfl) rfl rfl ?_
        refine At.opsNil ?_
        refine At.norm ?_
        have hc0 : ¬ (UInt8.ofNat (v32 l / 256 ^ (j - 1))).toNat ≠ 0 := by rw [← hbyte]; omega
        have hl0 : ¬ 0 < (bytesOf (v32 l / 256 ^ (i + 1))).length := by rw [← hj1', ← hnp]; omega
        rw [hj1] at hc0
        refine At.back ?_ (.refl _) ⟨j - 1, ap, np, cp, Np, rfl, rfl, rfl, by omega, by rw [hj1, down_eq hl0 hc0, ← hj1']; exact hnp, by rw [hj1, down_eq hl0 hc0, ← hj1']; exact rp⟩ ?_
        · exact .cons (by first | exact lkI rfl (by omega) | rfl) (.cons (by first | exact lkI rfl (by omega) | rfl) (.cons (by first | exact lkI rfl (by omega) | rfl) .nil))
        · omega
  · refine At.exit (At.thenExit (At.thenExit (At.inHit ?_)))
    refine At.norm (hk_3 ?_)
    refine At.seq fun K10 hk_10 => ?_
    refine At.region ?_
    refine op_move (nxlf rfl) rfl rfl ?_
    refine op_assign (nxlf rfl) rfl rfl ?_
    refine At.opsNil ?_
    refine At.norm (hk_10 ?_)
    refine At.ret (?_)
    refine At.ret1 (L1 := [Np]) rfl (.tmp rfl .nil) (.refl _) (.refl _) ?_
    obtain rfl : j = 0 := by omega
    rw [Nat.pow_zero, Nat.div_one] at hnp rp
    subst hnp
    exact ⟨Np, ap, cp, rfl, rfl, rp⟩
end Go.Proofs.Ytohmmgggaegbbaa
