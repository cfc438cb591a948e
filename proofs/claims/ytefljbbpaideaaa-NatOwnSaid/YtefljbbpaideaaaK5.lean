/- Several texts in one: see the remarks ahead of each part. No condition but those told there. -/
import Derived.Test.YtefljbbpaideaaaK3
import Derived.Test.YtefljbbpaideaaaK2
import Derived.Test.YtefljbbpaideaaaK4
/- Plain laws: numbers in digits of 32 bits and their bytes. No condition. -/
namespace Go.Proofs.Ytefljbbpaideaaa
set_option linter.unusedVariables false
set_option linter.unusedSimpArgs false
theorem bytesOf_zero : bytesOf 0 = [] := rfl
theorem bytesOf_step {x : Nat} (h : x ≠ 0) : bytesOf x = bytesOf (x / 256) ++ [UInt8.ofNat x] := by
  have hb : (bitLen x + 7) / 8 = (bitLen (x / 256) + 7) / 8 + 1 := by
    have h1 : bitLen (x / 256) = bitLen x - 8 := bitLen_div x 8
    have h2 := bitLen_pos (Nat.pos_of_ne_zero h)
    omega
  rw [bytesOf, hb, bytesN_succ]; rfl
theorem trim_len32 {l : List UInt32} {k : Nat} (hk : k ≤ l.length) (hz : ∀ i, k ≤ i → l.getD i 0 = 0) (hl : k = 0 ∨ (0 < k ∧ l.getD (k - 1) 0 ≠ 0)) : l.take k = digsOf (v32 l) ∧ (digsOf (v32 l)).length = k := by
  have h1 : l.take k = digsOf (v32 l) := trim_eq32 hk (fun i h hki => by
    have := hz i hki
    rwa [List.getD_eq_getElem?_getD, List.getElem?_eq_getElem h] at this) (by
    rcases hl with h | ⟨h0, h⟩
    · exact .inl h
    · refine .inr ⟨by omega, ?_⟩
      rwa [List.getD_eq_getElem?_getD, List.getElem?_eq_getElem (by omega)] at h)
  exact ⟨h1, by rw [← h1, List.length_take]; omega⟩
theorem v32_two (x : UInt64) : v32 [UInt32.ofNat x.toNat, UInt32.ofNat (shr64 x 32).toNat] = x.toNat := by
  have hx := x.toNat_lt
  simp only [v32, n32, val, List.map_cons, List.map_nil, shr64, UInt32.toNat_ofNat', UInt64.toNat_ofNat']
  omega
theorem byte32_at {l : List UInt32} {i : Nat} (h : i / 4 < l.length) : UInt8.ofNat (shr32 (l.getD (i / 4) 0) (8 * (i % 4))).toNat = UInt8.ofNat (v32 l / 256 ^ i) := by
  rw [shr32, UInt32.toNat_ofNat', Nat.mod_eq_of_lt (Nat.lt_of_le_of_lt (Nat.div_le_self _ _) (UInt32.toNat_lt _)), List.getD_eq_getElem?_getD, List.getElem?_eq_getElem h, Option.getD_some, ← dig_v32 h]
  apply UInt8.toNat_inj.1
  rw [UInt8.toNat_ofNat', UInt8.toNat_ofNat']
  obtain ⟨q, r, hqr, hr⟩ : ∃ q r, i = 4 * q + r ∧ r < 4 := ⟨i / 4, i % 4, by omega, Nat.mod_lt _ (by decide)⟩
  have e1 : i / 4 = q := by omega
  have e2 : i % 4 = r := by omega
  rw [e1, e2, hqr, show (256 : Nat) ^ (4 * q + r) = 2 ^ (32 * q) * 2 ^ (8 * r) from by rw [← Nat.pow_add, show (256 : Nat) = 2 ^ 8 from rfl, ← Nat.pow_mul]; congr 1; omega, ← Nat.div_div_eq_div_mul]
  generalize v32 l / 2 ^ (32 * q) = X
  rw [show (2 : Nat) ^ 32 = 2 ^ (8 * r) * 2 ^ (32 - 8 * r) from by rw [← Nat.pow_add]; congr 1; omega, Nat.mod_mul_right_div_self]
  exact Nat.mod_mod_of_dvd _ (Nat.pow_dvd_pow 2 (by omega : 8 ≤ 32 - 8 * r))
theorem bytesOf_down {N i : Nat} (h : N / 256 ^ i ≠ 0) : bytesOf (N / 256 ^ i) = bytesOf (N / 256 ^ (i + 1)) ++ [UInt8.ofNat (N / 256 ^ i)] := by
  rw [bytesOf_step h, Nat.div_div_eq_div_mul, Nat.pow_succ]
theorem bytesOf_len0 {n : Nat} (h : (bytesOf n).length = 0) : n = 0 := by
  rw [length_bytesOf] at h
  have := byteLen_le (N := n) (k := 0)
  have h2 := this.1 (by omega)
  simpa using h2
theorem down_ne {N i : Nat} (h : 0 < (bytesOf (N / 256 ^ (i + 1))).length ∨ (UInt8.ofNat (N / 256 ^ i)).toNat ≠ 0) : N / 256 ^ i ≠ 0 := by
  intro e
  rcases h with h | h
  · have : N / 256 ^ (i + 1) = 0 := by rw [Nat.pow_succ, ← Nat.div_div_eq_div_mul, e, Nat.zero_div]
    rw [this, bytesOf_zero] at h; simp at h
  · rw [e] at h; exact h rfl
theorem down_eq {N i : Nat} (h1 : ¬ 0 < (bytesOf (N / 256 ^ (i + 1))).length) (h2 : ¬ (UInt8.ofNat (N / 256 ^ i)).toNat ≠ 0) : bytesOf (N / 256 ^ i) = bytesOf (N / 256 ^ (i + 1)) := by
  have e1 := bytesOf_len0 (Nat.eq_zero_of_not_pos h1)
  have e2 : N / 256 ^ i % 256 = 0 := by
    have : (UInt8.ofNat (N / 256 ^ i)).toNat = 0 := by omega
    rwa [UInt8.toNat_ofNat'] at this
  have e3 : N / 256 ^ i = 0 := by
    have h3 : N / 256 ^ i / 256 = 0 := by rw [Nat.div_div_eq_div_mul, ← Nat.pow_succ]; exact e1
    omega
  rw [e1, e3]
end Go.Proofs.Ytefljbbpaideaaa
/- quarryref02's trim, Of, Bytes: numbers in digits of 32 bits. No condition. -/
namespace Go.Proofs.Ytefljbbpaideaaa
set_option linter.unusedVariables false
set_option linter.unusedSimpArgs false
open Go Go.RowKit
theorem u32_zero {x : UInt32} (h : (x.toNat : Int) = 0) : x = 0 := by rw [← UInt32.toNat_inj]; simpa using h
theorem trim32_f {N : Heaplet} {ao : Option Addr} {n cap : Nat} {l : List UInt32} (h : RSl N 1 ao n cap (u32s l)) :
    Fn Try.prog 118 #[.slice ao n cap] [] [N] (fun v L => v = .slice ao (digsOf (v32 l)).length cap ∧ L = [] ∧ l.take (digsOf (v32 l)).length = digsOf (v32 l) ∧ (digsOf (v32 l)).length ≤ n) := by
  have hlen := h.len32
  have hcap := h.cap63
  refine Fn.enter (vs := [.slice ao n cap]) Try.func118 rfl rfl rfl ?_
  intro E R hR
  have h := h.le (hR N (by simp))
  change At _ _ E [R] _
  refine At.seq fun K1 hk_1 => ?_
  refine At.region ?_
  refine op_assign (nxlf rfl) rfl rfl ?_
  refine At.opsNil ?_
  refine At.norm (hk_1 ?_)
  refine At.seq fun K2 hk_2 => ?_
  refine At.region ?_
  refine op_move (nxlf rfl) rfl rfl ?_
  refine op_lenS (nxlf rfl) se38 rfl rfl ?_
  refine op_assign (nxlf rfl) rfl rfl ?_
  refine At.opsNil ?_
  refine At.norm (hk_2 ?_)
  refine At.seq fun K3 hk_3 => ?_
  refine At.block ?_
  refine At.loop (fun fr_ hp_ ms_ => ∃ (k : Nat), fr_ = [(0, .slice ao n cap), (3, .int .i64 (k : Int))] ∧ hp_ = [R] ∧ k = ms_ ∧ (k ≤ n) ∧ (∀ i, k ≤ i → l.getD i 0 = 0)) ?_ (.refl _) ⟨n, rfl, rfl, rfl, Nat.le_refl _, fun i hi => by rw [List.getD_eq_getElem?_getD, List.getElem?_eq_none (by omega)]; rfl⟩ ?_
  · exact .cons (by first | exact lkI rfl (by omega) | rfl) (.cons (by first | exact lkI rfl (by omega) | rfl) .nil)
  rintro _ _ _ ⟨k, rfl, rfl, rfl, hk, hz⟩
  refine At.seq fun K4 hk_4 => ?_
  refine At.seq fun K5 hk_5 => ?_
  refine At.region ?_
  refine op_move (nxlf rfl) rfl rfl ?_
  refine op_gtr (nxlf rfl) rfl rfl rfl ?_
  refine op_move (nxlf rfl) rfl rfl ?_
  refine At.partP (d := 8) rfl (fun g8 => ?_) (fun g8 => ?_)
  · refine op_move (nxgf rfl rfl rfl rfl) rfl rfl ?_
    refine op_move (nxgf rfl rfl rfl rfl) rfl rfl ?_
    refine op_subI (nxgf rfl rfl rfl rfl) rfl rfl (by omega) (by omega) rfl ?_
    refine op_idx1 (nxgf rfl rfl rfl rfl) se38 rfl rfl (by assumption) (show _ = (((k - 1 : Nat)) : Int) from by omega) (by omega) rfl ?_
    refine op_loadE (nxgf rfl rfl rfl rfl) sc65 rfl (by assumption) (by first | exact get8 (by omega) | exact get64 (by omega) | exact get32 (by omega)) (by first | exact mem0 | exact mem1 | exact mem2 | exact mem3 | exact mem4 | exact mem5 | exact mem6 | exact mem7 | exact mem8 | exact mem9) rfl ?_
    refine op_eql (nxgf rfl rfl rfl rfl) rfl rfl rfl ?_
    refine op_pickT (nxlf rfl) rfl rfl rfl ?_
    refine At.opsNil ?_
    refine At.norm (hk_5 ?_)
    refine At.condP rfl (fun c15 => ?_) (fun c15 => ?_)
    · refine At.skip ?_
      refine At.norm (hk_4 ?_)
      refine At.block ?_
      refine At.region ?_
      refine op_move (nxlf rfl) rfl rfl ?_
      refine op_subI (nxlf rfl) rfl rfl (by omega) (by omega) rfl ?_
      refine op_assign (nxlf rfl) rfl rfl ?_
      refine At.opsNil ?_
      refine At.inNorm ?_
      refine At.norm ?_
      refine At.back ?_ (.refl _) ⟨k - 1, rfl, rfl, rfl, by omega, fun i hi => by rcases Nat.lt_or_ge i k with h | h; (rw [show i = k - 1 by omega]; exact u32_zero c15); exact hz i h⟩ ?_
      · exact .cons (by first | exact lkI rfl (by omega) | rfl) (.cons (by first | exact lkI rfl (by omega) | rfl) .nil)
      · omega
    · refine At.exit (At.thenExit (At.thenExit (At.inHit ?_)))
      refine At.norm (hk_3 ?_)
      refine At.seq fun K6 hk_6 => ?_
      refine At.region ?_
      refine op_move (nxlf rfl) rfl rfl ?_
      refine op_move (nxlf rfl) rfl rfl ?_
      refine op_slice0 (nxlf rfl) se38 rfl (.some rfl (show _ = (((k : Nat)) : Int) from by omega)) .none (by omega) (by omega) (by simp) rfl ?_
      refine op_assign (nxlf rfl) rfl rfl ?_
      refine At.opsNil ?_
      refine At.norm (hk_6 ?_)
      refine At.ret (?_)
      refine At.ret1 (L1 := []) rfl (.tmp rfl .nil) (.refl _) (.refl _) ?_
      have ⟨e1, e2⟩ := trim_len32 (by omega) hz (.inr ⟨by omega, fun e => c15 (by rw [e]; rfl)⟩); rw [e2]; exact ⟨rfl, rfl, e1, hk⟩
  · refine op_skip rfl rfl rfl rfl rfl rfl rfl ?_
    refine op_skip rfl rfl rfl rfl rfl rfl rfl ?_
    refine op_skip rfl rfl rfl rfl rfl rfl rfl ?_
    refine op_skip rfl rfl rfl rfl rfl rfl rfl ?_
    refine op_skip rfl rfl rfl rfl rfl rfl rfl ?_
    refine op_skip rfl rfl rfl rfl rfl rfl rfl ?_
    refine op_pickF (nxlf rfl) rfl rfl rfl ?_
    refine At.opsNil ?_
    refine At.norm (hk_5 ?_)
    refine At.condF rfl ?_
    refine At.exit (At.thenExit (At.thenExit (At.inHit ?_)))
    refine At.norm (hk_3 ?_)
    refine At.seq fun K7 hk_7 => ?_
    refine At.region ?_
    refine op_move (nxlf rfl) rfl rfl ?_
    refine op_move (nxlf rfl) rfl rfl ?_
    refine op_slice0 (nxlf rfl) se38 rfl (.some rfl (show _ = (((k : Nat)) : Int) from by omega)) .none (by omega) (by omega) (by simp) rfl ?_
    refine op_assign (nxlf rfl) rfl rfl ?_
    refine At.opsNil ?_
    refine At.norm (hk_7 ?_)
    refine At.ret (?_)
    refine At.ret1 (L1 := []) rfl (.tmp rfl .nil) (.refl _) (.refl _) ?_
    have ⟨e1, e2⟩ := trim_len32 (by omega) hz (.inl (by omega)); rw [e2]; exact ⟨rfl, rfl, e1, hk⟩
theorem Of32_f (x : UInt64) : Fn Try.prog 68 #[.int .u64 (x.toNat : Int)] [] [] (fun v L => ∃ M a cap, v = .slice a (digsOf x.toNat).length cap ∧ L = [M] ∧ RSl M 1 a (digsOf x.toNat).length cap (u32s (digsOf x.toNat))) := by
  refine Fn.enter (vs := [.int .u64 (x.toNat : Int)]) Try.func68 rfl rfl rfl ?_
  intro E R hR
  change At _ _ E [R] _
  refine At.seq fun K1 hk_1 => ?_
  refine At.region ?_
  refine op_assign (nxlf rfl) rfl rfl ?_
  refine At.opsNil ?_
  refine At.norm (hk_1 ?_)
  refine At.seq fun K2 hk_2 => ?_
  refine At.region ?_
  refine op_move (nxlf rfl) rfl rfl ?_
  refine op_conv32 (nxlf rfl) (und_some Try.underlying22) Try.underlying65 rfl (by first | rfl | exact (Int.toNat_of_nonneg (by omega)).symm) rfl ?_
  refine op_move (nxlf rfl) rfl rfl ?_
  refine op_shrU (nxlf rfl) rfl rfl (show _ = ((32 : Nat) : Int) from rfl) rfl ?_
  refine op_conv32 (nxlf rfl) (und_some Try.underlying22) Try.underlying65 rfl (by first | rfl | exact (Int.toNat_of_nonneg (by omega)).symm) rfl ?_
  refine op_lit (nxla rfl) Try.underlying38 ze65 sz65 (.cons rfl (.cons rfl .nil)) rfl rfl (by simp [Value.cells]) rfl rfl rfl (fun N8 a8 r8 => ?_)
  simp only [flatV, List.flatMap_cons, List.flatMap_nil, Value.cells, List.append_nil, List.cons_append, List.nil_append] at r8
  have s8 := r8.rsl
  refine op_callA (nxla rfl) (.cons rfl .nil) (trim32_f (l := [UInt32.ofNat x.toNat, UInt32.ofNat (shr64 x 32).toNat]) s8) Try.func118 rfl rfl (by simp) rfl ?_
  rintro v9 L9 ⟨rfl, rfl, e1, e2⟩
  change At _ _ _ [N8, R] _
  rw [v32_two] at e1 e2 ⊢
  have s9 := s8.take e2 (Nat.le_refl _) e2
  refine op_assign (nxlf rfl) rfl rfl ?_
  refine At.opsNil ?_
  refine At.norm (hk_2 ?_)
  refine At.ret (?_)
  refine At.ret1 (L1 := [N8]) rfl (.tmp rfl .nil) (.refl _) (.refl _) ?_
  refine ⟨N8, a8, 2, rfl, rfl, ?_⟩
  have e : List.take ((digsOf x.toNat).length * 1) [Value.int IntKind.u32 ↑(UInt32.ofNat x.toNat).toNat, Value.int IntKind.u32 ↑(UInt32.ofNat (shr64 x 32).toNat).toNat] = u32s (digsOf x.toNat) := by
    rw [Nat.mul_one, ← e1, ← u32s_take, e1]; rfl
  rw [e] at s9
  exact s9
theorem Bytes32_f {N : Heaplet} {ao : Option Addr} {n cap : Nat} {l : List UInt32} (h : RSl N 1 ao n cap (u32s l)) (hn : n ≤ 17592186044416) :
    Fn Try.prog 42 #[.slice ao n cap] [] [N] (fun v L => ∃ M a cap, v = .slice a (bytesOf (v32 l)).length cap ∧ L = [M] ∧ Row M 5 1 a (bytesOf (v32 l)).length cap (u8s (bytesOf (v32 l)))) := by
  have hlen := h.len32
  have hcap := h.cap63
  have hlim : v32 l < 256 ^ (4 * n) := by
    rw [show (256 : Nat) = 2 ^ 8 from rfl, ← Nat.pow_mul, show 8 * (4 * n) = 32 * l.length from by omega]; exact v32_lt l
  have hb4 : ∀ j, (bytesOf (v32 l / 256 ^ j)).length ≤ 4 * n := fun j => by
    rw [length_bytesOf]; exact byteLen_le.2 (Nat.lt_of_le_of_lt (Nat.div_le_self _ _) hlim)
  refine Fn.enter (vs := [.slice ao n cap]) Try.func42 rfl rfl rfl ?_
  intro E R hR
  have h := h.le (hR N (by simp))
  change At _ _ E [R] _
  refine At.seq fun K1 hk_1 => ?_
  refine At.region ?_
  refine op_assign (nxlf rfl) rfl rfl ?_
  refine At.opsNil ?_
  refine At.norm (hk_1 ?_)
  refine At.seq fun K2 hk_2 => ?_
  refine At.region ?_
  refine op_assign (nxlf rfl) rfl rfl ?_
  refine At.opsNil ?_
  refine At.norm (hk_2 ?_)
  refine At.seq fun K3 hk_3 => ?_
  refine At.seq fun K4 hk_4 => ?_
  refine At.region ?_
  refine op_move (nxlf rfl) rfl rfl ?_
  refine op_lenS (nxlf rfl) se38 rfl rfl ?_
  refine op_mulI (nxlf rfl) rfl rfl (by omega) (by omega) rfl ?_
  refine op_subI (nxlf rfl) rfl rfl (by omega) (by omega) rfl ?_
  refine op_assign (nxlf rfl) rfl rfl ?_
  refine At.opsNil ?_
  refine At.norm (hk_4 ?_)
  refine At.block ?_
  refine At.empty ?_
  refine At.loop (fun fr_ hp_ ms_ => ∃ (j : Nat) (ap : Option Addr) (np cp : Nat) (Np : Heaplet), fr_ = [(0, .slice ao n cap), (3, .slice ap np cp), (4, .int .i64 ((j : Int) - 1))] ∧ hp_ = [Np, R] ∧ j = ms_ ∧ (j ≤ 4 * n) ∧ (np = (bytesOf (v32 l / 256 ^ j)).length) ∧ (Row Np 5 1 ap np cp (u8s (bytesOf (v32 l / 256 ^ j))))) ?_ (.refl _) ⟨4 * n, none, 0, 0, nilH, rfl, rfl, rfl, Nat.le_refl _, by rw [Nat.div_eq_of_lt hlim]; rfl, by rw [Nat.div_eq_of_lt hlim]; exact Row.nil _ _ _⟩ ?_
  · exact .cons (by first | exact lkI rfl (by omega) | rfl) (.cons (by first | exact lkI rfl (by omega) | rfl) (.cons (by first | exact lkI rfl (by omega) | rfl) .nil))
  rintro _ _ _ ⟨j, ap, np, cp, Np, rfl, rfl, rfl, hj, hnp, rp⟩
  have hb := hb4 j
  refine At.seq fun K5 hk_5 => ?_
  refine At.seq fun K6 hk_6 => ?_
  refine At.region ?_
  refine op_move (nxlf rfl) rfl rfl ?_
  refine op_geq (nxlf rfl) rfl rfl rfl ?_
  refine At.opsNil ?_
  refine At.norm (hk_6 ?_)
  refine At.condP rfl (fun c11 => ?_) (fun c11 => ?_)
  · have hbyte := byte32_at (l := l) (i := j - 1) (by omega)
    obtain ⟨i, hi⟩ : ∃ i, j = i + 1 := ⟨j - 1, by omega⟩
    have hj1 : j - 1 = i := by omega
    have hj1' : j = i + 1 := hi
    have hst : (0 < np ∨ (UInt8.ofNat (shr32 (l.getD ((j - 1) / 4) 0) (8 * ((j - 1) % 4))).toNat).toNat ≠ 0) → bytesOf (v32 l / 256 ^ (j - 1)) = bytesOf (v32 l / 256 ^ j) ++ [UInt8.ofNat (shr32 (l.getD ((j - 1) / 4) 0) (8 * ((j - 1) % 4))).toNat] := fun hh => by
      rw [hbyte] at hh ⊢
      rw [hnp] at hh
      rw [hj1, hj1'] at *
      exact bytesOf_down (down_ne hh)
    refine At.skip ?_
    refine At.norm (hk_5 ?_)
    refine At.seq fun K7 hk_7 => ?_
    refine At.block ?_
    refine At.seq fun K8 hk_8 => ?_
    refine At.region ?_
    refine op_move (nxlf rfl) rfl rfl ?_
    refine op_move (nxlf rfl) rfl rfl ?_
    refine op_quoI (nxlf rfl) rfl rfl (by omega) (by omega) (by omega) rfl ?_
    refine op_idx1 (nxlf rfl) se38 rfl rfl (by assumption) (show _ = ((((j - 1) / 4 : Nat)) : Int) from by omega) (by omega) rfl ?_
    refine op_loadE (nxlf rfl) sc65 rfl (by assumption) (by first | exact get8 (by omega) | exact get64 (by omega) | exact get32 (by omega)) (by first | exact mem0 | exact mem1 | exact mem2 | exact mem3 | exact mem4 | exact mem5 | exact mem6 | exact mem7 | exact mem8 | exact mem9) rfl ?_
    refine op_move (nxlf rfl) rfl rfl ?_
    refine op_rem (nxlf rfl) rfl rfl (by omega) (by omega) rfl ?_
    refine op_mulI (nxlf rfl) rfl rfl (by omega) (by omega) rfl ?_
    refine op_shrU32 (nxlf rfl) rfl rfl (show _ = (((8 * ((j - 1) % 4) : Nat)) : Int) from by omega) rfl ?_
    refine op_conv8 (nxlf rfl) (und_some Try.underlying65) Try.underlying5 rfl (by first | rfl | exact (Int.toNat_of_nonneg (by omega)).symm) rfl ?_
    refine op_assign (nxlf rfl) rfl rfl ?_
    refine At.opsNil ?_
    refine At.norm (hk_8 ?_)
    refine At.seq fun K9 hk_9 => ?_
    refine At.region ?_
    refine op_move (nxlf rfl) rfl rfl ?_
    refine op_lenS (nxlf rfl) se34 rfl rfl ?_
    refine op_gtr (nxlf rfl) rfl rfl rfl ?_
    refine op_move (nxlf rfl) rfl rfl ?_
    refine At.partP (d := 27) rfl (fun g27 => ?_) (fun g27 => ?_)
    · refine op_skip rfl rfl rfl rfl rfl rfl rfl ?_
      refine op_skip rfl rfl rfl rfl rfl rfl rfl ?_
      refine op_pickT (nxlf rfl) rfl rfl rfl ?_
      refine At.opsNil ?_
      refine At.norm (hk_9 ?_)
      refine At.condT rfl ?_
      refine At.region ?_
      refine op_move (nxlf rfl) rfl rfl ?_
      refine op_move (nxlf rfl) rfl rfl ?_
      refine op_lit (nxla rfl) Try.underlying34 ze5 sz5 (.cons rfl .nil) rfl rfl (by simp [Value.cells]) rfl rfl rfl (fun N33 a33 r33 => ?_)
      simp only [flatV, List.flatMap_cons, List.flatMap_nil, Value.cells, List.append_nil, List.cons_append, List.nil_append] at r33
      have s33 := r33.rsl
      refine op_append (nxl rfl) Try.underlying34 Try.underlying34 te5 rfl rfl rp (by assumption) (by first | exact mem0 | exact mem1 | exact mem2 | exact mem3 | exact mem4 | exact mem5 | exact mem6 | exact mem7 | exact mem8 | exact mem9) (by first | exact one_u8s _ | exact one_u64s _ | exact one_u32s _ | (intro u hu; simp at hu; subst hu; rfl)) (by omega) (by omega) sel1 rfl (fun N34 a34 p34 r34 => ?_)
      have s34 := r34.rsl
      refine op_assign (nxlf rfl) rfl rfl ?_
      refine At.opsNil ?_
      refine At.inNorm ?_
      refine At.norm (hk_7 ?_)
      refine At.region ?_
      refine op_move (nxlf rfl) rfl rfl ?_
      refine op_subI (nxlf rfl) rfl rfl (by omega) (by omega) rfl ?_
      refine op_assign (nxlf rfl) rfl rfl ?_
      refine At.opsNil ?_
      refine At.norm ?_
      refine At.sub (L' := [N34, R]) (.cons_cons _ (.cons _ (.cons_cons _ (.slnil)))) ?_
      refine At.back ?_ (.refl _) ⟨j - 1, a34, np + 1, p34, N34, rfl, rfl, rfl, by omega, by rw [hst (.inl (by omega)), List.length_append, hnp]; rfl, by rw [hst (.inl (by omega)), u8s, List.map_append]; exact r34⟩ ?_
      · exact .cons (by first | exact lkI rfl (by omega) | rfl) (.cons (by first | exact lkI rfl (by omega) | rfl) (.cons (by first | exact lkI rfl (by omega) | rfl) .nil))
      · omega
    · refine op_move (nxgf rfl rfl rfl rfl) rfl rfl ?_
      refine op_neq (nxgf rfl rfl rfl rfl) rfl rfl rfl ?_
      refine op_pickF (nxlf rfl) rfl rfl rfl ?_
      refine At.opsNil ?_
      refine At.norm (hk_9 ?_)
      refine At.condP rfl (fun c30 => ?_) (fun c30 => ?_)
      · refine At.region ?_
        refine op_move (nxlf rfl) rfl rfl ?_
        refine op_move (nxlf rfl) rfl rfl ?_
        refine op_lit (nxla rfl) Try.underlying34 ze5 sz5 (.cons rfl .nil) rfl rfl (by simp [Value.cells]) rfl rfl rfl (fun N33 a33 r33 => ?_)
        simp only [flatV, List.flatMap_cons, List.flatMap_nil, Value.cells, List.append_nil, List.cons_append, List.nil_append] at r33
        have s33 := r33.rsl
        refine op_append (nxl rfl) Try.underlying34 Try.underlying34 te5 rfl rfl rp (by assumption) (by first | exact mem0 | exact mem1 | exact mem2 | exact mem3 | exact mem4 | exact mem5 | exact mem6 | exact mem7 | exact mem8 | exact mem9) (by first | exact one_u8s _ | exact one_u64s _ | exact one_u32s _ | (intro u hu; simp at hu; subst hu; rfl)) (by omega) (by omega) sel1 rfl (fun N34 a34 p34 r34 => ?_)
        have s34 := r34.rsl
        refine op_assign (nxlf rfl) rfl rfl ?_
        refine At.opsNil ?_
        refine At.inNorm ?_
        refine At.norm (hk_7 ?_)
        refine At.region ?_
        refine op_move (nxlf rfl) rfl rfl ?_
        refine op_subI (nxlf rfl) rfl rfl (by omega) (by omega) rfl ?_
        refine op_assign (nxlf rfl) rfl rfl ?_
        refine At.opsNil ?_
        refine At.norm ?_
        refine At.sub (L' := [N34, R]) (.cons_cons _ (.cons _ (.cons_cons _ (.slnil)))) ?_
        refine At.back ?_ (.refl _) ⟨j - 1, a34, np + 1, p34, N34, rfl, rfl, rfl, by omega, by rw [hst (.inr (by omega)), List.length_append, hnp]; rfl, by rw [hst (.inr (by omega)), u8s, List.map_append]; exact r34⟩ ?_
        · exact .cons (by first | exact lkI rfl (by omega) | rfl) (.cons (by first | exact lkI rfl (by omega) | rfl) (.cons (by first | exact lkI rfl (by omega) | rfl) .nil))
        · omega
      · refine At.skip ?_
        refine At.inNorm ?_
        refine At.norm (hk_7 ?_)
        refine At.region ?_
        refine op_move (nxlf rfl) rfl rfl ?_
        refine op_subI (nxlf rfl) rfl rfl (by omega) (by omega) rfl ?_
        refine op_assign (nxlf rfl) rfl rfl ?_
        refine At.opsNil ?_
        refine At.norm ?_
        have hc0 : ¬ (UInt8.ofNat (v32 l / 256 ^ (j - 1))).toNat ≠ 0 := by rw [← hbyte]; omega
        have hl0 : ¬ 0 < (bytesOf (v32 l / 256 ^ (i + 1))).length := by rw [← hj1', ← hnp]; omega
        rw [hj1] at hc0
        refine At.back ?_ (.refl _) ⟨j - 1, ap, np, cp, Np, rfl, rfl, rfl, by omega, by rw [hj1, down_eq hl0 hc0, ← hj1']; exact hnp, by rw [hj1, down_eq hl0 hc0, ← hj1']; exact rp⟩ ?_
        · exact .cons (by first | exact lkI rfl (by omega) | rfl) (.cons (by first | exact lkI rfl (by omega) | rfl) (.cons (by first | exact lkI rfl (by omega) | rfl) .nil))
        · omega
  · refine At.exit (At.thenExit (At.thenExit (At.inHit ?_)))
    refine At.norm (hk_3 ?_)
    refine At.seq fun K10 hk_10 => ?_
    refine At.region ?_
    refine op_move (nxlf rfl) rfl rfl ?_
    refine op_assign (nxlf rfl) rfl rfl ?_
    refine At.opsNil ?_
    refine At.norm (hk_10 ?_)
    refine At.ret (?_)
    refine At.ret1 (L1 := [Np]) rfl (.tmp rfl .nil) (.refl _) (.refl _) ?_
    obtain rfl : j = 0 := by omega
    rw [Nat.pow_zero, Nat.div_one] at hnp rp
    subst hnp
    exact ⟨Np, ap, cp, rfl, rfl, rp⟩
end Go.Proofs.Ytefljbbpaideaaa
/- quarryref02's From, Cmp; quarryref01's W. No condition but that bytes are not more than a machine holds. -/
namespace Go.Proofs.Ytefljbbpaideaaa
set_option linter.unusedVariables false
set_option linter.unusedSimpArgs false
open Go Go.RowKit
theorem ofNat_shl32 (x : UInt8) (m : Nat) : shl32 (UInt32.ofNat x.toNat) m = UInt32.ofNat (x.toNat * 2 ^ m) := shl32_of _ (by have := x.toNat_lt; omega) m
theorem rFrom_f {N : Heaplet} {ao : Option Addr} {n cap : Nat} {l : List UInt8} (h : RSl N 1 ao n cap (u8s l)) (hn : n ≤ 140737488351232) :
    Fn Try.prog 37 #[.slice ao n cap] [] [N] (fun v L => ∃ M a c, v = .slice a (digsOf (be l)).length c ∧ L = [M] ∧ RSl M 1 a (digsOf (be l)).length c (u32s (digsOf (be l)))) := by
  have hlen := h.len8
  have hcap := h.cap63
  refine Fn.enter (vs := [.slice ao n cap]) Try.func37 rfl rfl rfl ?_
  intro E R hR
  have h := h.le (hR N (by simp))
  change At _ _ E [R] _
  refine At.seq fun K1 hk_1 => ?_
  refine At.region ?_
  refine op_assign (nxlf rfl) rfl rfl ?_
  refine At.opsNil ?_
  refine At.norm (hk_1 ?_)
  refine At.seq fun K2 hk_2 => ?_
  refine At.region ?_
  refine op_move (nxlf rfl) rfl rfl ?_
  refine op_lenS (nxlf rfl) se34 rfl rfl ?_
  refine op_addI (nxlf rfl) rfl rfl (by omega) (by omega) rfl ?_
  refine op_quoI (nxlf rfl) rfl rfl (by omega) (by omega) (by omega) rfl ?_
  refine op_make (nxla rfl) Try.underlying38 te65 rfl rfl (show _ = ((((n + 3) / 4 : Nat)) : Int) from by omega) (show _ = ((((n + 3) / 4 : Nat)) : Int) from by omega) (by omega) (by unfold maxLen; omega) rfl (fun N10 a10 r10 => ?_)
  rw [made_one _ _ rfl, zero_u32s] at r10
  have s10 := r10.rsl
  refine op_assign (nxlf rfl) rfl rfl ?_
  refine At.opsNil ?_
  refine At.norm (hk_2 ?_)
  refine At.seq fun K3 hk_3 => ?_
  refine At.seq fun K4 hk_4 => ?_
  refine At.region ?_
  refine op_assign (nxlf rfl) rfl rfl ?_
  refine At.opsNil ?_
  refine At.norm (hk_4 ?_)
  refine At.block ?_
  refine At.loop (fun fr_ hp_ ms_ => ∃ (k : Nat) (Nq : Heaplet), fr_ = [(0, .slice ao n cap), (3, .slice a10 ((n + 3) / 4) ((n + 3) / 4)), (4, .int .i64 (k : Int))] ∧ hp_ = [Nq, R] ∧ n - k = ms_ ∧ (k ≤ n) ∧ (Row Nq 65 1 a10 ((n + 3) / 4) ((n + 3) / 4) (u32s (rfromSt l k)))) ?_ (.refl _) ⟨0, N10, rfl, rfl, rfl, by omega, by simpa [rfromSt, hlen] using r10⟩ ?_
  · exact .cons (by first | exact lkI rfl (by omega) | rfl) (.cons (by first | exact lkI rfl (by omega) | rfl) (.cons (by first | exact lkI rfl (by omega) | rfl) .nil))
  rintro _ _ _ ⟨k, Nq, rfl, rfl, rfl, hk, rq⟩
  have sq := rq.rsl
  have hlq := sq.len32
  refine At.seq fun K5 hk_5 => ?_
  refine At.seq fun K6 hk_6 => ?_
  refine At.region ?_
  refine op_move (nxlf rfl) rfl rfl ?_
  refine op_move (nxlf rfl) rfl rfl ?_
  refine op_lenS (nxlf rfl) se34 rfl rfl ?_
  refine op_lss (nxlf rfl) rfl rfl rfl ?_
  refine At.opsNil ?_
  refine At.norm (hk_6 ?_)
  refine At.condP rfl (fun c14 => ?_) (fun c14 => ?_)
  · refine At.skip ?_
    refine At.norm (hk_5 ?_)
    refine At.seq fun K7 hk_7 => ?_
    refine At.block ?_
    refine At.seq fun K8 hk_8 => ?_
    refine At.region ?_
    refine op_move (nxlf rfl) rfl rfl ?_
    refine op_lenS (nxlf rfl) se34 rfl rfl ?_
    refine op_subI (nxlf rfl) rfl rfl (by omega) (by omega) rfl ?_
    refine op_move (nxlf rfl) rfl rfl ?_
    refine op_subI (nxlf rfl) rfl rfl (by omega) (by omega) rfl ?_
    refine op_assign (nxlf rfl) rfl rfl ?_
    refine At.opsNil ?_
    refine At.norm (hk_8 ?_)
    refine At.drawn [19] [0,1,2,3,4,5,6,7,8,9,10,11,12,13,14,15,16,17,18,19] (by kernel_rfl) (by kernel_rfl) ?_
    refine op_move (nxof rfl rfl rfl (by kernel_rfl)) rfl rfl ?_
    refine op_move (nxof rfl rfl rfl (by kernel_rfl)) rfl rfl ?_
    refine op_quoI (nxof rfl rfl rfl (by kernel_rfl)) rfl rfl (by omega) (by omega) (by omega) rfl ?_
    refine op_move (nxof rfl rfl rfl (by kernel_rfl)) rfl rfl ?_
    refine op_move (nxof rfl rfl rfl (by kernel_rfl)) rfl rfl ?_
    refine op_quoI (nxof rfl rfl rfl (by kernel_rfl)) rfl rfl (by omega) (by omega) (by omega) rfl ?_
    refine op_idx1 (nxof rfl rfl rfl (by kernel_rfl)) se38 rfl rfl (by assumption) (show _ = (((k / 4 : Nat)) : Int) from by omega) (by omega) rfl ?_
    refine op_loadE (nxof rfl rfl rfl (by kernel_rfl)) sc65 rfl (by assumption) (by first | exact get8 (by omega) | exact get64 (by omega) | exact get32 (by omega)) (by first | exact mem0 | exact mem1 | exact mem2 | exact mem3 | exact mem4 | exact mem5 | exact mem6 | exact mem7 | exact mem8 | exact mem9) rfl ?_
    refine op_move (nxof rfl rfl rfl (by kernel_rfl)) rfl rfl ?_
    refine op_move (nxof rfl rfl rfl (by kernel_rfl)) rfl rfl ?_
    refine op_idx1 (nxof rfl rfl rfl (by kernel_rfl)) se34 rfl rfl (by assumption) (show _ = (((n - 1 - k : Nat)) : Int) from by omega) (by omega) rfl ?_
    refine op_loadE (nxof rfl rfl rfl (by kernel_rfl)) sc5 rfl (by assumption) (by first | exact get8 (by omega) | exact get64 (by omega) | exact get32 (by omega)) (by first | exact mem0 | exact mem1 | exact mem2 | exact mem3 | exact mem4 | exact mem5 | exact mem6 | exact mem7 | exact mem8 | exact mem9) rfl ?_
    refine op_conv32 (nxof rfl rfl rfl (by kernel_rfl)) (und_some Try.underlying5) Try.underlying65 rfl (by first | rfl | exact (Int.toNat_of_nonneg (by omega)).symm) rfl ?_
    refine op_move (nxof rfl rfl rfl (by kernel_rfl)) rfl rfl ?_
    refine op_rem (nxof rfl rfl rfl (by kernel_rfl)) rfl rfl (by omega) (by omega) rfl ?_
    refine op_mulI (nxof rfl rfl rfl (by kernel_rfl)) rfl rfl (by omega) (by omega) rfl ?_
    refine op_shlU32 (nxof rfl rfl rfl (by kernel_rfl)) rfl rfl (show _ = (((8 * (k % 4) : Nat)) : Int) from by omega) rfl ?_
    refine op_orU32 (nxof rfl rfl rfl (by kernel_rfl)) rfl rfl rfl ?_
    refine op_idx1 (nxof rfl rfl rfl (by kernel_rfl)) se38 rfl rfl (by assumption) (show _ = (((k / 4 : Nat)) : Int) from by omega) (by omega) rfl ?_
    refine op_storeE (nxos rfl rfl rfl rfl) sz65 rfl rfl rfl rfl rfl rq (by simp <;> omega) (by simp) sel0 (fun Nq rq => ?_)
    simp only [setL] at rq
    have sq := rq.rsl
    refine At.oneNil ?_
    refine At.inNorm ?_
    refine At.norm (hk_7 ?_)
    refine At.region ?_
    refine op_move (nxlf rfl) rfl rfl ?_
    refine op_addI (nxlf rfl) rfl rfl (by omega) (by omega) rfl ?_
    refine op_assign (nxlf rfl) rfl rfl ?_
    refine At.opsNil ?_
    refine At.norm ?_
    refine At.back ?_ (.refl _) ⟨k + 1, Nq, rfl, rfl, rfl, by omega, by rw [rfromSt, rfromStep, hlen, ← ofNat_shl32, ← set_u32s]; exact rq⟩ ?_
    · exact .cons (by first | exact lkI rfl (by omega) | rfl) (.cons (by first | exact lkI rfl (by omega) | rfl) (.cons (by first | exact lkI rfl (by omega) | rfl) .nil))
    · omega
  · refine At.exit (At.thenExit (At.thenExit (At.inHit ?_)))
    refine At.norm (hk_3 ?_)
    refine At.seq fun K9 hk_9 => ?_
    refine At.region ?_
    refine op_move (nxlf rfl) rfl rfl ?_
    refine op_callA (nxla rfl) (.cons rfl .nil) (trim32_f sq) Try.func118 rfl rfl (by simp) rfl ?_
    rintro v42 L42 ⟨rfl, rfl, e1, e2⟩
    change At _ _ _ [Nq, R] _
    refine op_assign (nxlf rfl) rfl rfl ?_
    refine At.opsNil ?_
    refine At.norm (hk_9 ?_)
    refine At.ret (?_)
    refine At.ret1 (L1 := [Nq]) rfl (.tmp rfl .nil) (.refl _) (.refl _) ?_
    obtain rfl : k = l.length := by omega
    rw [rfromSt_all] at e1 e2 ⊢
    have h2 := sq.take e2 (Nat.le_refl _) e2
    rw [Nat.mul_one, u32s_take, e1] at h2
    exact ⟨Nq, a10, _, rfl, rfl, h2⟩
/-- How two numbers stand to each other. -/
def cmpI (x y : Nat) : Int := if x < y then -1 else if y < x then 1 else 0
theorem digs_lt {x y : Nat} (h : (digsOf x).length < (digsOf y).length) : x < y := by
  rw [length_digsOf, length_digsOf] at h
  rcases Nat.lt_or_ge x y with h1 | h1
  · exact h1
  · have := bitLen_mono h1; omega
theorem digs_eq_len {x y : Nat} (h : (digsOf x).length = (digsOf y).length) : x / 2 ^ (32 * (digsOf x).length) = y / 2 ^ (32 * (digsOf x).length) := by
  have h1 := v32_lt (digsOf x)
  have h2 := v32_lt (digsOf y)
  rw [v32_digsOf] at h1 h2
  rw [Nat.div_eq_of_lt h1, h, Nat.div_eq_of_lt h2]
theorem digs_at {x j : Nat} (h : j < (digsOf x).length) : x / 2 ^ (32 * j) = x / 2 ^ (32 * (j + 1)) * 2 ^ 32 + ((digsOf x).getD j 0).toNat := by
  have e := dig_v32 h
  rw [v32_digsOf] at e
  rw [List.getD_eq_getElem?_getD, List.getElem?_eq_getElem h, Option.getD_some, ← e, show 32 * (j + 1) = 32 * j + 32 by omega, Nat.pow_add, ← Nat.div_div_eq_div_mul]
  omega
theorem lt_of_div {x y p : Nat} (h : x / p < y / p) : x < y := by
  rcases Nat.lt_or_ge x y with h1 | h1
  · exact h1
  · have := Nat.div_le_div_right (c := p) h1; omega
theorem cmpI_le {x y : Nat} : cmpI x y ≤ 0 ↔ x ≤ y := by
  unfold cmpI
  split
  · omega
  · split <;> omega
theorem Cmp32_f {N M : Heaplet} {ax ay : Option Addr} {nx ny cx cy x y : Nat} (hx : RSl N 1 ax nx cx (u32s (digsOf x))) (hy : RSl M 1 ay ny cy (u32s (digsOf y))) :
    Fn Try.prog 76 #[.slice ax nx cx, .slice ay ny cy] [] [N, M] (fun v L => v = .int .i64 (cmpI x y) ∧ L = []) := by
  have lx := hx.len32
  have ly := hy.len32
  have hcx := hx.cap63
  have hcy := hy.cap63
  refine Fn.enter (vs := [.slice ax nx cx, .slice ay ny cy]) Try.func76 rfl rfl rfl ?_
  intro E R hR
  have hx := hx.le (hR N (by simp))
  have hy := hy.le (hR M (by simp))
  change At _ _ E [R] _
  refine At.seq fun K1 hk_1 => ?_
  refine At.region ?_
  refine op_assign (nxlf rfl) rfl rfl ?_
  refine At.opsNil ?_
  refine At.norm (hk_1 ?_)
  refine At.seq fun K2 hk_2 => ?_
  refine At.seq fun K3 hk_3 => ?_
  refine At.region ?_
  refine op_move (nxlf rfl) rfl rfl ?_
  refine op_lenS (nxlf rfl) se38 rfl rfl ?_
  refine op_move (nxlf rfl) rfl rfl ?_
  refine op_lenS (nxlf rfl) se38 rfl rfl ?_
  refine op_neq (nxlf rfl) rfl rfl rfl ?_
  refine At.opsNil ?_
  refine At.norm (hk_3 ?_)
  refine At.condP rfl (fun c10 => ?_) (fun c10 => ?_)
  · refine At.seq fun K4 hk_4 => ?_
    refine At.seq fun K5 hk_5 => ?_
    refine At.region ?_
    refine op_move (nxlf rfl) rfl rfl ?_
    refine op_lenS (nxlf rfl) se38 rfl rfl ?_
    refine op_move (nxlf rfl) rfl rfl ?_
    refine op_lenS (nxlf rfl) se38 rfl rfl ?_
    refine op_lss (nxlf rfl) rfl rfl rfl ?_
    refine At.opsNil ?_
    refine At.norm (hk_5 ?_)
    refine At.condP rfl (fun c15 => ?_) (fun c15 => ?_)
    · refine At.seq fun K6 hk_6 => ?_
      refine At.region ?_
      refine op_assign (nxlf rfl) rfl rfl ?_
      refine At.opsNil ?_
      refine At.norm (hk_6 ?_)
      refine At.ret (At.thenRet (At.thenRet (?_)))
      refine At.ret1 (L1 := []) rfl (.tmp rfl .nil) (.refl _) (.refl _) ?_
      have := @digs_lt x y (by omega); exact ⟨by rw [cmpI, if_pos this], rfl⟩
    · refine At.skip ?_
      refine At.norm (hk_4 ?_)
      refine At.seq fun K7 hk_7 => ?_
      refine At.region ?_
      refine op_assign (nxlf rfl) rfl rfl ?_
      refine At.opsNil ?_
      refine At.norm (hk_7 ?_)
      refine At.ret (At.thenRet (?_))
      refine At.ret1 (L1 := []) rfl (.tmp rfl .nil) (.refl _) (.refl _) ?_
      have := @digs_lt y x (by omega); exact ⟨by rw [cmpI, if_neg (by omega), if_pos this], rfl⟩
  · refine At.skip ?_
    refine At.norm (hk_2 ?_)
    refine At.seq fun K8 hk_8 => ?_
    refine At.seq fun K9 hk_9 => ?_
    refine At.region ?_
    refine op_move (nxlf rfl) rfl rfl ?_
    refine op_lenS (nxlf rfl) se38 rfl rfl ?_
    refine op_subI (nxlf rfl) rfl rfl (by omega) (by omega) rfl ?_
    refine op_assign (nxlf rfl) rfl rfl ?_
    refine At.opsNil ?_
    refine At.norm (hk_9 ?_)
    refine At.block ?_
    refine At.loop (fun fr_ hp_ ms_ => ∃ (j : Nat), fr_ = [(0, .slice ax nx cx), (1, .slice ay ny cy), (5, .int .i64 ((j : Int) - 1))] ∧ hp_ = [R] ∧ j = ms_ ∧ (j ≤ nx) ∧ (x / 2 ^ (32 * j) = y / 2 ^ (32 * j))) ?_ (.refl _) ⟨nx, rfl, rfl, rfl, Nat.le_refl _, by have e := digs_eq_len (x := x) (y := y) (by omega); rwa [lx] at e⟩ ?_
    · exact .cons (by first | exact lkI rfl (by omega) | rfl) (.cons (by first | exact lkI rfl (by omega) | rfl) (.cons (by first | exact lkI rfl (by omega) | rfl) .nil))
    rintro _ _ _ ⟨j, rfl, rfl, rfl, hj, hd⟩
    have hat : 0 < j → x / 2 ^ (32 * (j - 1)) = x / 2 ^ (32 * j) * 2 ^ 32 + ((digsOf x).getD (j - 1) 0).toNat ∧ y / 2 ^ (32 * (j - 1)) = y / 2 ^ (32 * j) * 2 ^ 32 + ((digsOf y).getD (j - 1) 0).toNat := fun h0 => by
      have e1 := digs_at (x := x) (j := j - 1) (by omega)
      have e2 := digs_at (x := y) (j := j - 1) (by omega)
      rw [show j - 1 + 1 = j by omega] at e1 e2
      exact ⟨e1, e2⟩
    refine At.seq fun K10 hk_10 => ?_
    refine At.seq fun K11 hk_11 => ?_
    refine At.region ?_
    refine op_move (nxlf rfl) rfl rfl ?_
    refine op_geq (nxlf rfl) rfl rfl rfl ?_
    refine At.opsNil ?_
    refine At.norm (hk_11 ?_)
    refine At.condP rfl (fun c20 => ?_) (fun c20 => ?_)
    · refine At.skip ?_
      refine At.norm (hk_10 ?_)
      refine At.seq fun K12 hk_12 => ?_
      refine At.block ?_
      refine At.seq fun K13 hk_13 => ?_
      refine At.seq fun K14 hk_14 => ?_
      refine At.drawn [] [0,1,2,3,4,5,6,7,8] (by kernel_rfl) (by kernel_rfl) ?_
      refine op_move (nxof rfl rfl rfl (by kernel_rfl)) rfl rfl ?_
      refine op_move (nxof rfl rfl rfl (by kernel_rfl)) rfl rfl ?_
      refine op_idx1 (nxof rfl rfl rfl (by kernel_rfl)) se38 rfl rfl (by assumption) (show _ = (((j - 1 : Nat)) : Int) from by omega) (by omega) rfl ?_
      refine op_loadE (nxof rfl rfl rfl (by kernel_rfl)) sc65 rfl (by assumption) (by first | exact get8 (by omega) | exact get64 (by omega) | exact get32 (by omega)) (by first | exact mem0 | exact mem1 | exact mem2 | exact mem3 | exact mem4 | exact mem5 | exact mem6 | exact mem7 | exact mem8 | exact mem9) rfl ?_
      refine op_move (nxof rfl rfl rfl (by kernel_rfl)) rfl rfl ?_
      refine op_move (nxof rfl rfl rfl (by kernel_rfl)) rfl rfl ?_
      refine op_idx1 (nxof rfl rfl rfl (by kernel_rfl)) se38 rfl rfl (by assumption) (show _ = (((j - 1 : Nat)) : Int) from by omega) (by omega) rfl ?_
      refine op_loadE (nxof rfl rfl rfl (by kernel_rfl)) sc65 rfl (by assumption) (by first | exact get8 (by omega) | exact get64 (by omega) | exact get32 (by omega)) (by first | exact mem0 | exact mem1 | exact mem2 | exact mem3 | exact mem4 | exact mem5 | exact mem6 | exact mem7 | exact mem8 | exact mem9) rfl ?_
      refine op_lss (nxof rfl rfl rfl (by kernel_rfl)) rfl rfl rfl ?_
      refine At.oneNil ?_
      refine At.norm (hk_14 ?_)
      refine At.condP rfl (fun c31 => ?_) (fun c31 => ?_)
      · refine At.seq fun K15 hk_15 => ?_
        refine At.region ?_
        refine op_assign (nxlf rfl) rfl rfl ?_
        refine At.opsNil ?_
        refine At.norm (hk_15 ?_)
        refine At.ret (At.thenRet (At.inRet (At.thenRet (At.thenRet (At.inRet (At.thenRet (?_)))))))
        refine At.ret1 (L1 := []) rfl (.tmp rfl .nil) (.refl _) (.refl _) ?_
        have ⟨e1, e2⟩ := hat (by omega)
        have := lt_of_div (x := x) (y := y) (p := 2 ^ (32 * (j - 1))) (by rw [e1, e2, hd]; omega)
        exact ⟨by rw [cmpI, if_pos this], rfl⟩
      · refine At.skip ?_
        refine At.norm (hk_13 ?_)
        refine At.seq fun K16 hk_16 => ?_
        refine At.drawn [] [0,1,2,3,4,5,6,7,8] (by kernel_rfl) (by kernel_rfl) ?_
        refine op_move (nxof rfl rfl rfl (by kernel_rfl)) rfl rfl ?_
        refine op_move (nxof rfl rfl rfl (by kernel_rfl)) rfl rfl ?_
        refine op_idx1 (nxof rfl rfl rfl (by kernel_rfl)) se38 rfl rfl (by assumption) (show _ = (((j - 1 : Nat)) : Int) from by omega) (by omega) rfl ?_
        refine op_loadE (nxof rfl rfl rfl (by kernel_rfl)) sc65 rfl (by assumption) (by first | exact get8 (by omega) | exact get64 (by omega) | exact get32 (by omega)) (by first | exact mem0 | exact mem1 | exact mem2 | exact mem3 | exact mem4 | exact mem5 | exact mem6 | exact mem7 | exact mem8 | exact mem9) rfl ?_
        refine op_move (nxof rfl rfl rfl (by kernel_rfl)) rfl rfl ?_
        refine op_move (nxof rfl rfl rfl (by kernel_rfl)) rfl rfl ?_
        refine op_idx1 (nxof rfl rfl rfl (by kernel_rfl)) se38 rfl rfl (by assumption) (show _ = (((j - 1 : Nat)) : Int) from by omega) (by omega) rfl ?_
        refine op_loadE (nxof rfl rfl rfl (by kernel_rfl)) sc65 rfl (by assumption) (by first | exact get8 (by omega) | exact get64 (by omega) | exact get32 (by omega)) (by first | exact mem0 | exact mem1 | exact mem2 | exact mem3 | exact mem4 | exact mem5 | exact mem6 | exact mem7 | exact mem8 | exact mem9) rfl ?_
        refine op_gtr (nxof rfl rfl rfl (by kernel_rfl)) rfl rfl rfl ?_
        refine At.oneNil ?_
        refine At.norm (hk_16 ?_)
        refine At.condP rfl (fun c40 => ?_) (fun c40 => ?_)
        · refine At.seq fun K17 hk_17 => ?_
          refine At.region ?_
          refine op_assign (nxlf rfl) rfl rfl ?_
          refine At.opsNil ?_
          refine At.norm (hk_17 ?_)
          refine At.ret (At.inRet (At.thenRet (At.thenRet (At.inRet (At.thenRet (?_))))))
          refine At.ret1 (L1 := []) rfl (.tmp rfl .nil) (.refl _) (.refl _) ?_
          have ⟨e1, e2⟩ := hat (by omega)
          have := lt_of_div (x := y) (y := x) (p := 2 ^ (32 * (j - 1))) (by rw [e1, e2, hd]; omega)
          exact ⟨by rw [cmpI, if_neg (by omega), if_pos this], rfl⟩
        · refine At.skip ?_
          refine At.inNorm ?_
          refine At.norm (hk_12 ?_)
          refine At.region ?_
          refine op_move (nxlf rfl) rfl rfl ?_
          refine op_subI (nxlf rfl) rfl rfl (by omega) (by omega) rfl ?_
          refine op_assign (nxlf rfl) rfl rfl ?_
          refine At.opsNil ?_
          refine At.norm ?_
          refine At.back ?_ (.refl _) ⟨j - 1, rfl, rfl, rfl, by omega, by have ⟨e1, e2⟩ := hat (by omega); rw [e1, e2, hd]; omega⟩ ?_
          · exact .cons (by first | exact lkI rfl (by omega) | rfl) (.cons (by first | exact lkI rfl (by omega) | rfl) (.cons (by first | exact lkI rfl (by omega) | rfl) .nil))
          · omega
    · refine At.exit (At.thenExit (At.thenExit (At.inHit ?_)))
      refine At.norm (hk_8 ?_)
      refine At.seq fun K18 hk_18 => ?_
      refine At.region ?_
      refine op_assign (nxlf rfl) rfl rfl ?_
      refine At.opsNil ?_
      refine At.norm (hk_18 ?_)
      refine At.ret (?_)
      refine At.ret1 (L1 := []) rfl (.tmp rfl .nil) (.refl _) (.refl _) ?_
      obtain rfl : j = 0 := by omega
      simp only [Nat.mul_zero, Nat.pow_zero, Nat.div_one] at hd
      exact ⟨by rw [cmpI, if_neg (by omega), if_neg (by omega)], rfl⟩
theorem rW_f {N : Heaplet} {ao : Option Addr} {n cap : Nat} {l : List UInt32} (h : RSl N 1 ao n cap (u32s l)) :
    Fn Try.prog 105 #[.slice ao n cap] [] [N] (fun v L => L = [] ∧ ∃ a b c d : UInt64, v = .agg #[.int .u64 (a.toNat : Int), .int .u64 (b.toNat : Int), .int .u64 (c.toNat : Int), .int .u64 (d.toNat : Int)] ∧ v64 [a, b, c, d] = v32 l % 2 ^ 256) := by
  have hlen := h.len32
  have hcap := h.cap63
  refine Fn.enter (vs := [.slice ao n cap]) Try.func105 rfl rfl rfl ?_
  intro E R hR
  have h := h.le (hR N (by simp))
  change At _ _ E [R] _
  refine At.seq fun K1 hk_1 => ?_
  refine At.region ?_
  refine op_alloc (nxla rfl) ze24 rfl (fun N2 b2 B2 => ?_)
  change Blk N2 b2 _ [.int .u64 0, .int .u64 0, .int .u64 0, .int .u64 0] at B2
  refine At.opsNil ?_
  refine At.norm (hk_1 ?_)
  refine At.seq fun K2 hk_2 => ?_
  refine At.region ?_
  refine op_alloc (nxla rfl) ze24 rfl (fun N3 b3 B3 => ?_)
  change Blk N3 b3 _ [.int .u64 0, .int .u64 0, .int .u64 0, .int .u64 0] at B3
  change Blk N3 b3 _ (u64s [0, 0, 0, 0]) at B3
  refine At.opsNil ?_
  refine At.norm (hk_2 ?_)
  refine At.seq fun K3 hk_3 => ?_
  refine At.seq fun K4 hk_4 => ?_
  refine At.region ?_
  refine op_assign (nxlf rfl) rfl rfl ?_
  refine At.opsNil ?_
  refine At.norm (hk_4 ?_)
  refine At.block ?_
  refine At.perm sel2 ?_
  refine At.perm sel1 ?_
  refine At.perm sel2 ?_
  refine At.loop (fun fr_ hp_ ms_ => ∃ (k : Nat) (m : List UInt64) (N3 : Heaplet), fr_ = [(0, .slice ao n cap), (2, .pointer (some ⟨b2, 0, none⟩)), (3, .pointer (some ⟨b3, 0, none⟩)), (4, .int .i64 (k : Int))] ∧ hp_ = [N2, N3, R] ∧ 8 - k = ms_ ∧ (k ≤ 8) ∧ (k ≤ n) ∧ (m.length = 4) ∧ (v64 m = v32 (l.take k)) ∧ (Blk N3 b3 24 (u64s m))) ?_ (.refl _) ⟨0, [0, 0, 0, 0], N3, rfl, rfl, rfl, by omega, by omega, rfl, rfl, B3⟩ ?_
  · exact .cons (by first | exact lkI rfl (by omega) | rfl) (.cons (by first | exact lkI rfl (by omega) | rfl) (.cons (by first | exact lkI rfl (by omega) | rfl) (.cons (by first | exact lkI rfl (by omega) | rfl) .nil)))
  rintro _ _ _ ⟨k, m, N3, rfl, rfl, rfl, hk, hkn, hm, hv, B3⟩
  refine At.seq fun K5 hk_5 => ?_
  refine At.seq fun K6 hk_6 => ?_
  refine At.region ?_
  refine op_move (nxlf rfl) rfl rfl ?_
  refine op_lss (nxlf rfl) rfl rfl rfl ?_
  refine op_move (nxlf rfl) rfl rfl ?_
  refine At.partP (d := 7) rfl (fun g7 => ?_) (fun g7 => ?_)
  · refine op_move (nxgf rfl rfl rfl rfl) rfl rfl ?_
    refine op_move (nxgf rfl rfl rfl rfl) rfl rfl ?_
    refine op_lenS (nxgf rfl rfl rfl rfl) se38 rfl rfl ?_
    refine op_lss (nxgf rfl rfl rfl rfl) rfl rfl rfl ?_
    refine op_pickT (nxlf rfl) rfl rfl rfl ?_
    refine At.opsNil ?_
    refine At.norm (hk_6 ?_)
    refine At.condP rfl (fun c12 => ?_) (fun c12 => ?_)
    · refine At.skip ?_
      refine At.norm (hk_5 ?_)
      refine At.seq fun K7 hk_7 => ?_
      refine At.block ?_
      refine At.drawn [17] [0,1,2,3,4,5,6,7,8,9,10,11,12,13,14,15,16,17] (by kernel_rfl) (by kernel_rfl) ?_
      refine op_move (nxof rfl rfl rfl (by kernel_rfl)) rfl rfl ?_
      refine op_quoI (nxof rfl rfl rfl (by kernel_rfl)) rfl rfl (by omega) (by omega) (by omega) rfl ?_
      refine op_move (nxof rfl rfl rfl (by kernel_rfl)) rfl rfl ?_
      refine op_quoI (nxof rfl rfl rfl (by kernel_rfl)) rfl rfl (by omega) (by omega) (by omega) rfl ?_
      refine op_idxA (nxof rfl rfl rfl (by kernel_rfl)) ae24 rfl rfl (show _ = (((k / 2 : Nat)) : Int) from by omega) (by omega) rfl ?_
      refine op_loadB (nxof rfl rfl rfl (by kernel_rfl)) sc22 rfl B3 (by first | exact get64A (by omega) | rfl) mem1 rfl ?_
      refine op_move (nxof rfl rfl rfl (by kernel_rfl)) rfl rfl ?_
      refine op_move (nxof rfl rfl rfl (by kernel_rfl)) rfl rfl ?_
      refine op_idx1 (nxof rfl rfl rfl (by kernel_rfl)) se38 rfl rfl (by assumption) (show _ = (((k : Nat)) : Int) from by omega) (by omega) rfl ?_
      refine op_loadE (nxof rfl rfl rfl (by kernel_rfl)) sc65 rfl (by assumption) (by first | exact get8 (by omega) | exact get64 (by omega) | exact get32 (by omega)) (by first | exact mem0 | exact mem1 | exact mem2 | exact mem3 | exact mem4 | exact mem5 | exact mem6 | exact mem7 | exact mem8 | exact mem9) rfl ?_
      refine op_conv64 (nxof rfl rfl rfl (by kernel_rfl)) (und_some Try.underlying65) Try.underlying22 rfl (by first | rfl | exact (Int.toNat_of_nonneg (by omega)).symm) rfl ?_
      refine op_move (nxof rfl rfl rfl (by kernel_rfl)) rfl rfl ?_
      refine op_rem (nxof rfl rfl rfl (by kernel_rfl)) rfl rfl (by omega) (by omega) rfl ?_
      refine op_mulI (nxof rfl rfl rfl (by kernel_rfl)) rfl rfl (by omega) (by omega) rfl ?_
      refine op_shlU (nxof rfl rfl rfl (by kernel_rfl)) rfl rfl (show _ = (((32 * (k % 2) : Nat)) : Int) from by omega) rfl ?_
      refine op_orU (nxof rfl rfl rfl (by kernel_rfl)) rfl rfl rfl ?_
      refine op_idxA (nxof rfl rfl rfl (by kernel_rfl)) ae24 rfl rfl (show _ = (((k / 2 : Nat)) : Int) from by omega) (by omega) rfl ?_
      refine op_store (nxos rfl rfl rfl rfl) sz22 rfl rfl rfl rfl rfl B3 (by simp <;> omega) sel1 (fun N3 B3 => ?_)
      rw [set64A] at B3
      refine At.oneNil ?_
      refine At.inNorm ?_
      refine At.norm (hk_7 ?_)
      refine At.region ?_
      refine op_move (nxlf rfl) rfl rfl ?_
      refine op_addI (nxlf rfl) rfl rfl (by omega) (by omega) rfl ?_
      refine op_assign (nxlf rfl) rfl rfl ?_
      refine At.opsNil ?_
      refine At.norm ?_
      refine At.perm sel2 ?_
      refine At.perm sel1 ?_
      refine At.perm sel2 ?_
      refine At.back ?_ (.refl _) ⟨k + 1, _, N3, rfl, rfl, rfl, by omega, by omega, by simpa using hm, by rw [shl64_of _ (by have := (l.getD k 0).toNat_lt; omega)]; exact w_step hm hv (by omega) (by omega), B3⟩ ?_
      · exact .cons (by first | exact lkI rfl (by omega) | rfl) (.cons (by first | exact lkI rfl (by omega) | rfl) (.cons (by first | exact lkI rfl (by omega) | rfl) (.cons (by first | exact lkI rfl (by omega) | rfl) .nil)))
      · omega
    · refine At.exit (At.thenExit (At.thenExit (At.inHit ?_)))
      refine At.norm (hk_3 ?_)
      refine At.seq fun K8 hk_8 => ?_
      refine At.region ?_
      obtain ⟨a, b, c, d, rfl⟩ := four hm
      have hfin : v64 [a, b, c, d] = v32 l % 2 ^ 256 := by
        rw [hv, v32_take_mod]
        by_cases h8 : k = 8
        · rw [h8]
        · have hk' : l.length ≤ k := by omega
          have := v32_lt l
          have h1 : v32 l < 2 ^ (32 * k) := Nat.lt_of_lt_of_le this (Nat.pow_le_pow_right (by decide) (by omega))
          have h2 : v32 l < 2 ^ 256 := Nat.lt_of_lt_of_le h1 (Nat.pow_le_pow_right (by decide) (by omega))
          rw [Nat.mod_eq_of_lt h1, Nat.mod_eq_of_lt h2]
      change Blk N3 b3 _ [.int .u64 (a.toNat : Int), .int .u64 (b.toNat : Int), .int .u64 (c.toNat : Int), .int .u64 (d.toNat : Int)] at B3
      refine op_loadAggB (ds := [_, _, _, _]) (nxlf rfl) ag24 rfl B3 rfl rfl mem1 rfl ?_
      refine op_store (nxl rfl) sz24 rfl rfl rfl rfl rfl B2 (by simp) sel0 (fun N2 B2 => ?_)
      simp only [setL, List.set] at B2
      refine At.opsNil ?_
      refine At.norm (hk_8 ?_)
      refine At.ret (?_)
      refine At.sub (L' := [N2, R]) (.cons_cons _ (.cons _ (.cons_cons _ (.slnil)))) ?_
      refine At.ret1 (L1 := []) rfl (.cell rfl (res_agg (ds := [_, _, _, _]) ag24 B2 rfl rfl mem0) .nil) (.cons _ (.refl _)) (.refl _) ?_
      exact ⟨rfl, a, b, c, d, rfl, hfin⟩
  · refine op_skip rfl rfl rfl rfl rfl rfl rfl ?_
    refine op_skip rfl rfl rfl rfl rfl rfl rfl ?_
    refine op_skip rfl rfl rfl rfl rfl rfl rfl ?_
    refine op_skip rfl rfl rfl rfl rfl rfl rfl ?_
    refine op_pickF (nxlf rfl) rfl rfl rfl ?_
    refine At.opsNil ?_
    refine At.norm (hk_6 ?_)
    refine At.condF rfl ?_
    refine At.exit (At.thenExit (At.thenExit (At.inHit ?_)))
    refine At.norm (hk_3 ?_)
    refine At.seq fun K9 hk_9 => ?_
    refine At.region ?_
    obtain ⟨a, b, c, d, rfl⟩ := four hm
    have hfin : v64 [a, b, c, d] = v32 l % 2 ^ 256 := by
      rw [hv, v32_take_mod]
      by_cases h8 : k = 8
      · rw [h8]
      · have hk' : l.length ≤ k := by omega
        have := v32_lt l
        have h1 : v32 l < 2 ^ (32 * k) := Nat.lt_of_lt_of_le this (Nat.pow_le_pow_right (by decide) (by omega))
        have h2 : v32 l < 2 ^ 256 := Nat.lt_of_lt_of_le h1 (Nat.pow_le_pow_right (by decide) (by omega))
        rw [Nat.mod_eq_of_lt h1, Nat.mod_eq_of_lt h2]
    change Blk N3 b3 _ [.int .u64 (a.toNat : Int), .int .u64 (b.toNat : Int), .int .u64 (c.toNat : Int), .int .u64 (d.toNat : Int)] at B3
    refine op_loadAggB (ds := [_, _, _, _]) (nxlf rfl) ag24 rfl B3 rfl rfl mem1 rfl ?_
    refine op_store (nxl rfl) sz24 rfl rfl rfl rfl rfl B2 (by simp) sel0 (fun N2 B2 => ?_)
    simp only [setL, List.set] at B2
    refine At.opsNil ?_
    refine At.norm (hk_9 ?_)
    refine At.ret (?_)
    refine At.sub (L' := [N2, R]) (.cons_cons _ (.cons _ (.cons_cons _ (.slnil)))) ?_
    refine At.ret1 (L1 := []) rfl (.cell rfl (res_agg (ds := [_, _, _, _]) ag24 B2 rfl rfl mem0) .nil) (.cons _ (.refl _)) (.refl _) ?_
    exact ⟨rfl, a, b, c, d, rfl, hfin⟩
end Go.Proofs.Ytefljbbpaideaaa
/- Plain laws on numbers in digits of 32 bits (out of those on limbs, by a program). No condition. -/
namespace Go.Proofs.Ytefljbbpaideaaa
set_option linter.unusedVariables false
set_option linter.unusedSimpArgs false
theorem shr32_nat (x : UInt32) (s : Nat) : (shr32 x s).toNat = x.toNat / 2 ^ s := by
  rw [shr32, UInt32.toNat_ofNat', Nat.mod_eq_of_lt (Nat.lt_of_le_of_lt (Nat.div_le_self _ _) x.toNat_lt)]
theorem or_set32 {a : List UInt32} {q s w x : Nat} (hq : q < a.length) (hs : v32 a < 2 ^ (32 * q + s)) (hx : x < 2 ^ w) (hw : s + w ≤ 32) :
    v32 (a.set q (a.getD q 0 ||| UInt32.ofNat (x * 2 ^ s))) = v32 a + x * 2 ^ (32 * q + s) := by
  have hset := v32_set (a := a) (i := q) (y := a.getD q 0 ||| UInt32.ofNat (x * 2 ^ s)) hq
  have hdig := dig_v32 hq
  have hL : a[q].toNat < 2 ^ s := by
    rw [← hdig]
    refine Nat.lt_of_le_of_lt (Nat.mod_le _ _) ?_
    rw [Nat.div_lt_iff_lt_mul (Nat.pow_pos (by decide)), ← Nat.pow_add]
    rwa [Nat.add_comm s]
  have hc : x * 2 ^ s < 2 ^ 32 := by
    refine Nat.lt_of_lt_of_le (Nat.mul_lt_mul_of_pos_right hx (Nat.pow_pos (by decide))) ?_
    rw [← Nat.pow_add]
    exact Nat.pow_le_pow_right (by decide) (by omega)
  have hor : (a.getD q 0 ||| UInt32.ofNat (x * 2 ^ s)).toNat = a[q].toNat + x * 2 ^ s := by
    rw [List.getD_eq_getElem?_getD, List.getElem?_eq_getElem hq, Option.getD_some, UInt32.toNat_or, UInt32.toNat_ofNat', Nat.mod_eq_of_lt hc, Nat.or_comm, nat_join s _ _ (Nat.mul_mod_left _ _) hL, Nat.add_comm]
  rw [hor, Nat.add_mul, Nat.mul_assoc, ← Nat.pow_add, Nat.add_comm s] at hset
  omega
theorem v32_snoc (w : List UInt32) (x : UInt32) : v32 (w ++ [x]) = v32 w + 2 ^ (32 * w.length) * x.toNat := by
  rw [v32_append]
  simp only [v32, n32, val, List.map_cons, List.map_nil, Nat.mul_zero, Nat.add_zero]
theorem v32_take_all {l : List UInt32} {k : Nat} (h : l.length ≤ k) : v32 (l.take k) = v32 l := by rw [List.take_of_length_le h]
theorem v32_take_succD (l : List UInt32) (k : Nat) : v32 (l.take (k + 1)) = v32 (l.take k) + 2 ^ (32 * k) * (l.getD k 0).toNat := by
  rcases Nat.lt_or_ge k l.length with h | h
  · rw [v32_take_succ h, Nat.mul_comm]
  · rw [v32_take_all h, v32_take_all (by omega), List.getD_eq_getElem?_getD, List.getElem?_eq_none h]
    simp
theorem pow32 (k : Nat) : (2 : Nat) ^ (32 * (k + 1)) = 2 ^ (32 * k) * 4294967296 := by rw [show 32 * (k + 1) = 32 * k + 32 by omega, Nat.pow_add]
theorem v32_setD {p : List UInt32} {j : Nat} {y : UInt32} (h : j < p.length) : v32 (p.set j y) + (p.getD j 0).toNat * 2 ^ (32 * j) = v32 p + y.toNat * 2 ^ (32 * j) := by
  have := v32_set (y := y) h
  rwa [List.getD_eq_getElem?_getD, List.getElem?_eq_getElem h]
theorem digs_mono {A B : Nat} (h : A ≤ B) : (digsOf A).length ≤ (digsOf B).length := by
  rw [length_digsOf, length_digsOf]
  have := bitLen_mono h
  omega
theorem v32_split {l : List UInt32} {j : Nat} (h : j < l.length) : v32 l = v32 (l.take j) + 2 ^ (32 * j) * ((l.getD j 0).toNat + 4294967296 * v32 (l.drop (j + 1))) := by
  have e : l = l.take (j + 1) ++ l.drop (j + 1) := (List.take_append_drop _ _).symm
  conv => lhs; rw [e]
  rw [v32_append, List.length_take, Nat.min_eq_left (by omega), v32_take_succD, pow32, Nat.mul_add, Nat.mul_assoc, Nat.add_assoc]
theorem digit_at (l : List UInt32) (i : Nat) : v32 l / 2 ^ (32 * i) % 2 ^ 32 = (l.getD i 0).toNat := by
  rcases Nat.lt_or_ge i l.length with h | h
  · rw [dig_v32 h, List.getD_eq_getElem?_getD, List.getElem?_eq_getElem h]; rfl
  · rw [getD_big h, Nat.div_eq_of_lt (Nat.lt_of_lt_of_le (v32_lt l) (Nat.pow_le_pow_right (by decide) (by omega)))]; rfl
theorem bit_at32 (l : List UInt32) (i : Nat) : (shr32 (l.getD (i / 32) 0) (i % 32) &&& 1).toNat = v32 l / 2 ^ i % 2 := by
  rw [UInt32.toNat_and, shr32_nat, ← digit_at]
  have e : (2 : Nat) ^ i = 2 ^ (32 * (i / 32)) * 2 ^ (i % 32) := by rw [← Nat.pow_add]; congr 1; omega
  rw [e, ← Nat.div_div_eq_div_mul]
  generalize v32 l / 2 ^ (32 * (i / 32)) = W
  have hr : i % 32 < 32 := Nat.mod_lt _ (by decide)
  generalize i % 32 = r at *
  rw [show ((1 : UInt32).toNat) = 2 ^ 1 - 1 from rfl, Nat.and_two_pow_sub_one_eq_mod]
  rw [show (2 : Nat) ^ 32 = 2 ^ r * 2 ^ (32 - r) from by rw [← Nat.pow_add]; congr 1; omega, Nat.mod_mul_right_div_self]
  exact Nat.mod_mod_of_dvd _ (Nat.pow_dvd_pow 2 (by omega))
theorem bit_big32 {l : List UInt32} {i : Nat} (h : l.length ≤ i / 32) : v32 l / 2 ^ i % 2 = 0 := by
  rw [Nat.div_eq_of_lt (Nat.lt_of_lt_of_le (v32_lt l) (Nat.pow_le_pow_right (by decide) (by omega)))]
theorem v32_pad (a : List UInt32) (m : Nat) : v32 (a ++ List.replicate m 0) = v32 a := by rw [v32_append, v32_replicate]; simp
theorem v32_cons (x : UInt32) (l : List UInt32) : v32 (x :: l) = x.toNat + 4294967296 * v32 l := by simp [v32, n32, val]
theorem v32_top2 {u : List UInt32} {n : Nat} (hu : u.length = n + 1) (hn : 1 ≤ n) : v32 u = v32 (u.take (n - 1)) + 2 ^ (32 * (n - 1)) * ((u.getD n 0).toNat * 4294967296 + (u.getD (n - 1) 0).toNat) := by
  have h := v32_split (l := u) (j := n - 1) (by omega)
  rw [show n - 1 + 1 = n by omega] at h
  have e : v32 (u.drop n) = (u.getD n 0).toNat := by
    rw [List.drop_eq_getElem_cons (by omega), List.drop_of_length_le (by omega), List.getD_eq_getElem?_getD, List.getElem?_eq_getElem (by omega)]
    simp [v32, n32, val]
  rw [h, e]
  congr 2
  omega
theorem v32_top1 {v : List UInt32} {n : Nat} (hv : v.length = n) (hn : 1 ≤ n) : v32 v = v32 (v.take (n - 1)) + 2 ^ (32 * (n - 1)) * (v.getD (n - 1) 0).toNat := by
  have h := v32_take_succD v (n - 1)
  rw [show n - 1 + 1 = n by omega, v32_take_all (by omega)] at h
  exact h
theorem qhat_ge32 {u v : List UInt32} {n Q : Nat} (hu : u.length = n + 1) (hv : v.length = n) (hn : 1 ≤ n) (hQ : Q * v32 v ≤ v32 u) (h0 : 0 < (v.getD (n - 1) 0).toNat) :
    Q ≤ ((u.getD n 0).toNat * 4294967296 + (u.getD (n - 1) 0).toNat) / (v.getD (n - 1) 0).toNat := by
  rw [Nat.le_div_iff_mul_le h0]
  have h1 := v32_top2 hu hn
  have h2 := v32_top1 hv hn
  have h3 : v32 (u.take (n - 1)) < 2 ^ (32 * (n - 1)) := v32_take_lt _ _
  generalize (u.getD n 0).toNat * 4294967296 + (u.getD (n - 1) 0).toNat = T at *
  generalize (v.getD (n - 1) 0).toNat = y at *
  generalize 2 ^ (32 * (n - 1)) = P at *
  have h4 : P * (Q * y) ≤ Q * v32 v := by
    rw [h2, Nat.mul_add, Nat.mul_left_comm Q]; omega
  have h5 : P * (Q * y) < P * (T + 1) := by rw [Nat.mul_add P T, Nat.mul_one]; omega
  have h6 := Nat.lt_of_mul_lt_mul_left h5
  omega
theorem v32_drop_zero {G : List UInt32} {k n : Nat} (h : v32 (G.drop k) < 2 ^ (32 * n)) : v32 (G.drop (k + n)) = 0 := by
  have e : G.drop k = (G.drop k).take n ++ G.drop (k + n) := by
    conv => lhs; rw [← List.take_append_drop n (G.drop k)]
    rw [List.drop_drop]
  rcases Nat.lt_or_ge (G.drop k).length n with h1 | h1
  · rw [List.drop_of_length_le (by rw [List.length_drop] at h1; omega)]; rfl
  · rw [e, v32_append, List.length_take, Nat.min_eq_left h1] at h
    rcases Nat.eq_zero_or_pos (v32 (G.drop (k + n))) with h2 | h2
    · exact h2
    · have := Nat.mul_le_mul_left (2 ^ (32 * n)) h2
      omega
theorem v32_take_drop (G : List UInt32) {k : Nat} (h : k ≤ G.length) : v32 G = v32 (G.take k) + 2 ^ (32 * k) * v32 (G.drop k) := by
  conv => lhs; rw [← List.take_append_drop k G]
  rw [v32_append, List.length_take, Nat.min_eq_left h]
theorem win_lt32 {G : List UInt32} {j n V : Nat} (hj : j < G.length) (hV : v32 (G.drop (j + 1)) < V) (hVn : V ≤ 2 ^ (32 * n)) :
    v32 ((G.drop j).take (n + 1)) < V * 4294967296 ∧ v32 (G.drop (j + (n + 1))) = 0 ∧ v32 ((G.drop j).take (n + 1)) = v32 (G.drop j) := by
  have hz : v32 (G.drop (j + (n + 1))) = 0 := by
    rw [show j + (n + 1) = (j + 1) + n by omega]
    exact v32_drop_zero (Nat.lt_of_lt_of_le hV hVn)
  have e1 : v32 ((G.drop j).take (n + 1)) = v32 (G.drop j) := by
    have h := congrArg v32 (List.take_append_drop (n + 1) (G.drop j))
    rw [v32_append, List.drop_drop, hz, Nat.mul_zero, Nat.add_zero] at h
    exact h
  refine ⟨?_, hz, e1⟩
  have e2 : v32 (G.drop j) = (G.getD j 0).toNat + 4294967296 * v32 (G.drop (j + 1)) := by
    rw [List.drop_eq_getElem_cons hj, v32_cons, List.getD_eq_getElem?_getD, List.getElem?_eq_getElem hj]
    rfl
  have h1 := (G.getD j 0).toNat_lt
  rw [e1, e2]
  omega
theorem div_round32 {G u' qs h : List UInt32} {j n V U : Nat} {q : UInt32} (hj : j + (n + 1) ≤ G.length) (hqs : qs = List.replicate (j + 1) 0 ++ h) (hv : v32 G + v32 qs * V = U) (hw : v32 ((G.drop j).take (n + 1)) = v32 (G.drop j)) (hz : v32 (G.drop (j + (n + 1))) = 0)
    (hu : u'.length = n + 1) (hq : q.toNat = v32 ((G.drop j).take (n + 1)) / V) (hr : v32 u' = v32 ((G.drop j).take (n + 1)) % V) (hV : 0 < V) :
    v32 (G.take j ++ u' ++ G.drop (j + (n + 1))) + v32 (qs.set j q) * V = U ∧ v32 ((G.take j ++ u' ++ G.drop (j + (n + 1))).drop j) < V ∧ qs.set j q = List.replicate j 0 ++ (q :: h) := by
  have e0 : qs.set j q = List.replicate j 0 ++ (q :: h) := by
    rw [hqs, List.replicate_succ', List.append_assoc, List.cons_append, List.nil_append, set_mid (by simp)]
    simp
  have e1 : v32 (qs.set j q) = v32 qs + 2 ^ (32 * j) * q.toNat := by
    rw [e0, hqs, v32_append, v32_append, v32_replicate, v32_replicate, List.length_replicate, List.length_replicate, pow32]
    have : v32 (q :: h) = q.toNat + 4294967296 * v32 h := by simp [v32, n32, val]
    rw [this, Nat.mul_add, Nat.mul_assoc]
    omega
  have e2 : v32 (G.take j ++ u' ++ G.drop (j + (n + 1))) = v32 (G.take j) + 2 ^ (32 * j) * v32 u' := by
    rw [v32_append, hz, v32_append, List.length_take, Nat.min_eq_left (by omega)]; simp
  have e3 := v32_take_drop G (k := j) (by omega)
  rw [← hw] at e3
  have e4 := Nat.div_add_mod (v32 ((G.drop j).take (n + 1))) V
  rw [← hr, ← hq] at e4
  refine ⟨?_, ?_, e0⟩
  · rw [e2, e1, Nat.add_mul, ← hv, e3, ← e4, Nat.mul_add (2 ^ (32 * j)), Nat.mul_comm V, Nat.mul_assoc]
    omega
  · rw [List.append_assoc, List.drop_append_of_le_length (by rw [List.length_take]; omega), List.drop_of_length_le (by rw [List.length_take]; omega), List.nil_append, v32_append, hz, hr]
    simp only [Nat.mul_zero, Nat.add_zero]
    exact Nat.mod_lt _ hV
theorem digs_top {V : Nat} (h : 0 < V) : 1 ≤ (digsOf V).length ∧ 0 < ((digsOf V).getD ((digsOf V).length - 1) 0).toNat := by
  have hl := length_digsOf V
  have hb := bitLen_pos h
  have h1 : 1 ≤ (digsOf V).length := by omega
  refine ⟨h1, ?_⟩
  rcases Nat.eq_zero_or_pos ((digsOf V).getD ((digsOf V).length - 1) 0).toNat with h0 | h0
  · exfalso
    have e := v32_top1 (v := digsOf V) rfl h1
    rw [h0, Nat.mul_zero, Nat.add_zero, v32_digsOf] at e
    have hlt := v32_take_lt (digsOf V) ((digsOf V).length - 1)
    rw [← e] at hlt
    have := digLen_le.2 hlt
    omega
  · exact h0
end Go.Proofs.Ytefljbbpaideaaa
/- Plain laws on numbers in digits of 32 bits that are reckoned in words of 64 bits. No condition. -/
namespace Go.Proofs.Ytefljbbpaideaaa
set_option linter.unusedVariables false
set_option linter.unusedSimpArgs false
open Go Go.RowKit
theorem getD_right {α : Type} {p r : List α} {i k : Nat} {z : α} (h : p.length = i) : (p ++ r).getD (i + k) z = r.getD k z := by
  subst h
  rw [List.getD_eq_getElem?_getD, List.getD_eq_getElem?_getD, List.getElem?_append_right (by omega), Nat.add_sub_cancel_left]
/-- The lower half of a limb. -/
def lo32 (s : UInt64) : UInt32 := UInt32.ofNat s.toNat
theorem lo32_nat (s : UInt64) : (lo32 s).toNat = s.toNat % 4294967296 := by rw [lo32, UInt32.toNat_ofNat']
theorem lo_hi (s : UInt64) : (lo32 s).toNat + (shr64 s 32).toNat * 4294967296 = s.toNat := by
  rw [lo32_nat, shr64_nat]
  have := Nat.mod_add_div s.toNat 4294967296
  rw [show (2 : Nat) ^ 32 = 4294967296 from rfl, Nat.mul_comm]
  exact this
theorem of32 (x : UInt32) : (UInt64.ofNat x.toNat).toNat = x.toNat := by
  rw [UInt64.toNat_ofNat']
  exact Nat.mod_eq_of_lt (Nat.lt_trans x.toNat_lt (by decide))
theorem add64n {a b : UInt64} (h : a.toNat + b.toNat < 18446744073709551616) : (a + b).toNat = a.toNat + b.toNat := by rw [UInt64.toNat_add]; exact Nat.mod_eq_of_lt h
theorem sub64n {a b : UInt64} (h : b.toNat ≤ a.toNat) : (a - b).toNat = a.toNat - b.toNat := UInt64.toNat_sub_of_le _ _ (by rw [UInt64.le_iff_toNat_le]; exact h)
theorem mul64n {a b : UInt64} (ha : a.toNat ≤ 4294967295) (hb : b.toNat ≤ 4294967295) : (a * b).toNat = a.toNat * b.toNat ∧ a.toNat * b.toNat ≤ 18446744065119617025 := by
  have h := Nat.mul_le_mul ha hb
  exact ⟨by rw [UInt64.toNat_mul]; exact Nat.mod_eq_of_lt (Nat.lt_of_le_of_lt h (by decide)), h⟩
theorem dlt (l : List UInt32) (k : Nat) : (l.getD k 0).toNat ≤ 4294967295 := by have := (l.getD k 0).toNat_lt; omega
theorem add_round32 {w a b : List UInt32} {k : Nat} {c s : UInt64} (hw : w.length = k) (hv : v32 w + c.toNat * 2 ^ (32 * k) = v32 (a.take k) + v32 (b.take k)) (hs : s.toNat = c.toNat + (a.getD k 0).toNat + (b.getD k 0).toNat) :
    v32 (w ++ [lo32 s]) + (shr64 s 32).toNat * 2 ^ (32 * (k + 1)) = v32 (a.take (k + 1)) + v32 (b.take (k + 1)) := by
  have h := lo_hi s
  rw [hs] at h
  rw [v32_snoc, hw, v32_take_succD, v32_take_succD, pow32]
  have h2 := congrArg (2 ^ (32 * k) * ·) h
  simp only [Nat.mul_add] at h2
  have e : (shr64 s 32).toNat * (2 ^ (32 * k) * 4294967296) = 2 ^ (32 * k) * ((shr64 s 32).toNat * 4294967296) := by rw [Nat.mul_left_comm]
  rw [e]
  rw [Nat.mul_comm c.toNat] at hv
  omega
theorem sub_round32 {w a b : List UInt32} {k c c' y : Nat} {d : UInt32} (hw : w.length = k) (hv : v32 w + v32 (b.take k) = v32 (a.take k) + c * 2 ^ (32 * k)) (hd : d.toNat + y + c = (a.getD k 0).toNat + c' * 4294967296) (hy : y = (b.getD k 0).toNat) :
    v32 (w ++ [d]) + v32 (b.take (k + 1)) = v32 (a.take (k + 1)) + c' * 2 ^ (32 * (k + 1)) := by
  subst hy
  rw [v32_snoc, hw, v32_take_succD, v32_take_succD, pow32]
  have h2 := congrArg (2 ^ (32 * k) * ·) hd
  simp only [Nat.mul_add] at h2
  have e : c' * (2 ^ (32 * k) * 4294967296) = 2 ^ (32 * k) * (c' * 4294967296) := by rw [Nat.mul_left_comm]
  rw [e]
  rw [Nat.mul_comm c] at hv
  omega
theorem mul_round32 {p b : List UInt32} {i k V x : Nat} {c s : UInt64} (hj : i + k < p.length) (hv : v32 p + c.toNat * 2 ^ (32 * (i + k)) = V + 2 ^ (32 * i) * (x * v32 (b.take k))) (hs : s.toNat = x * (b.getD k 0).toNat + (p.getD (i + k) 0).toNat + c.toNat) :
    v32 (p.set (i + k) (lo32 s)) + (shr64 s 32).toNat * 2 ^ (32 * (i + (k + 1))) = V + 2 ^ (32 * i) * (x * v32 (b.take (k + 1))) := by
  have h := lo_hi s
  rw [hs] at h
  have h1 := v32_setD (y := lo32 s) hj
  have eE : 2 ^ (32 * i) * 2 ^ (32 * k) = 2 ^ (32 * (i + k)) := by rw [← Nat.pow_add, Nat.mul_add]
  rw [v32_take_succD, ← Nat.add_assoc, pow32]
  have e1 : 2 ^ (32 * i) * (x * (v32 (b.take k) + 2 ^ (32 * k) * (b.getD k 0).toNat)) = 2 ^ (32 * i) * (x * v32 (b.take k)) + 2 ^ (32 * (i + k)) * (x * (b.getD k 0).toNat) := by
    rw [← eE, Nat.mul_add, Nat.mul_add, Nat.mul_left_comm x, ← Nat.mul_assoc _ (2 ^ (32 * k))]
  rw [e1]
  generalize 2 ^ (32 * (i + k)) = T at *
  have h2 := congrArg (T * ·) h
  simp only [Nat.mul_add] at h2
  have e2 : (shr64 s 32).toNat * (T * 4294967296) = T * ((shr64 s 32).toNat * 4294967296) := by rw [Nat.mul_left_comm]
  rw [e2]
  rw [Nat.mul_comm c.toNat] at hv
  rw [Nat.mul_comm (p.getD (i + k) 0).toNat, Nat.mul_comm (lo32 s).toNat] at h1
  omega
theorem mul_outer32 {p a b : List UInt32} {i : Nat} {c : UInt64} (hp : p.length = i + b.length) (hc : c.toNat < 4294967296) (hv : v32 p + c.toNat * 2 ^ (32 * (i + b.length)) = v32 (a.take i) * v32 b + 2 ^ (32 * i) * ((a.getD i 0).toNat * v32 (b.take b.length))) :
    v32 (p ++ [lo32 c]) = v32 (a.take (i + 1)) * v32 b := by
  rw [v32_snoc, hp, v32_take_succD, Nat.add_mul, Nat.mul_assoc, Nat.mul_comm _ (lo32 c).toNat, lo32_nat, Nat.mod_eq_of_lt hc, hv, List.take_length]
theorem carry_lt {s : UInt64} : (shr64 s 32).toNat < 4294967296 := by
  rw [shr64_nat]; have := s.toNat_lt; omega
/-- Two digits side by side, shifted to the right. -/
theorem shr_digit {l : List UInt32} {j r : Nat} (hr : r < 32) {w : UInt64} (hw : w.toNat = (l.getD j 0).toNat + (l.getD (j + 1) 0).toNat * 4294967296) : UInt32.ofNat (v32 l / 2 ^ (32 * j + r)) = lo32 (shr64 w r) := by
  apply UInt32.toNat_inj.1
  rw [UInt32.toNat_ofNat', lo32_nat, shr64_nat, hw, ← digit_at, ← digit_at, Nat.pow_add, ← Nat.div_div_eq_div_mul]
  have e : v32 l / 2 ^ (32 * (j + 1)) = v32 l / 2 ^ (32 * j) / 4294967296 := by rw [pow32, Nat.div_div_eq_div_mul]
  rw [e]
  generalize v32 l / 2 ^ (32 * j) = W
  have e2 : W % 2 ^ 32 + W / 4294967296 % 2 ^ 32 * 4294967296 = W % 18446744073709551616 := by
    have := Nat.mod_mul (x := W) (a := 4294967296) (b := 4294967296)
    rw [Nat.mul_comm _ (W / 4294967296 % 4294967296)] at this
    exact this.symm
  rw [e2, show (18446744073709551616 : Nat) = 2 ^ r * 2 ^ (64 - r) from by rw [← Nat.pow_add, show r + (64 - r) = 64 by omega], Nat.mod_mul_right_div_self, show (4294967296 : Nat) = 2 ^ 32 from rfl, Nat.mod_mod_of_dvd _ (Nat.pow_dvd_pow 2 (by omega))]
theorem digsN_succ (k N : Nat) : digsN (k + 1) N = digsN k N ++ [UInt32.ofNat (N / 2 ^ (32 * k))] := by
  simp [digsN, List.range_succ]
theorem trim32d {N : Heaplet} {ao : Option Addr} {n cap : Nat} {l : List UInt32} (h : RSl N 1 ao n cap (u32s l)) (ht : l.take (digsOf (v32 l)).length = digsOf (v32 l)) (hle : (digsOf (v32 l)).length ≤ n) :
    RSl N 1 ao (digsOf (v32 l)).length cap (u32s (digsOf (v32 l))) := by
  have := h.take (hi := (digsOf (v32 l)).length) (m := cap) (Nat.le_trans hle h.2.1) (Nat.le_refl _) hle
  rwa [Nat.mul_one, u32s_take, ht] at this
/-- Digits in new memory: a number without zeros at its upper end. -/
def DigsP (V : Nat) (v : Value) (L : List Heaplet) : Prop :=
  ∃ M a c, v = .slice a (digsOf V).length c ∧ L = [M] ∧ RSl M 1 a (digsOf V).length c (u32s (digsOf V))
theorem split_mod {x P Q B : Nat} (h : B = P * Q) : x * Q % B = x % P * Q := by subst h; exact Nat.mul_mod_mul_right ..
theorem split_div {x P Q B : Nat} (h : B = P * Q) (hQ : 0 < Q) : x * Q / B = x / P := by subst h; exact Nat.mul_div_mul_right _ _ hQ
theorem shl_step {c : List UInt32} {j r x : Nat} (hj : j + 1 < c.length) (hr : r < 32) (hx : x < 4294967296) (hc : v32 c < 2 ^ (32 * j + r)) {w : UInt64} (hw : w.toNat = x * 2 ^ r) :
    v32 ((c.set j (c.getD j 0 ||| lo32 w)).set (j + 1) ((c.set j (c.getD j 0 ||| lo32 w)).getD (j + 1) 0 ||| lo32 (shr64 w 32))) = v32 c + x * 2 ^ (32 * j + r) := by
  have e32 : (4294967296 : Nat) = 2 ^ (32 - r) * 2 ^ r := by rw [← Nat.pow_add, show 32 - r + r = 32 by omega]
  have hp : 0 < 2 ^ (32 - r) := Nat.pow_pos (by decide)
  have hlt : x % 2 ^ (32 - r) * 2 ^ r < 2 ^ 32 := by
    have h := Nat.mul_lt_mul_of_pos_right (Nat.mod_lt x hp) (show 0 < 2 ^ r from Nat.pow_pos (by decide))
    rwa [← e32] at h
  have hlo : lo32 w = UInt32.ofNat (x % 2 ^ (32 - r) * 2 ^ r) := by
    apply UInt32.toNat_inj.1
    rw [lo32_nat, hw, UInt32.toNat_ofNat', Nat.mod_eq_of_lt hlt]
    exact split_mod e32
  have hhi : lo32 (shr64 w 32) = UInt32.ofNat (x / 2 ^ (32 - r) * 2 ^ 0) := by
    have e : w.toNat / 4294967296 = x / 2 ^ (32 - r) := by
      rw [hw]
      exact split_div e32 (Nat.pow_pos (by decide))
    rw [lo32, shr64_nat, show (2 : Nat) ^ 32 = 4294967296 from rfl, e, Nat.pow_zero, Nat.mul_one]
  have h1 := or_set32 (a := c) (q := j) (s := r) (w := 32 - r) (x := x % 2 ^ (32 - r)) (by omega) hc (Nat.mod_lt _ hp) (by omega)
  rw [← hlo] at h1
  have hsum : v32 c + x % 2 ^ (32 - r) * 2 ^ (32 * j + r) < 2 ^ (32 * (j + 1) + 0) := by
    have h2 : x % 2 ^ (32 - r) + 1 ≤ 2 ^ (32 - r) := Nat.mod_lt _ hp
    have h3 := Nat.mul_le_mul_right (2 ^ (32 * j + r)) h2
    rw [Nat.add_mul, Nat.one_mul, ← Nat.pow_add, show 32 - r + (32 * j + r) = 32 * (j + 1) + 0 by omega] at h3
    omega
  have hx2 : x / 2 ^ (32 - r) < 2 ^ r := by
    rw [Nat.div_lt_iff_lt_mul hp, Nat.mul_comm, ← e32]; exact hx
  have h4 := or_set32 (a := c.set j (c.getD j 0 ||| lo32 w)) (q := j + 1) (s := 0) (w := r) (x := x / 2 ^ (32 - r)) (by rw [List.length_set]; omega) (by rw [h1]; exact hsum) hx2 (by omega)
  rw [← hhi] at h4
  have e5 : (2 : Nat) ^ (32 * (j + 1) + 0) = 2 ^ (32 - r) * 2 ^ (32 * j + r) := by rw [← Nat.pow_add, show 32 * (j + 1) + 0 = 32 - r + (32 * j + r) by omega]
  have e6 : x % 2 ^ (32 - r) * 2 ^ (32 * j + r) + x / 2 ^ (32 - r) * 2 ^ (32 * (j + 1) + 0) = x * 2 ^ (32 * j + r) := by
    rw [e5, ← Nat.mul_assoc, ← Nat.add_mul, Nat.mul_comm (x / 2 ^ (32 - r)), Nat.mod_add_div]
  rw [h4, h1, Nat.add_assoc, e6]
end Go.Proofs.Ytefljbbpaideaaa
/- The reference's Add, Sub, Mul: numbers in digits of 32 bits. Condition: numbers of at most 2^40 digits; for Sub: the second is no greater. -/
namespace Go.Proofs.Ytefljbbpaideaaa
set_option linter.unusedVariables false
set_option linter.unusedSimpArgs false
open Go Go.RowKit
theorem rAdd_f {N M : Heaplet} {ao bo : Option Addr} {n m ca cb : Nat} {a b : List UInt32} (ha : RSl N 1 ao n ca (u32s a)) (hb : RSl M 1 bo m cb (u32s b)) (hn : n ≤ 1099511627776) (hm : m ≤ 1099511627776) :
    Fn Try.prog 96 #[.slice ao n ca, .slice bo m cb] [] [N, M] (DigsP (v32 a + v32 b)) := by
  have hca := ha.cap63
  have hcb := hb.cap63
  have hal := ha.len32
  have hbl := hb.len32
  refine Fn.enter (vs := [.slice ao n ca, .slice bo m cb]) Try.func96 rfl rfl rfl ?_
  intro E R hR
  have ha := ha.le (hR N (by simp))
  have hb := hb.le (hR M (by simp))
  change At _ _ E [R] _
  refine At.seq fun K1 hk_1 => ?_
  refine At.region ?_
  refine op_assign (nxlf rfl) rfl rfl ?_
  refine At.opsNil ?_
  refine At.norm (hk_1 ?_)
  refine At.seq fun K2 hk_2 => ?_
  refine At.region ?_
  refine op_move (nxlf rfl) rfl rfl ?_
  refine op_lenS (nxlf rfl) se38 rfl rfl ?_
  refine op_assign (nxlf rfl) rfl rfl ?_
  refine At.opsNil ?_
  refine At.norm (hk_2 ?_)
  refine At.seq fun K3 hk_3 => ?_
  refine At.meet (fun fr_ hp_ => ∃ (K : Nat), fr_ = [(0, .slice ao n ca), (1, .slice bo m cb), (5, .int .i64 (K : Int))] ∧ hp_ = [R] ∧ (n ≤ K) ∧ (m ≤ K) ∧ (K ≤ 1099511627776)) ?_ (fun K3_ jk_3 => ?_)
  rotate_left
  · skip
    refine At.seq fun K4 hk_4 => ?_
    refine At.region ?_
    refine op_move (nxlf rfl) rfl rfl ?_
    refine op_lenS (nxlf rfl) se38 rfl rfl ?_
    refine op_move (nxlf rfl) rfl rfl ?_
    refine op_gtr (nxlf rfl) rfl rfl rfl ?_
    refine At.opsNil ?_
    refine At.norm (hk_4 ?_)
    refine At.condP rfl (fun c15 => ?_) (fun c15 => ?_)
    · refine At.region ?_
      refine op_move (nxlf rfl) rfl rfl ?_
      refine op_lenS (nxlf rfl) se38 rfl rfl ?_
      refine op_assign (nxlf rfl) rfl rfl ?_
      refine At.opsNil ?_
      refine At.norm (jk_3 ?_ (.refl _) ⟨m, rfl, rfl, by omega, by omega, hm⟩)
      exact .cons (by first | exact lkI rfl (by omega) | rfl) (.cons (by first | exact lkI rfl (by omega) | rfl) (.cons (by first | exact lkI rfl (by omega) | rfl) .nil))
    · refine At.skip ?_
      refine At.norm (jk_3 ?_ (.refl _) ⟨n, rfl, rfl, by omega, by omega, hn⟩)
      exact .cons (by first | exact lkI rfl (by omega) | rfl) (.cons (by first | exact lkI rfl (by omega) | rfl) (.cons (by first | exact lkI rfl (by omega) | rfl) .nil))
  rintro _ _ ⟨K, rfl, rfl, hK1, hK2, hK3⟩
  refine hk_3 ?_
  refine At.seq fun K5 hk_5 => ?_
  refine At.region ?_
  refine op_move (nxlf rfl) rfl rfl ?_
  refine op_addI (nxlf rfl) rfl rfl (by omega) (by omega) rfl ?_
  refine op_make (nxla rfl) Try.underlying38 te65 rfl rfl (show _ = (((K + 1 : Nat)) : Int) from by omega) (show _ = (((K + 1 : Nat)) : Int) from by omega) (by omega) (by unfold maxLen; omega) rfl (fun N20 a20 r20 => ?_)
  rw [made_one _ _ rfl, zero_u32s] at r20
  have s20 := r20.rsl
  refine op_assign (nxlf rfl) rfl rfl ?_
  refine At.opsNil ?_
  refine At.norm (hk_5 ?_)
  refine At.seq fun K6 hk_6 => ?_
  refine At.region ?_
  refine op_assign (nxlf rfl) rfl rfl ?_
  refine At.opsNil ?_
  refine At.norm (hk_6 ?_)
  refine At.seq fun K7 hk_7 => ?_
  refine At.seq fun K8 hk_8 => ?_
  refine At.region ?_
  refine op_assign (nxlf rfl) rfl rfl ?_
  refine At.opsNil ?_
  refine At.norm (hk_8 ?_)
  refine At.block ?_
  refine At.loop (fun fr_ hp_ ms_ => ∃ (k : Nat) (c : UInt64) (w : List UInt32) (N20 : Heaplet), fr_ = [(0, .slice ao n ca), (1, .slice bo m cb), (5, .int .i64 (K : Int)), (6, .slice a20 (K + 1) (K + 1)), (7, .int .u64 (c.toNat : Int)), (8, .int .i64 (k : Int))] ∧ hp_ = [N20, R] ∧ K + 1 - k = ms_ ∧ (k ≤ K + 1) ∧ (w.length = k) ∧ (c.toNat ≤ 1) ∧ (v32 w + c.toNat * 2 ^ (32 * k) = v32 (a.take k) + v32 (b.take k)) ∧ (Row N20 65 1 a20 (K + 1) (K + 1) (u32s (w ++ List.replicate (K + 1 - k) 0)))) ?_ (.refl _) ⟨0, 0, [], N20, rfl, rfl, rfl, by omega, rfl, by decide, by simp; rfl, r20⟩ ?_
  · exact .cons (by first | exact lkI rfl (by omega) | rfl) (.cons (by first | exact lkI rfl (by omega) | rfl) (.cons (by first | exact lkI rfl (by omega) | rfl) (.cons (by first | exact lkI rfl (by omega) | rfl) (.cons (by first | exact lkI rfl (by omega) | rfl) (.cons (by first | exact lkI rfl (by omega) | rfl) .nil)))))
  rintro _ _ _ ⟨k, c, w, N20, rfl, rfl, rfl, hk, hw, hc, hv, r20⟩
  have s20 := r20.rsl
  have hak := dlt a k
  have hbk := dlt b k
  refine At.seq fun K9 hk_9 => ?_
  refine At.seq fun K10 hk_10 => ?_
  refine At.region ?_
  refine op_move (nxlf rfl) rfl rfl ?_
  refine op_move (nxlf rfl) rfl rfl ?_
  refine op_addI (nxlf rfl) rfl rfl (by omega) (by omega) rfl ?_
  refine op_lss (nxlf rfl) rfl rfl rfl ?_
  refine At.opsNil ?_
  refine At.norm (hk_10 ?_)
  refine At.condP rfl (fun c24 => ?_) (fun c24 => ?_)
  · refine At.skip ?_
    refine At.norm (hk_9 ?_)
    refine At.seq fun K11 hk_11 => ?_
    refine At.block ?_
    refine At.seq fun K12 hk_12 => ?_
    refine At.region ?_
    refine op_move (nxlf rfl) rfl rfl ?_
    refine op_assign (nxlf rfl) rfl rfl ?_
    refine At.opsNil ?_
    refine At.norm (hk_12 ?_)
    refine At.seq fun K13 hk_13 => ?_
    refine At.meet (fun fr_ hp_ => ∃ (s1 : UInt64), fr_ = [(0, .slice ao n ca), (1, .slice bo m cb), (5, .int .i64 (K : Int)), (6, .slice a20 (K + 1) (K + 1)), (8, .int .i64 (k : Int)), (9, .int .u64 (s1.toNat : Int))] ∧ hp_ = [N20, R] ∧ (s1.toNat = c.toNat + (a.getD k 0).toNat)) ?_ (fun K13_ jk_13 => ?_)
    rotate_left
    · skip
      refine At.seq fun K14 hk_14 => ?_
      refine At.region ?_
      refine op_move (nxlf rfl) rfl rfl ?_
      refine op_move (nxlf rfl) rfl rfl ?_
      refine op_lenS (nxlf rfl) se38 rfl rfl ?_
      refine op_lss (nxlf rfl) rfl rfl rfl ?_
      refine At.opsNil ?_
      refine At.norm (hk_14 ?_)
      refine At.condP rfl (fun c31 => ?_) (fun c31 => ?_)
      · refine At.region ?_
        refine op_move (nxlf rfl) rfl rfl ?_
        refine op_move (nxlf rfl) rfl rfl ?_
        refine op_move (nxlf rfl) rfl rfl ?_
        refine op_idx1 (nxlf rfl) se38 rfl rfl ha (show _ = (((k : Nat)) : Int) from by omega) (by omega) rfl ?_
        refine op_loadE (nxlf rfl) sc65 rfl ha (by first | exact get8 (by omega) | exact get64 (by omega) | exact get32 (by omega)) (by first | exact mem0 | exact mem1 | exact mem2 | exact mem3 | exact mem4 | exact mem5 | exact mem6 | exact mem7 | exact mem8 | exact mem9) rfl ?_
        refine op_conv64 (nxlf rfl) (und_some Try.underlying65) Try.underlying22 rfl (by first | rfl | exact (Int.toNat_of_nonneg (by omega)).symm) rfl ?_
        refine op_addU (nxlf rfl) rfl rfl rfl ?_
        refine op_assign (nxlf rfl) rfl rfl ?_
        refine At.opsNil ?_
        refine At.norm (jk_13 ?_ (.refl _) ⟨c + UInt64.ofNat (a.getD k 0).toNat, rfl, rfl, by rw [add64n (by rw [of32]; omega), of32]⟩)
        exact .cons (by first | exact lkI rfl (by omega) | rfl) (.cons (by first | exact lkI rfl (by omega) | rfl) (.cons (by first | exact lkI rfl (by omega) | rfl) (.cons (by first | exact lkI rfl (by omega) | rfl) (.cons (by first | exact lkI rfl (by omega) | rfl) (.cons (by first | exact lkI rfl (by omega) | rfl) .nil)))))
      · have hz : (a.getD k 0).toNat = 0 := by rw [getD_big (by omega)]; rfl
        refine At.skip ?_
        refine At.norm (jk_13 ?_ (.refl _) ⟨c, rfl, rfl, by omega⟩)
        exact .cons (by first | exact lkI rfl (by omega) | rfl) (.cons (by first | exact lkI rfl (by omega) | rfl) (.cons (by first | exact lkI rfl (by omega) | rfl) (.cons (by first | exact lkI rfl (by omega) | rfl) (.cons (by first | exact lkI rfl (by omega) | rfl) (.cons (by first | exact lkI rfl (by omega) | rfl) .nil)))))
    rintro _ _ ⟨s1, rfl, rfl, hs1⟩
    refine hk_13 ?_
    refine At.seq fun K15 hk_15 => ?_
    refine At.meet (fun fr_ hp_ => ∃ (s2 : UInt64), fr_ = [(0, .slice ao n ca), (1, .slice bo m cb), (5, .int .i64 (K : Int)), (6, .slice a20 (K + 1) (K + 1)), (8, .int .i64 (k : Int)), (9, .int .u64 (s2.toNat : Int))] ∧ hp_ = [N20, R] ∧ (s2.toNat = s1.toNat + (b.getD k 0).toNat)) ?_ (fun K15_ jk_15 => ?_)
    rotate_left
    · skip
      refine At.seq fun K16 hk_16 => ?_
      refine At.region ?_
      refine op_move (nxlf rfl) rfl rfl ?_
      refine op_move (nxlf rfl) rfl rfl ?_
      refine op_lenS (nxlf rfl) se38 rfl rfl ?_
      refine op_lss (nxlf rfl) rfl rfl rfl ?_
      refine At.opsNil ?_
      refine At.norm (hk_16 ?_)
      refine At.condP rfl (fun c42 => ?_) (fun c42 => ?_)
      · refine At.region ?_
        refine op_move (nxlf rfl) rfl rfl ?_
        refine op_move (nxlf rfl) rfl rfl ?_
        refine op_move (nxlf rfl) rfl rfl ?_
        refine op_idx1 (nxlf rfl) se38 rfl rfl hb (show _ = (((k : Nat)) : Int) from by omega) (by omega) rfl ?_
        refine op_loadE (nxlf rfl) sc65 rfl hb (by first | exact get8 (by omega) | exact get64 (by omega) | exact get32 (by omega)) (by first | exact mem0 | exact mem1 | exact mem2 | exact mem3 | exact mem4 | exact mem5 | exact mem6 | exact mem7 | exact mem8 | exact mem9) rfl ?_
        refine op_conv64 (nxlf rfl) (und_some Try.underlying65) Try.underlying22 rfl (by first | rfl | exact (Int.toNat_of_nonneg (by omega)).symm) rfl ?_
        refine op_addU (nxlf rfl) rfl rfl rfl ?_
        refine op_assign (nxlf rfl) rfl rfl ?_
        refine At.opsNil ?_
        refine At.norm (jk_15 ?_ (.refl _) ⟨s1 + UInt64.ofNat (b.getD k 0).toNat, rfl, rfl, by rw [add64n (by rw [of32]; omega), of32]⟩)
        exact .cons (by first | exact lkI rfl (by omega) | rfl) (.cons (by first | exact lkI rfl (by omega) | rfl) (.cons (by first | exact lkI rfl (by omega) | rfl) (.cons (by first | exact lkI rfl (by omega) | rfl) (.cons (by first | exact lkI rfl (by omega) | rfl) (.cons (by first | exact lkI rfl (by omega) | rfl) .nil)))))
      · have hz : (b.getD k 0).toNat = 0 := by rw [getD_big (by omega)]; rfl
        refine At.skip ?_
        refine At.norm (jk_15 ?_ (.refl _) ⟨s1, rfl, rfl, by omega⟩)
        exact .cons (by first | exact lkI rfl (by omega) | rfl) (.cons (by first | exact lkI rfl (by omega) | rfl) (.cons (by first | exact lkI rfl (by omega) | rfl) (.cons (by first | exact lkI rfl (by omega) | rfl) (.cons (by first | exact lkI rfl (by omega) | rfl) (.cons (by first | exact lkI rfl (by omega) | rfl) .nil)))))
    rintro _ _ ⟨s2, rfl, rfl, hs2⟩
    refine hk_15 ?_
    refine At.seq fun K17 hk_17 => ?_
    refine At.region ?_
    refine op_move (nxlf rfl) rfl rfl ?_
    refine op_move (nxlf rfl) rfl rfl ?_
    refine op_move (nxlf rfl) rfl rfl ?_
    refine op_conv32 (nxlf rfl) (und_some Try.underlying22) Try.underlying65 rfl (by first | rfl | exact (Int.toNat_of_nonneg (by omega)).symm) rfl ?_
    refine op_idx1 (nxlf rfl) se38 rfl rfl s20 (show _ = (((k : Nat)) : Int) from by omega) (by omega) rfl ?_
    refine op_storeE (nxl rfl) sz65 rfl rfl rfl rfl rfl r20 (by simp <;> omega) (by simp) sel0 (fun N20 r20 => ?_)
    simp only [setL] at r20
    rw [set_u32s, set_fill hw (by omega)] at r20
    change Row N20 _ 1 a20 (K + 1) (K + 1) (u32s (w ++ [lo32 s2] ++ List.replicate (K + 1 - (k + 1)) 0)) at r20
    have s20 := r20.rsl
    refine At.opsNil ?_
    refine At.norm (hk_17 ?_)
    refine At.region ?_
    refine op_move (nxlf rfl) rfl rfl ?_
    refine op_shrU (nxlf rfl) rfl rfl (show _ = ((32 : Nat) : Int) from rfl) rfl ?_
    refine op_assign (nxlf rfl) rfl rfl ?_
    refine At.opsNil ?_
    refine At.inNorm ?_
    refine At.norm (hk_11 ?_)
    refine At.region ?_
    refine op_move (nxlf rfl) rfl rfl ?_
    refine op_addI (nxlf rfl) rfl rfl (by omega) (by omega) rfl ?_
    refine op_assign (nxlf rfl) rfl rfl ?_
    refine At.opsNil ?_
    refine At.norm ?_
    refine At.back ?_ (.refl _) ⟨k + 1, shr64 s2 32, w ++ [lo32 s2], N20, rfl, rfl, rfl, by omega, by simp; omega, by rw [shr64_nat]; omega, add_round32 hw hv (by omega), r20⟩ ?_
    · exact .cons (by first | exact lkI rfl (by omega) | rfl) (.cons (by first | exact lkI rfl (by omega) | rfl) (.cons (by first | exact lkI rfl (by omega) | rfl) (.cons (by first | exact lkI rfl (by omega) | rfl) (.cons (by first | exact lkI rfl (by omega) | rfl) (.cons (by first | exact lkI rfl (by omega) | rfl) .nil)))))
    · omega
  · refine At.exit (At.thenExit (At.thenExit (At.inHit ?_)))
    refine At.norm (hk_7 ?_)
    refine At.seq fun K18 hk_18 => ?_
    refine At.region ?_
    refine op_move (nxlf rfl) rfl rfl ?_
    have s20 := r20.rsl
    have hkk : k = K + 1 := by omega
    rw [hkk, Nat.sub_self, List.replicate_zero, List.append_nil] at s20
    have hfin : v32 w = v32 a + v32 b := by
      rw [hkk, v32_take_all (by omega), v32_take_all (by omega)] at hv
      have h1 := v32_lt a
      have h2 := v32_lt b
      have h3 : (2 : Nat) ^ (32 * a.length) ≤ 2 ^ (32 * K) := Nat.pow_le_pow_right (by decide) (by omega)
      have h4 : (2 : Nat) ^ (32 * b.length) ≤ 2 ^ (32 * K) := Nat.pow_le_pow_right (by decide) (by omega)
      have h5 := pow32 K
      have hc2 : c.toNat = 0 ∨ c.toNat = 1 := by omega
      rcases hc2 with hc2 | hc2
      · rw [hc2, Nat.zero_mul] at hv; omega
      · rw [hc2, Nat.one_mul] at hv; omega
    refine op_callA (nxla rfl) (.cons rfl .nil) (trim32_f s20) Try.func118 rfl rfl (by simp) rfl ?_
    rintro v58 L58 ⟨rfl, rfl, t58, l58⟩
    change At _ _ _ [N20, R] _
    refine op_assign (nxlf rfl) rfl rfl ?_
    refine At.opsNil ?_
    refine At.norm (hk_18 ?_)
    refine At.ret (?_)
    refine At.ret1 (L1 := [N20]) rfl (.tmp rfl .nil) (.refl _) (.refl _) ?_
    have h := trim32d s20 t58 l58
    rw [hfin] at h ⊢
    exact ⟨N20, a20, _, rfl, rfl, h⟩
theorem rSub_f {N M : Heaplet} {ao bo : Option Addr} {n m ca cb : Nat} {a b : List UInt32} (ha : RSl N 1 ao n ca (u32s a)) (hb : RSl M 1 bo m cb (u32s b)) (hn : n ≤ 1099511627776) (hm : m ≤ n) (hge : v32 b ≤ v32 a) :
    Fn Try.prog 95 #[.slice ao n ca, .slice bo m cb] [] [N, M] (DigsP (v32 a - v32 b)) := by
  have hca := ha.cap63
  have hcb := hb.cap63
  have hal := ha.len32
  have hbl := hb.len32
  refine Fn.enter (vs := [.slice ao n ca, .slice bo m cb]) Try.func95 rfl rfl rfl ?_
  intro E R hR
  have ha := ha.le (hR N (by simp))
  have hb := hb.le (hR M (by simp))
  change At _ _ E [R] _
  refine At.seq fun K1 hk_1 => ?_
  refine At.region ?_
  refine op_assign (nxlf rfl) rfl rfl ?_
  refine At.opsNil ?_
  refine At.norm (hk_1 ?_)
  refine At.seq fun K2 hk_2 => ?_
  refine At.region ?_
  refine op_move (nxlf rfl) rfl rfl ?_
  refine op_lenS (nxlf rfl) se38 rfl rfl ?_
  refine op_make (nxla rfl) Try.underlying38 te65 rfl rfl (show _ = (((n : Nat)) : Int) from by omega) (show _ = (((n : Nat)) : Int) from by omega) (by omega) (by unfold maxLen; omega) rfl (fun N12 a12 r12 => ?_)
  rw [made_one _ _ rfl, zero_u32s] at r12
  have s12 := r12.rsl
  refine op_assign (nxlf rfl) rfl rfl ?_
  refine At.opsNil ?_
  refine At.norm (hk_2 ?_)
  refine At.seq fun K3 hk_3 => ?_
  refine At.region ?_
  refine op_assign (nxlf rfl) rfl rfl ?_
  refine At.opsNil ?_
  refine At.norm (hk_3 ?_)
  refine At.seq fun K4 hk_4 => ?_
  refine At.seq fun K5 hk_5 => ?_
  refine At.region ?_
  refine op_assign (nxlf rfl) rfl rfl ?_
  refine At.opsNil ?_
  refine At.norm (hk_5 ?_)
  refine At.block ?_
  refine At.loop (fun fr_ hp_ ms_ => ∃ (k : Nat) (c : UInt64) (w : List UInt32) (N12 : Heaplet), fr_ = [(0, .slice ao n ca), (1, .slice bo m cb), (5, .slice a12 n n), (6, .int .u64 (c.toNat : Int)), (7, .int .i64 (k : Int))] ∧ hp_ = [N12, R] ∧ n - k = ms_ ∧ (k ≤ n) ∧ (w.length = k) ∧ (c.toNat ≤ 1) ∧ (v32 w + v32 (b.take k) = v32 (a.take k) + c.toNat * 2 ^ (32 * k)) ∧ (Row N12 65 1 a12 n n (u32s (w ++ List.replicate (n - k) 0)))) ?_ (.refl _) ⟨0, 0, [], N12, rfl, rfl, rfl, by omega, rfl, by decide, by simp; rfl, r12⟩ ?_
  · exact .cons (by first | exact lkI rfl (by omega) | rfl) (.cons (by first | exact lkI rfl (by omega) | rfl) (.cons (by first | exact lkI rfl (by omega) | rfl) (.cons (by first | exact lkI rfl (by omega) | rfl) (.cons (by first | exact lkI rfl (by omega) | rfl) .nil))))
  rintro _ _ _ ⟨k, c, w, N12, rfl, rfl, rfl, hk, hw, hc, hv, r12⟩
  have s12 := r12.rsl
  have hak := dlt a k
  have hbk := dlt b k
  refine At.seq fun K6 hk_6 => ?_
  refine At.seq fun K7 hk_7 => ?_
  refine At.region ?_
  refine op_move (nxlf rfl) rfl rfl ?_
  refine op_move (nxlf rfl) rfl rfl ?_
  refine op_lenS (nxlf rfl) se38 rfl rfl ?_
  refine op_lss (nxlf rfl) rfl rfl rfl ?_
  refine At.opsNil ?_
  refine At.norm (hk_7 ?_)
  refine At.condP rfl (fun c16 => ?_) (fun c16 => ?_)
  · refine At.skip ?_
    refine At.norm (hk_6 ?_)
    refine At.seq fun K8 hk_8 => ?_
    refine At.block ?_
    refine At.seq fun K9 hk_9 => ?_
    refine At.region ?_
    refine op_move (nxlf rfl) rfl rfl ?_
    refine op_assign (nxlf rfl) rfl rfl ?_
    refine At.opsNil ?_
    refine At.norm (hk_9 ?_)
    refine At.seq fun K10 hk_10 => ?_
    refine At.meet (fun fr_ hp_ => ∃ (s : UInt64), fr_ = [(0, .slice ao n ca), (1, .slice bo m cb), (5, .slice a12 n n), (7, .int .i64 (k : Int)), (8, .int .u64 (s.toNat : Int))] ∧ hp_ = [N12, R] ∧ (s.toNat = c.toNat + (b.getD k 0).toNat)) ?_ (fun K10_ jk_10 => ?_)
    rotate_left
    · skip
      refine At.seq fun K11 hk_11 => ?_
      refine At.region ?_
      refine op_move (nxlf rfl) rfl rfl ?_
      refine op_move (nxlf rfl) rfl rfl ?_
      refine op_lenS (nxlf rfl) se38 rfl rfl ?_
      refine op_lss (nxlf rfl) rfl rfl rfl ?_
      refine At.opsNil ?_
      refine At.norm (hk_11 ?_)
      refine At.condP rfl (fun c23 => ?_) (fun c23 => ?_)
      · refine At.region ?_
        refine op_move (nxlf rfl) rfl rfl ?_
        refine op_move (nxlf rfl) rfl rfl ?_
        refine op_move (nxlf rfl) rfl rfl ?_
        refine op_idx1 (nxlf rfl) se38 rfl rfl hb (show _ = (((k : Nat)) : Int) from by omega) (by omega) rfl ?_
        refine op_loadE (nxlf rfl) sc65 rfl hb (by first | exact get8 (by omega) | exact get64 (by omega) | exact get32 (by omega)) (by first | exact mem0 | exact mem1 | exact mem2 | exact mem3 | exact mem4 | exact mem5 | exact mem6 | exact mem7 | exact mem8 | exact mem9) rfl ?_
        refine op_conv64 (nxlf rfl) (und_some Try.underlying65) Try.underlying22 rfl (by first | rfl | exact (Int.toNat_of_nonneg (by omega)).symm) rfl ?_
        refine op_addU (nxlf rfl) rfl rfl rfl ?_
        refine op_assign (nxlf rfl) rfl rfl ?_
        refine At.opsNil ?_
        refine At.norm (jk_10 ?_ (.refl _) ⟨c + UInt64.ofNat (b.getD k 0).toNat, rfl, rfl, by rw [add64n (by rw [of32]; omega), of32]⟩)
        exact .cons (by first | exact lkI rfl (by omega) | rfl) (.cons (by first | exact lkI rfl (by omega) | rfl) (.cons (by first | exact lkI rfl (by omega) | rfl) (.cons (by first | exact lkI rfl (by omega) | rfl) (.cons (by first | exact lkI rfl (by omega) | rfl) .nil))))
      · have hz : (b.getD k 0).toNat = 0 := by rw [getD_big (by omega)]; rfl
        refine At.skip ?_
        refine At.norm (jk_10 ?_ (.refl _) ⟨c, rfl, rfl, by omega⟩)
        exact .cons (by first | exact lkI rfl (by omega) | rfl) (.cons (by first | exact lkI rfl (by omega) | rfl) (.cons (by first | exact lkI rfl (by omega) | rfl) (.cons (by first | exact lkI rfl (by omega) | rfl) (.cons (by first | exact lkI rfl (by omega) | rfl) .nil))))
    rintro _ _ ⟨s, rfl, rfl, hs⟩
    refine hk_10 ?_
    refine At.seq fun K12 hk_12 => ?_
    refine At.region ?_
    refine op_move (nxlf rfl) rfl rfl ?_
    refine op_move (nxlf rfl) rfl rfl ?_
    refine op_idx1 (nxlf rfl) se38 rfl rfl ha (show _ = (((k : Nat)) : Int) from by omega) (by omega) rfl ?_
    refine op_loadE (nxlf rfl) sc65 rfl ha (by first | exact get8 (by omega) | exact get64 (by omega) | exact get32 (by omega)) (by first | exact mem0 | exact mem1 | exact mem2 | exact mem3 | exact mem4 | exact mem5 | exact mem6 | exact mem7 | exact mem8 | exact mem9) rfl ?_
    refine op_conv64 (nxlf rfl) (und_some Try.underlying65) Try.underlying22 rfl (by first | rfl | exact (Int.toNat_of_nonneg (by omega)).symm) rfl ?_
    have hx0 := of32 (a.getD k 0)
    generalize UInt64.ofNat (a.getD k 0).toNat = x0 at *
    refine op_assign (nxlf rfl) rfl rfl ?_
    refine At.opsNil ?_
    refine At.norm (hk_12 ?_)
    refine At.seq fun K13 hk_13 => ?_
    refine At.region ?_
    refine op_assign (nxlf rfl) rfl rfl ?_
    refine At.opsNil ?_
    refine At.norm (hk_13 ?_)
    refine At.seq fun K14 hk_14 => ?_
    refine At.meet (fun fr_ hp_ => ∃ (x c' : UInt64), fr_ = [(0, .slice ao n ca), (1, .slice bo m cb), (5, .slice a12 n n), (6, .int .u64 (c'.toNat : Int)), (7, .int .i64 (k : Int)), (8, .int .u64 (s.toNat : Int)), (9, .int .u64 (x.toNat : Int))] ∧ hp_ = [N12, R] ∧ (x.toNat = (a.getD k 0).toNat + c'.toNat * 4294967296) ∧ (s.toNat ≤ x.toNat ∧ x.toNat - s.toNat < 4294967296) ∧ (c'.toNat ≤ 1)) ?_ (fun K14_ jk_14 => ?_)
    rotate_left
    · skip
      refine At.seq fun K15 hk_15 => ?_
      refine At.region ?_
      refine op_move (nxlf rfl) rfl rfl ?_
      refine op_move (nxlf rfl) rfl rfl ?_
      refine op_lss (nxlf rfl) rfl rfl rfl ?_
      refine At.opsNil ?_
      refine At.norm (hk_15 ?_)
      refine At.condP rfl (fun c38 => ?_) (fun c38 => ?_)
      · refine At.seq fun K16 hk_16 => ?_
        refine At.region ?_
        refine op_move (nxlf rfl) rfl rfl ?_
        refine op_addU (b := 4294967296) (nxlf rfl) rfl rfl rfl ?_
        refine op_assign (nxlf rfl) rfl rfl ?_
        refine At.opsNil ?_
        refine At.norm (hk_16 ?_)
        refine At.region ?_
        refine op_assign (nxlf rfl) rfl rfl ?_
        refine At.opsNil ?_
        refine At.norm (jk_14 ?_ (.refl _) ⟨x0 + 4294967296, 1, rfl, rfl, by rw [add64n (by show x0.toNat + 4294967296 < _; omega)]; show x0.toNat + 4294967296 = _ + 1 * 4294967296; omega, by rw [add64n (by show x0.toNat + 4294967296 < _; omega)]; show s.toNat ≤ x0.toNat + 4294967296 ∧ x0.toNat + 4294967296 - s.toNat < 4294967296; omega, by decide⟩)
        exact .cons (by first | exact lkI rfl (by omega) | rfl) (.cons (by first | exact lkI rfl (by omega) | rfl) (.cons (by first | exact lkI rfl (by omega) | rfl) (.cons (by first | exact lkI rfl (by omega) | rfl) (.cons (by first | exact lkI rfl (by omega) | rfl) (.cons (by first | exact lkI rfl (by omega) | rfl) (.cons (by first | exact lkI rfl (by omega) | rfl) .nil))))))
      · refine At.skip ?_
        refine At.norm (jk_14 ?_ (.refl _) ⟨x0, 0, rfl, rfl, by show _ = _ + 0 * 4294967296; omega, by omega, by decide⟩)
        exact .cons (by first | exact lkI rfl (by omega) | rfl) (.cons (by first | exact lkI rfl (by omega) | rfl) (.cons (by first | exact lkI rfl (by omega) | rfl) (.cons (by first | exact lkI rfl (by omega) | rfl) (.cons (by first | exact lkI rfl (by omega) | rfl) (.cons (by first | exact lkI rfl (by omega) | rfl) (.cons (by first | exact lkI rfl (by omega) | rfl) .nil))))))
    rintro _ _ ⟨x, c', rfl, rfl, hx, hxs, hc'⟩
    refine hk_14 ?_
    refine At.region ?_
    refine op_move (nxlf rfl) rfl rfl ?_
    refine op_move (nxlf rfl) rfl rfl ?_
    refine op_move (nxlf rfl) rfl rfl ?_
    refine op_move (nxlf rfl) rfl rfl ?_
    refine op_subU (nxlf rfl) rfl rfl rfl ?_
    refine op_conv32 (nxlf rfl) (und_some Try.underlying22) Try.underlying65 rfl (by first | rfl | exact (Int.toNat_of_nonneg (by omega)).symm) rfl ?_
    refine op_idx1 (nxlf rfl) se38 rfl rfl s12 (show _ = (((k : Nat)) : Int) from by omega) (by omega) rfl ?_
    refine op_storeE (nxl rfl) sz65 rfl rfl rfl rfl rfl r12 (by simp <;> omega) (by simp) sel0 (fun N12 r12 => ?_)
    simp only [setL] at r12
    rw [set_u32s, set_fill hw (by omega)] at r12
    change Row N12 _ 1 a12 n n (u32s (w ++ [lo32 (x - s)] ++ List.replicate (n - (k + 1)) 0)) at r12
    have s12 := r12.rsl
    refine At.opsNil ?_
    refine At.inNorm ?_
    refine At.norm (hk_8 ?_)
    refine At.region ?_
    refine op_move (nxlf rfl) rfl rfl ?_
    refine op_addI (nxlf rfl) rfl rfl (by omega) (by omega) rfl ?_
    refine op_assign (nxlf rfl) rfl rfl ?_
    refine At.opsNil ?_
    refine At.norm ?_
    refine At.back ?_ (.refl _) ⟨k + 1, c', w ++ [lo32 (x - s)], N12, rfl, rfl, rfl, by omega, by simp; omega, hc', sub_round32 (y := (b.getD k 0).toNat) hw hv (by rw [lo32_nat, sub64n (by omega)]; omega) rfl, r12⟩ ?_
    · exact .cons (by first | exact lkI rfl (by omega) | rfl) (.cons (by first | exact lkI rfl (by omega) | rfl) (.cons (by first | exact lkI rfl (by omega) | rfl) (.cons (by first | exact lkI rfl (by omega) | rfl) (.cons (by first | exact lkI rfl (by omega) | rfl) .nil))))
    · omega
  · refine At.exit (At.thenExit (At.thenExit (At.inHit ?_)))
    refine At.norm (hk_4 ?_)
    refine At.seq fun K17 hk_17 => ?_
    refine At.region ?_
    refine op_move (nxlf rfl) rfl rfl ?_
    have s12 := r12.rsl
    have hkk : k = n := by omega
    rw [hkk, Nat.sub_self, List.replicate_zero, List.append_nil] at s12
    have hfin : v32 w = v32 a - v32 b := by
      rw [hkk, v32_take_all (by omega), v32_take_all (by omega)] at hv
      have h1 := v32_lt w
      rw [hw, hkk] at h1
      have hc2 : c.toNat = 0 ∨ c.toNat = 1 := by omega
      rcases hc2 with hc2 | hc2
      · rw [hc2, Nat.zero_mul] at hv; omega
      · rw [hc2, Nat.one_mul] at hv; omega
    refine op_callA (nxla rfl) (.cons rfl .nil) (trim32_f s12) Try.func118 rfl rfl (by simp) rfl ?_
    rintro v49 L49 ⟨rfl, rfl, t49, l49⟩
    change At _ _ _ [N12, R] _
    refine op_assign (nxlf rfl) rfl rfl ?_
    refine At.opsNil ?_
    refine At.norm (hk_17 ?_)
    refine At.ret (?_)
    refine At.ret1 (L1 := [N12]) rfl (.tmp rfl .nil) (.refl _) (.refl _) ?_
    have h := trim32d s12 t49 l49
    rw [hfin] at h ⊢
    exact ⟨N12, a12, _, rfl, rfl, h⟩
set_option maxRecDepth 100000 in
theorem rMul_f {N M : Heaplet} {ao bo : Option Addr} {n m ca cb : Nat} {a b : List UInt32} (ha : RSl N 1 ao n ca (u32s a)) (hb : RSl M 1 bo m cb (u32s b)) (hn : n ≤ 1099511627776) (hm : m ≤ 1099511627776) :
    Fn Try.prog 97 #[.slice ao n ca, .slice bo m cb] [] [N, M] (DigsP (v32 a * v32 b)) := by
  have hca := ha.cap63
  have hcb := hb.cap63
  have hal := ha.len32
  have hbl := hb.len32
  refine Fn.enter (vs := [.slice ao n ca, .slice bo m cb]) Try.func97 rfl rfl rfl ?_
  intro E R hR
  have ha := ha.le (hR N (by simp))
  have hb := hb.le (hR M (by simp))
  change At _ _ E [R] _
  refine At.seq fun K1 hk_1 => ?_
  refine At.region ?_
  refine op_assign (nxlf rfl) rfl rfl ?_
  refine At.opsNil ?_
  refine At.norm (hk_1 ?_)
  refine At.seq fun K2 hk_2 => ?_
  refine At.region ?_
  refine op_move (nxlf rfl) rfl rfl ?_
  refine op_lenS (nxlf rfl) se38 rfl rfl ?_
  refine op_move (nxlf rfl) rfl rfl ?_
  refine op_lenS (nxlf rfl) se38 rfl rfl ?_
  refine op_addI (nxlf rfl) rfl rfl (by omega) (by omega) rfl ?_
  refine op_make (nxla rfl) Try.underlying38 te65 rfl rfl (show _ = (((n + m : Nat)) : Int) from by omega) (show _ = (((n + m : Nat)) : Int) from by omega) (by omega) (by unfold maxLen; omega) rfl (fun N15 a15 r15 => ?_)
  rw [made_one _ _ rfl, zero_u32s] at r15
  have s15 := r15.rsl
  refine op_assign (nxlf rfl) rfl rfl ?_
  refine At.opsNil ?_
  refine At.norm (hk_2 ?_)
  refine At.seq fun K3 hk_3 => ?_
  refine At.seq fun K4 hk_4 => ?_
  refine At.region ?_
  refine op_assign (nxlf rfl) rfl rfl ?_
  refine At.opsNil ?_
  refine At.norm (hk_4 ?_)
  refine At.block ?_
  refine At.loop (fun fr_ hp_ ms_ => ∃ (i : Nat) (p : List UInt32) (N15 : Heaplet), fr_ = [(0, .slice ao n ca), (1, .slice bo m cb), (5, .slice a15 (n + m) (n + m)), (6, .int .i64 (i : Int))] ∧ hp_ = [N15, R] ∧ n - i = ms_ ∧ (i ≤ n) ∧ (p.length = i + m) ∧ (v32 p = v32 (a.take i) * v32 b) ∧ (Row N15 65 1 a15 (n + m) (n + m) (u32s (p ++ List.replicate (n - i) 0)))) ?_ (.refl _) ⟨0, List.replicate m 0, N15, rfl, rfl, rfl, by omega, by simp, by rw [v32_replicate]; simp [v32, n32, val], by rw [List.replicate_append_replicate, show m + (n - 0) = n + m by omega]; exact r15⟩ ?_
  · exact .cons (by first | exact lkI rfl (by omega) | rfl) (.cons (by first | exact lkI rfl (by omega) | rfl) (.cons (by first | exact lkI rfl (by omega) | rfl) (.cons (by first | exact lkI rfl (by omega) | rfl) .nil)))
  rintro _ _ _ ⟨i, p, N15, rfl, rfl, rfl, hi, hp, hv, r15⟩
  have s15 := r15.rsl
  refine At.seq fun K5 hk_5 => ?_
  refine At.seq fun K6 hk_6 => ?_
  refine At.region ?_
  refine op_move (nxlf rfl) rfl rfl ?_
  refine op_move (nxlf rfl) rfl rfl ?_
  refine op_lenS (nxlf rfl) se38 rfl rfl ?_
  refine op_lss (nxlf rfl) rfl rfl rfl ?_
  refine At.opsNil ?_
  refine At.norm (hk_6 ?_)
  refine At.condP rfl (fun c19 => ?_) (fun c19 => ?_)
  · refine At.skip ?_
    refine At.norm (hk_5 ?_)
    refine At.seq fun K7 hk_7 => ?_
    refine At.block ?_
    refine At.seq fun K8 hk_8 => ?_
    refine At.region ?_
    refine op_assign (nxlf rfl) rfl rfl ?_
    refine At.opsNil ?_
    refine At.norm (hk_8 ?_)
    refine At.seq fun K9 hk_9 => ?_
    refine At.seq fun K10 hk_10 => ?_
    refine At.region ?_
    refine op_assign (nxlf rfl) rfl rfl ?_
    refine At.opsNil ?_
    refine At.norm (hk_10 ?_)
    refine At.block ?_
    refine At.loop (fun fr_ hp_ ms_ => ∃ (k : Nat) (c : UInt64) (p : List UInt32) (N15 : Heaplet), fr_ = [(0, .slice ao n ca), (1, .slice bo m cb), (5, .slice a15 (n + m) (n + m)), (6, .int .i64 (i : Int)), (7, .int .u64 (c.toNat : Int)), (8, .int .i64 (k : Int))] ∧ hp_ = [N15, R] ∧ m - k = ms_ ∧ (k ≤ m) ∧ (p.length = i + m) ∧ (c.toNat < 4294967296) ∧ (v32 p + c.toNat * 2 ^ (32 * (i + k)) = v32 (a.take i) * v32 b + 2 ^ (32 * i) * ((a.getD i 0).toNat * v32 (b.take k))) ∧ (Row N15 65 1 a15 (n + m) (n + m) (u32s (p ++ List.replicate (n - i) 0)))) ?_ (.refl _) ⟨0, 0, p, N15, rfl, rfl, rfl, by omega, hp, by decide, by rw [hv]; simp [v32, n32, val], r15⟩ ?_
    · exact .cons (by first | exact lkI rfl (by omega) | rfl) (.cons (by first | exact lkI rfl (by omega) | rfl) (.cons (by first | exact lkI rfl (by omega) | rfl) (.cons (by first | exact lkI rfl (by omega) | rfl) (.cons (by first | exact lkI rfl (by omega) | rfl) (.cons (by first | exact lkI rfl (by omega) | rfl) .nil)))))
    rintro _ _ _ ⟨k, c, p, N15, rfl, rfl, rfl, hk, hp, hc, hv, r15⟩
    have s15 := r15.rsl
    have hpl : (p ++ List.replicate (n - i) (0 : UInt32)).length = n + m := by simp; omega
    refine At.seq fun K11 hk_11 => ?_
    refine At.seq fun K12 hk_12 => ?_
    refine At.region ?_
    refine op_move (nxlf rfl) rfl rfl ?_
    refine op_move (nxlf rfl) rfl rfl ?_
    refine op_lenS (nxlf rfl) se38 rfl rfl ?_
    refine op_lss (nxlf rfl) rfl rfl rfl ?_
    refine At.opsNil ?_
    refine At.norm (hk_12 ?_)
    refine At.condP rfl (fun c25 => ?_) (fun c25 => ?_)
    · refine At.skip ?_
      refine At.norm (hk_11 ?_)
      refine At.seq fun K13 hk_13 => ?_
      refine At.block ?_
      refine At.seq fun K14 hk_14 => ?_
      refine At.drawnS [N15, R] [] [] [0,1,2,3,4,5,6,7,8,9,10,11,12,13,14,15,16,17,18,19,20,21] (by kernel_rfl) (by kernel_rfl) (.refl _) ?_
      refine op_move (nxsf rfl rfl rfl) rfl rfl ?_
      refine op_move (nxsf rfl rfl rfl) rfl rfl ?_
      refine op_idx1 (nxsf rfl rfl rfl) se38 rfl rfl ha (show _ = (((i : Nat)) : Int) from by omega) (by omega) rfl ?_
      refine op_loadE (nxsf rfl rfl rfl) sc65 rfl ha (by first | exact get8 (by omega) | exact get64 (by omega) | exact get32 (by omega)) (by first | exact mem0 | exact mem1 | exact mem2 | exact mem3 | exact mem4 | exact mem5 | exact mem6 | exact mem7 | exact mem8 | exact mem9) rfl ?_
      refine op_conv64 (nxsf rfl rfl rfl) (und_some Try.underlying65) Try.underlying22 rfl (by first | rfl | exact (Int.toNat_of_nonneg (by omega)).symm) rfl ?_
      refine op_move (nxsf rfl rfl rfl) rfl rfl ?_
      refine op_move (nxsf rfl rfl rfl) rfl rfl ?_
      refine op_idx1 (nxsf rfl rfl rfl) se38 rfl rfl hb (show _ = (((k : Nat)) : Int) from by omega) (by omega) rfl ?_
      refine op_loadE (nxsf rfl rfl rfl) sc65 rfl hb (by first | exact get8 (by omega) | exact get64 (by omega) | exact get32 (by omega)) (by first | exact mem0 | exact mem1 | exact mem2 | exact mem3 | exact mem4 | exact mem5 | exact mem6 | exact mem7 | exact mem8 | exact mem9) rfl ?_
      refine op_conv64 (nxsf rfl rfl rfl) (und_some Try.underlying65) Try.underlying22 rfl (by first | rfl | exact (Int.toNat_of_nonneg (by omega)).symm) rfl ?_
      refine op_mulU (nxsf rfl rfl rfl) rfl rfl rfl ?_
      refine op_move (nxsf rfl rfl rfl) rfl rfl ?_
      refine op_move (nxsf rfl rfl rfl) rfl rfl ?_
      refine op_move (nxsf rfl rfl rfl) rfl rfl ?_
      refine op_addI (nxsf rfl rfl rfl) rfl rfl (by omega) (by omega) rfl ?_
      refine op_idx1 (nxsf rfl rfl rfl) se38 rfl rfl s15 (show _ = (((i + k : Nat)) : Int) from by omega) (by omega) rfl ?_
      refine op_loadE (nxsf rfl rfl rfl) sc65 rfl s15 (by first | exact get8 (by omega) | exact get64 (by omega) | exact get32 (by omega)) (by first | exact mem0 | exact mem1 | exact mem2 | exact mem3 | exact mem4 | exact mem5 | exact mem6 | exact mem7 | exact mem8 | exact mem9) rfl ?_
      rw [getD_app (p := p) (j := i + k) (by omega)]
      refine op_conv64 (nxsf rfl rfl rfl) (und_some Try.underlying65) Try.underlying22 rfl (by first | rfl | exact (Int.toNat_of_nonneg (by omega)).symm) rfl ?_
      refine op_addU (nxsf rfl rfl rfl) rfl rfl rfl ?_
      refine op_move (nxsf rfl rfl rfl) rfl rfl ?_
      refine op_addU (nxsf rfl rfl rfl) rfl rfl rfl ?_
      refine op_assign (nxsf rfl rfl rfl) rfl rfl ?_
      refine At.sNil ?_
      obtain ⟨hm1, hm2⟩ := mul64n (a := UInt64.ofNat (a.getD i 0).toNat) (b := UInt64.ofNat (b.getD k 0).toNat) (by rw [of32]; exact dlt _ _) (by rw [of32]; exact dlt _ _)
      rw [of32, of32] at hm1 hm2
      have hpk := dlt p (i + k)
      have hs : (UInt64.ofNat (a.getD i 0).toNat * UInt64.ofNat (b.getD k 0).toNat + UInt64.ofNat (p.getD (i + k) 0).toNat + c).toNat = (a.getD i 0).toNat * (b.getD k 0).toNat + (p.getD (i + k) 0).toNat + c.toNat := by
        have e1 : (UInt64.ofNat (a.getD i 0).toNat * UInt64.ofNat (b.getD k 0).toNat + UInt64.ofNat (p.getD (i + k) 0).toNat).toNat = (a.getD i 0).toNat * (b.getD k 0).toNat + (p.getD (i + k) 0).toNat := by
          rw [add64n (by rw [hm1, of32]; omega), hm1, of32]
        rw [add64n (by rw [e1]; omega), e1]
      generalize UInt64.ofNat (a.getD i 0).toNat * UInt64.ofNat (b.getD k 0).toNat + UInt64.ofNat (p.getD (i + k) 0).toNat + c = s at *
      refine At.norm (hk_14 ?_)
      refine At.seq fun K15 hk_15 => ?_
      refine At.region ?_
      refine op_move (nxlf rfl) rfl rfl ?_
      refine op_move (nxlf rfl) rfl rfl ?_
      refine op_move (nxlf rfl) rfl rfl ?_
      refine op_addI (nxlf rfl) rfl rfl (by omega) (by omega) rfl ?_
      refine op_move (nxlf rfl) rfl rfl ?_
      refine op_conv32 (nxlf rfl) (und_some Try.underlying22) Try.underlying65 rfl (by first | rfl | exact (Int.toNat_of_nonneg (by omega)).symm) rfl ?_
      refine op_idx1 (nxlf rfl) se38 rfl rfl s15 (show _ = (((i + k : Nat)) : Int) from by omega) (by omega) rfl ?_
      refine op_storeE (nxl rfl) sz65 rfl rfl rfl rfl rfl r15 (by simp <;> omega) (by simp) sel0 (fun N15 r15 => ?_)
      simp only [setL] at r15
      rw [set_u32s, List.set_append_left (i + k) _ (show i + k < p.length by omega)] at r15
      change Row N15 _ 1 a15 (n + m) (n + m) (u32s (p.set (i + k) (lo32 s) ++ List.replicate (n - i) 0)) at r15
      have s15 := r15.rsl
      refine At.opsNil ?_
      refine At.norm (hk_15 ?_)
      refine At.region ?_
      refine op_move (nxlf rfl) rfl rfl ?_
      refine op_shrU (nxlf rfl) rfl rfl (show _ = ((32 : Nat) : Int) from rfl) rfl ?_
      refine op_assign (nxlf rfl) rfl rfl ?_
      refine At.opsNil ?_
      refine At.inNorm ?_
      refine At.norm (hk_13 ?_)
      refine At.region ?_
      refine op_move (nxlf rfl) rfl rfl ?_
      refine op_addI (nxlf rfl) rfl rfl (by omega) (by omega) rfl ?_
      refine op_assign (nxlf rfl) rfl rfl ?_
      refine At.opsNil ?_
      refine At.norm ?_
      refine At.back ?_ (.refl _) ⟨k + 1, shr64 s 32, p.set (i + k) (lo32 s), N15, rfl, rfl, rfl, by omega, by simp; omega, carry_lt, mul_round32 (by omega) hv hs, r15⟩ ?_
      · exact .cons (by first | exact lkI rfl (by omega) | rfl) (.cons (by first | exact lkI rfl (by omega) | rfl) (.cons (by first | exact lkI rfl (by omega) | rfl) (.cons (by first | exact lkI rfl (by omega) | rfl) (.cons (by first | exact lkI rfl (by omega) | rfl) (.cons (by first | exact lkI rfl (by omega) | rfl) .nil)))))
      · omega
    · refine At.exit (At.thenExit (At.thenExit (At.inHit ?_)))
      refine At.norm (hk_9 ?_)
      refine At.region ?_
      have hkm : k = m := by omega
      refine op_move (nxlf rfl) rfl rfl ?_
      refine op_move (nxlf rfl) rfl rfl ?_
      refine op_move (nxlf rfl) rfl rfl ?_
      refine op_lenS (nxlf rfl) se38 rfl rfl ?_
      refine op_addI (nxlf rfl) rfl rfl (by omega) (by omega) rfl ?_
      refine op_move (nxlf rfl) rfl rfl ?_
      refine op_conv32 (nxlf rfl) (und_some Try.underlying22) Try.underlying65 rfl (by first | rfl | exact (Int.toNat_of_nonneg (by omega)).symm) rfl ?_
      refine op_idx1 (nxlf rfl) se38 rfl rfl s15 (show _ = (((i + m : Nat)) : Int) from by omega) (by omega) rfl ?_
      refine op_storeE (nxl rfl) sz65 rfl rfl rfl rfl rfl r15 (by simp <;> omega) (by simp) sel0 (fun N15 r15 => ?_)
      simp only [setL] at r15
      rw [set_u32s, set_rep hp (by omega)] at r15
      change Row N15 _ 1 a15 (n + m) (n + m) (u32s (p ++ [lo32 c] ++ List.replicate (n - i - 1) 0)) at r15
      have s15 := r15.rsl
      refine At.opsNil ?_
      refine At.inNorm ?_
      refine At.norm (hk_7 ?_)
      refine At.region ?_
      refine op_move (nxlf rfl) rfl rfl ?_
      refine op_addI (nxlf rfl) rfl rfl (by omega) (by omega) rfl ?_
      refine op_assign (nxlf rfl) rfl rfl ?_
      refine At.opsNil ?_
      refine At.norm ?_
      refine At.back ?_ (.refl _) ⟨i + 1, p ++ [lo32 c], N15, rfl, rfl, rfl, by omega, by simp; omega, by subst hkm; rw [← hbl] at hv hp; exact mul_outer32 hp hc hv, by rw [show n - (i + 1) = n - i - 1 by omega]; exact r15⟩ ?_
      · exact .cons (by first | exact lkI rfl (by omega) | rfl) (.cons (by first | exact lkI rfl (by omega) | rfl) (.cons (by first | exact lkI rfl (by omega) | rfl) (.cons (by first | exact lkI rfl (by omega) | rfl) .nil)))
      · omega
  · refine At.exit (At.thenExit (At.thenExit (At.inHit ?_)))
    refine At.norm (hk_3 ?_)
    refine At.seq fun K16 hk_16 => ?_
    refine At.region ?_
    refine op_move (nxlf rfl) rfl rfl ?_
    have s15 := r15.rsl
    have hin : i = n := by omega
    rw [hin, Nat.sub_self, List.replicate_zero, List.append_nil] at s15
    rw [hin, v32_take_all (by omega)] at hv
    refine op_callA (nxla rfl) (.cons rfl .nil) (trim32_f s15) Try.func118 rfl rfl (by simp) rfl ?_
    rintro v67 L67 ⟨rfl, rfl, t67, l67⟩
    change At _ _ _ [N15, R] _
    refine op_assign (nxlf rfl) rfl rfl ?_
    refine At.opsNil ?_
    refine At.norm (hk_16 ?_)
    refine At.ret (?_)
    refine At.ret1 (L1 := [N15]) rfl (.tmp rfl .nil) (.refl _) (.refl _) ?_
    have h := trim32d s15 t67 l67
    rw [hv] at h ⊢
    exact ⟨N15, a15, _, rfl, rfl, h⟩
end Go.Proofs.Ytefljbbpaideaaa
/- The reference's Shl, Shr, Bit, Len, Fill. Condition: numbers of at most 2^40 digits, shifts of at most 2^40 places. -/
namespace Go.Proofs.Ytefljbbpaideaaa
set_option linter.unusedVariables false
set_option linter.unusedSimpArgs false
open Go Go.RowKit
theorem or_hi32 {x y : UInt32} : (UInt64.ofNat x.toNat ||| shl64 (UInt64.ofNat y.toNat) 32).toNat = x.toNat + y.toNat * 4294967296 := by
  have hx := x.toNat_lt
  have hy := y.toNat_lt
  rw [UInt64.toNat_or, of32, shl64_nat, of32, Nat.mod_eq_of_lt (show y.toNat * 2 ^ 32 < 2 ^ 64 by omega), Nat.or_comm, Nat.mul_comm, ← Nat.two_pow_add_eq_or_of_lt hx, Nat.add_comm, Nat.mul_comm]
set_option maxRecDepth 100000 in
theorem rShl_f {N : Heaplet} {ao : Option Addr} {n ca : Nat} {a : List UInt32} (ha : RSl N 1 ao n ca (u32s a)) (s : Nat) (hn : n ≤ 1099511627776) (hs : s ≤ 1099511627776) :
    Fn Try.prog 122 #[.slice ao n ca, .int .i64 (s : Int)] [] [N] (DigsP (v32 a * 2 ^ s)) := by
  have hca := ha.cap63
  have hal := ha.len32
  refine Fn.enter (vs := [.slice ao n ca, .int .i64 (s : Int)]) Try.func122 rfl rfl rfl ?_
  intro E R hR
  have ha := ha.le (hR N (by simp))
  change At _ _ E [R] _
  refine At.seq fun K1 hk_1 => ?_
  refine At.region ?_
  refine op_assign (nxlf rfl) rfl rfl ?_
  refine At.opsNil ?_
  refine At.norm (hk_1 ?_)
  refine At.seq fun K2 hk_2 => ?_
  refine At.region ?_
  refine op_move (nxlf rfl) rfl rfl ?_
  refine op_lenS (nxlf rfl) se38 rfl rfl ?_
  refine op_move (nxlf rfl) rfl rfl ?_
  refine op_quoI (nxlf rfl) rfl rfl (by omega) (by omega) (by omega) rfl ?_
  refine op_addI (nxlf rfl) rfl rfl (by omega) (by omega) rfl ?_
  refine op_addI (nxlf rfl) rfl rfl (by omega) (by omega) rfl ?_
  refine op_make (nxla rfl) Try.underlying38 te65 rfl rfl (show _ = (((n + s / 32 + 1 : Nat)) : Int) from by omega) (show _ = (((n + s / 32 + 1 : Nat)) : Int) from by omega) (by omega) (by unfold maxLen; omega) rfl (fun N14 a14 r14 => ?_)
  rw [made_one _ _ rfl, zero_u32s] at r14
  have s14 := r14.rsl
  refine op_assign (nxlf rfl) rfl rfl ?_
  refine At.opsNil ?_
  refine At.norm (hk_2 ?_)
  refine At.seq fun K3 hk_3 => ?_
  refine At.seq fun K4 hk_4 => ?_
  refine At.region ?_
  refine op_assign (nxlf rfl) rfl rfl ?_
  refine At.opsNil ?_
  refine At.norm (hk_4 ?_)
  refine At.block ?_
  refine At.loop (fun fr_ hp_ ms_ => ∃ (k : Nat) (c : List UInt32) (N14 : Heaplet), fr_ = [(0, .slice ao n ca), (1, .int .i64 (s : Int)), (5, .slice a14 (n + s / 32 + 1) (n + s / 32 + 1)), (6, .int .i64 (k : Int))] ∧ hp_ = [N14, R] ∧ n - k = ms_ ∧ (k ≤ n) ∧ (c.length = n + s / 32 + 1) ∧ (v32 c = v32 (a.take k) * 2 ^ s) ∧ (Row N14 65 1 a14 (n + s / 32 + 1) (n + s / 32 + 1) (u32s c))) ?_ (.refl _) ⟨0, List.replicate (n + s / 32 + 1) 0, N14, rfl, rfl, rfl, by omega, by simp, by rw [v32_replicate]; simp [v32, n32, val], r14⟩ ?_
  · exact .cons (by first | exact lkI rfl (by omega) | rfl) (.cons (by first | exact lkI rfl (by omega) | rfl) (.cons (by first | exact lkI rfl (by omega) | rfl) (.cons (by first | exact lkI rfl (by omega) | rfl) .nil)))
  rintro _ _ _ ⟨k, c, N14, rfl, rfl, rfl, hk, hcl, hv, r14⟩
  have s14 := r14.rsl
  refine At.seq fun K5 hk_5 => ?_
  refine At.seq fun K6 hk_6 => ?_
  refine At.region ?_
  refine op_move (nxlf rfl) rfl rfl ?_
  refine op_move (nxlf rfl) rfl rfl ?_
  refine op_lenS (nxlf rfl) se38 rfl rfl ?_
  refine op_lss (nxlf rfl) rfl rfl rfl ?_
  refine At.opsNil ?_
  refine At.norm (hk_6 ?_)
  refine At.condP rfl (fun c18 => ?_) (fun c18 => ?_)
  · refine At.skip ?_
    refine At.norm (hk_5 ?_)
    refine At.seq fun K7 hk_7 => ?_
    refine At.block ?_
    refine At.seq fun K8 hk_8 => ?_
    refine At.region ?_
    refine op_move (nxlf rfl) rfl rfl ?_
    refine op_move (nxlf rfl) rfl rfl ?_
    refine op_idx1 (nxlf rfl) se38 rfl rfl ha (show _ = (((k : Nat)) : Int) from by omega) (by omega) rfl ?_
    refine op_loadE (nxlf rfl) sc65 rfl ha (by first | exact get8 (by omega) | exact get64 (by omega) | exact get32 (by omega)) (by first | exact mem0 | exact mem1 | exact mem2 | exact mem3 | exact mem4 | exact mem5 | exact mem6 | exact mem7 | exact mem8 | exact mem9) rfl ?_
    refine op_conv64 (nxlf rfl) (und_some Try.underlying65) Try.underlying22 rfl (by first | rfl | exact (Int.toNat_of_nonneg (by omega)).symm) rfl ?_
    refine op_move (nxlf rfl) rfl rfl ?_
    refine op_rem (nxlf rfl) rfl rfl (by omega) (by omega) rfl ?_
    refine op_shlU (nxlf rfl) rfl rfl (show _ = (((s % 32 : Nat)) : Int) from by omega) rfl ?_
    have hak := dlt a k
    have hw : (shl64 (UInt64.ofNat (a.getD k 0).toNat) (s % 32)).toNat = (a.getD k 0).toNat * 2 ^ (s % 32) := by
      rw [shl64_nat, of32]
      refine Nat.mod_eq_of_lt ?_
      have h1 : (2 : Nat) ^ (s % 32) ≤ 2 ^ 31 := Nat.pow_le_pow_right (by decide) (by omega)
      have h2 := Nat.mul_le_mul hak h1
      exact Nat.lt_of_le_of_lt h2 (by decide)
    generalize shl64 (UInt64.ofNat (a.getD k 0).toNat) (s % 32) = w at *
    have hlim : v32 c < 2 ^ (32 * (k + s / 32) + s % 32) := by
      rw [hv, show 32 * (k + s / 32) + s % 32 = 32 * k + s by omega, Nat.pow_add]
      exact Nat.mul_lt_mul_of_pos_right (v32_take_lt a k) (Nat.pow_pos (by decide))
    have hst := shl_step (c := c) (j := k + s / 32) (r := s % 32) (x := (a.getD k 0).toNat) (by omega) (by omega) (by omega) hlim hw
    have hv' : v32 ((c.set (k + s / 32) (c.getD (k + s / 32) 0 ||| lo32 w)).set (k + s / 32 + 1) ((c.set (k + s / 32) (c.getD (k + s / 32) 0 ||| lo32 w)).getD (k + s / 32 + 1) 0 ||| lo32 (shr64 w 32))) = v32 (a.take (k + 1)) * 2 ^ s := by
      rw [hst, hv, v32_take_succD, Nat.add_mul, show 32 * (k + s / 32) + s % 32 = 32 * k + s by omega, Nat.pow_add, Nat.mul_comm (2 ^ (32 * k)) (a.getD k 0).toNat, Nat.mul_assoc]
    refine op_assign (nxlf rfl) rfl rfl ?_
    refine At.opsNil ?_
    refine At.norm (hk_8 ?_)
    refine At.seq fun K9 hk_9 => ?_
    refine At.region ?_
    refine op_move (nxlf rfl) rfl rfl ?_
    refine op_move (nxlf rfl) rfl rfl ?_
    refine op_move (nxlf rfl) rfl rfl ?_
    refine op_quoI (nxlf rfl) rfl rfl (by omega) (by omega) (by omega) rfl ?_
    refine op_addI (nxlf rfl) rfl rfl (by omega) (by omega) rfl ?_
    refine op_move (nxlf rfl) rfl rfl ?_
    refine op_move (nxlf rfl) rfl rfl ?_
    refine op_move (nxlf rfl) rfl rfl ?_
    refine op_quoI (nxlf rfl) rfl rfl (by omega) (by omega) (by omega) rfl ?_
    refine op_addI (nxlf rfl) rfl rfl (by omega) (by omega) rfl ?_
    refine op_idx1 (nxlf rfl) se38 rfl rfl s14 (show _ = (((k + s / 32 : Nat)) : Int) from by omega) (by omega) rfl ?_
    refine op_loadE (nxlf rfl) sc65 rfl s14 (by first | exact get8 (by omega) | exact get64 (by omega) | exact get32 (by omega)) (by first | exact mem0 | exact mem1 | exact mem2 | exact mem3 | exact mem4 | exact mem5 | exact mem6 | exact mem7 | exact mem8 | exact mem9) rfl ?_
    refine op_move (nxlf rfl) rfl rfl ?_
    refine op_conv32 (nxlf rfl) (und_some Try.underlying22) Try.underlying65 rfl (by first | rfl | exact (Int.toNat_of_nonneg (by omega)).symm) rfl ?_
    refine op_orU32 (nxlf rfl) rfl rfl rfl ?_
    refine op_idx1 (nxlf rfl) se38 rfl rfl s14 (show _ = (((k + s / 32 : Nat)) : Int) from by omega) (by omega) rfl ?_
    refine op_storeE (nxl rfl) sz65 rfl rfl rfl rfl rfl r14 (by simp <;> omega) (by simp) sel0 (fun N14 r14 => ?_)
    simp only [setL] at r14
    rw [set_u32s] at r14
    change Row N14 _ 1 a14 _ _ (u32s (c.set (k + s / 32) (c.getD (k + s / 32) 0 ||| lo32 w))) at r14
    have hcl1 : (c.set (k + s / 32) (c.getD (k + s / 32) 0 ||| lo32 w)).length = n + s / 32 + 1 := by rw [List.length_set]; exact hcl
    have s14 := r14.rsl
    refine At.opsNil ?_
    refine At.norm (hk_9 ?_)
    refine At.region ?_
    refine op_move (nxlf rfl) rfl rfl ?_
    refine op_move (nxlf rfl) rfl rfl ?_
    refine op_move (nxlf rfl) rfl rfl ?_
    refine op_quoI (nxlf rfl) rfl rfl (by omega) (by omega) (by omega) rfl ?_
    refine op_addI (nxlf rfl) rfl rfl (by omega) (by omega) rfl ?_
    refine op_addI (nxlf rfl) rfl rfl (by omega) (by omega) rfl ?_
    refine op_move (nxlf rfl) rfl rfl ?_
    refine op_move (nxlf rfl) rfl rfl ?_
    refine op_move (nxlf rfl) rfl rfl ?_
    refine op_quoI (nxlf rfl) rfl rfl (by omega) (by omega) (by omega) rfl ?_
    refine op_addI (nxlf rfl) rfl rfl (by omega) (by omega) rfl ?_
    refine op_addI (nxlf rfl) rfl rfl (by omega) (by omega) rfl ?_
    refine op_idx1 (nxlf rfl) se38 rfl rfl s14 (show _ = (((k + s / 32 + 1 : Nat)) : Int) from by omega) (by omega) rfl ?_
    refine op_loadE (nxlf rfl) sc65 rfl s14 (by first | exact get8 (by omega) | exact get64 (by omega) | exact get32 (by omega)) (by first | exact mem0 | exact mem1 | exact mem2 | exact mem3 | exact mem4 | exact mem5 | exact mem6 | exact mem7 | exact mem8 | exact mem9) rfl ?_
    refine op_move (nxlf rfl) rfl rfl ?_
    refine op_shrU (nxlf rfl) rfl rfl (show _ = ((32 : Nat) : Int) from rfl) rfl ?_
    refine op_conv32 (nxlf rfl) (und_some Try.underlying22) Try.underlying65 rfl (by first | rfl | exact (Int.toNat_of_nonneg (by omega)).symm) rfl ?_
    refine op_orU32 (nxlf rfl) rfl rfl rfl ?_
    refine op_idx1 (nxlf rfl) se38 rfl rfl s14 (show _ = (((k + s / 32 + 1 : Nat)) : Int) from by omega) (by omega) rfl ?_
    refine op_storeE (nxl rfl) sz65 rfl rfl rfl rfl rfl r14 (by simp <;> omega) (by simp) sel0 (fun N14 r14 => ?_)
    simp only [setL] at r14
    rw [set_u32s] at r14
    change Row N14 _ 1 a14 _ _ (u32s ((c.set (k + s / 32) (c.getD (k + s / 32) 0 ||| lo32 w)).set (k + s / 32 + 1) ((c.set (k + s / 32) (c.getD (k + s / 32) 0 ||| lo32 w)).getD (k + s / 32 + 1) 0 ||| lo32 (shr64 w 32)))) at r14
    have s14 := r14.rsl
    refine At.opsNil ?_
    refine At.inNorm ?_
    refine At.norm (hk_7 ?_)
    refine At.region ?_
    refine op_move (nxlf rfl) rfl rfl ?_
    refine op_addI (nxlf rfl) rfl rfl (by omega) (by omega) rfl ?_
    refine op_assign (nxlf rfl) rfl rfl ?_
    refine At.opsNil ?_
    refine At.norm ?_
    refine At.back ?_ (.refl _) ⟨k + 1, (c.set (k + s / 32) (c.getD (k + s / 32) 0 ||| lo32 w)).set (k + s / 32 + 1) ((c.set (k + s / 32) (c.getD (k + s / 32) 0 ||| lo32 w)).getD (k + s / 32 + 1) 0 ||| lo32 (shr64 w 32)), N14, rfl, rfl, rfl, by omega, by simp; omega, hv', r14⟩ ?_
    · exact .cons (by first | exact lkI rfl (by omega) | rfl) (.cons (by first | exact lkI rfl (by omega) | rfl) (.cons (by first | exact lkI rfl (by omega) | rfl) (.cons (by first | exact lkI rfl (by omega) | rfl) .nil)))
    · omega
  · refine At.exit (At.thenExit (At.thenExit (At.inHit ?_)))
    refine At.norm (hk_3 ?_)
    refine At.seq fun K10 hk_10 => ?_
    refine At.region ?_
    refine op_move (nxlf rfl) rfl rfl ?_
    have hkn : k = n := by omega
    rw [hkn, v32_take_all (by omega)] at hv
    refine op_callA (nxla rfl) (.cons rfl .nil) (trim32_f s14) Try.func118 rfl rfl (by simp) rfl ?_
    rintro v65 L65 ⟨rfl, rfl, t65, l65⟩
    change At _ _ _ [N14, R] _
    refine op_assign (nxlf rfl) rfl rfl ?_
    refine At.opsNil ?_
    refine At.norm (hk_10 ?_)
    refine At.ret (?_)
    refine At.ret1 (L1 := [N14]) rfl (.tmp rfl .nil) (.refl _) (.refl _) ?_
    have h := trim32d s14 t65 l65
    rw [hv] at h ⊢
    exact ⟨N14, a14, _, rfl, rfl, h⟩
set_option maxRecDepth 100000 in
theorem rShr_f {N : Heaplet} {ao : Option Addr} {n ca : Nat} {a : List UInt32} (ha : RSl N 1 ao n ca (u32s a)) (s : Nat) (hn : n ≤ 1099511627776) (hs : s ≤ 1099511627776) :
    Fn Try.prog 125 #[.slice ao n ca, .int .i64 (s : Int)] [] [N] (DigsP (v32 a / 2 ^ s)) := by
  have hca := ha.cap63
  have hal := ha.len32
  refine Fn.enter (vs := [.slice ao n ca, .int .i64 (s : Int)]) Try.func125 rfl rfl rfl ?_
  intro E R hR
  have ha := ha.le (hR N (by simp))
  change At _ _ E [R] _
  refine At.seq fun K1 hk_1 => ?_
  refine At.region ?_
  refine op_assign (nxlf rfl) rfl rfl ?_
  refine At.opsNil ?_
  refine At.norm (hk_1 ?_)
  refine At.seq fun K2 hk_2 => ?_
  refine At.seq fun K3 hk_3 => ?_
  refine At.region ?_
  refine op_move (nxlf rfl) rfl rfl ?_
  refine op_quoI (nxlf rfl) rfl rfl (by omega) (by omega) (by omega) rfl ?_
  refine op_move (nxlf rfl) rfl rfl ?_
  refine op_lenS (nxlf rfl) se38 rfl rfl ?_
  refine op_geq (nxlf rfl) rfl rfl rfl ?_
  refine At.opsNil ?_
  refine At.norm (hk_3 ?_)
  refine At.condP rfl (fun c12 => ?_) (fun c12 => ?_)
  · refine At.seq fun K4 hk_4 => ?_
    refine At.region ?_
    refine op_assign (nxlf rfl) rfl rfl ?_
    refine At.opsNil ?_
    refine At.norm (hk_4 ?_)
    refine At.ret (At.thenRet (?_))
    refine At.empty ?_
    refine At.ret1 (L1 := [nilH]) rfl (.tmp rfl .nil) (.refl _) (.refl _) ?_
    have hz : v32 a / 2 ^ s = 0 := Nat.div_eq_of_lt (Nat.lt_of_lt_of_le (v32_lt a) (Nat.pow_le_pow_right (by decide) (by omega)))
    rw [hz]
    exact ⟨nilH, none, 0, rfl, rfl, RSl.nil _ _⟩
  · refine At.skip ?_
    refine At.norm (hk_2 ?_)
    refine At.seq fun K5 hk_5 => ?_
    refine At.region ?_
    refine op_move (nxlf rfl) rfl rfl ?_
    refine op_lenS (nxlf rfl) se38 rfl rfl ?_
    refine op_move (nxlf rfl) rfl rfl ?_
    refine op_quoI (nxlf rfl) rfl rfl (by omega) (by omega) (by omega) rfl ?_
    refine op_subI (nxlf rfl) rfl rfl (by omega) (by omega) rfl ?_
    refine op_make (nxla rfl) Try.underlying38 te65 rfl rfl (show _ = (((n - s / 32 : Nat)) : Int) from by omega) (show _ = (((n - s / 32 : Nat)) : Int) from by omega) (by omega) (by unfold maxLen; omega) rfl (fun N18 a18 r18 => ?_)
    rw [made_one _ _ rfl, zero_u32s] at r18
    have s18 := r18.rsl
    refine op_assign (nxlf rfl) rfl rfl ?_
    refine At.opsNil ?_
    refine At.norm (hk_5 ?_)
    refine At.seq fun K6 hk_6 => ?_
    refine At.seq fun K7 hk_7 => ?_
    refine At.region ?_
    refine op_assign (nxlf rfl) rfl rfl ?_
    refine At.opsNil ?_
    refine At.norm (hk_7 ?_)
    refine At.block ?_
    refine At.loop (fun fr_ hp_ ms_ => ∃ (k : Nat) (N18 : Heaplet), fr_ = [(0, .slice ao n ca), (1, .int .i64 (s : Int)), (5, .slice a18 (n - s / 32) (n - s / 32)), (6, .int .i64 (k : Int))] ∧ hp_ = [N18, R] ∧ n - s / 32 - k = ms_ ∧ (k ≤ n - s / 32) ∧ (Row N18 65 1 a18 (n - s / 32) (n - s / 32) (u32s (digsN k (v32 a / 2 ^ s) ++ List.replicate (n - s / 32 - k) 0)))) ?_ (.refl _) ⟨0, N18, rfl, rfl, rfl, by omega, by simpa [digsN] using r18⟩ ?_
    · exact .cons (by first | exact lkI rfl (by omega) | rfl) (.cons (by first | exact lkI rfl (by omega) | rfl) (.cons (by first | exact lkI rfl (by omega) | rfl) (.cons (by first | exact lkI rfl (by omega) | rfl) .nil)))
    rintro _ _ _ ⟨k, N18, rfl, rfl, rfl, hk, r18⟩
    have s18 := r18.rsl
    have hlk : (digsN k (v32 a / 2 ^ s)).length = k := by simp [digsN]
    refine At.seq fun K8 hk_8 => ?_
    refine At.seq fun K9 hk_9 => ?_
    refine At.region ?_
    refine op_move (nxlf rfl) rfl rfl ?_
    refine op_move (nxlf rfl) rfl rfl ?_
    refine op_lenS (nxlf rfl) se38 rfl rfl ?_
    refine op_lss (nxlf rfl) rfl rfl rfl ?_
    refine At.opsNil ?_
    refine At.norm (hk_9 ?_)
    refine At.condP rfl (fun c22 => ?_) (fun c22 => ?_)
    · refine At.skip ?_
      refine At.norm (hk_8 ?_)
      refine At.seq fun K10 hk_10 => ?_
      refine At.block ?_
      refine At.seq fun K11 hk_11 => ?_
      refine At.region ?_
      refine op_move (nxlf rfl) rfl rfl ?_
      refine op_move (nxlf rfl) rfl rfl ?_
      refine op_move (nxlf rfl) rfl rfl ?_
      refine op_quoI (nxlf rfl) rfl rfl (by omega) (by omega) (by omega) rfl ?_
      refine op_addI (nxlf rfl) rfl rfl (by omega) (by omega) rfl ?_
      refine op_idx1 (nxlf rfl) se38 rfl rfl ha (show _ = (((k + s / 32 : Nat)) : Int) from by omega) (by omega) rfl ?_
      refine op_loadE (nxlf rfl) sc65 rfl ha (by first | exact get8 (by omega) | exact get64 (by omega) | exact get32 (by omega)) (by first | exact mem0 | exact mem1 | exact mem2 | exact mem3 | exact mem4 | exact mem5 | exact mem6 | exact mem7 | exact mem8 | exact mem9) rfl ?_
      refine op_conv64 (nxlf rfl) (und_some Try.underlying65) Try.underlying22 rfl (by first | rfl | exact (Int.toNat_of_nonneg (by omega)).symm) rfl ?_
      refine op_assign (nxlf rfl) rfl rfl ?_
      refine At.opsNil ?_
      refine At.norm (hk_11 ?_)
      refine At.seq fun K12 hk_12 => ?_
      refine At.meet (fun fr_ hp_ => ∃ (w : UInt64), fr_ = [(0, .slice ao n ca), (1, .int .i64 (s : Int)), (5, .slice a18 (n - s / 32) (n - s / 32)), (6, .int .i64 (k : Int)), (7, .int .u64 (w.toNat : Int))] ∧ hp_ = [N18, R] ∧ (w.toNat = (a.getD (k + s / 32) 0).toNat + (a.getD (k + s / 32 + 1) 0).toNat * 4294967296)) ?_ (fun K12_ jk_12 => ?_)
      rotate_left
      · skip
        refine At.seq fun K13 hk_13 => ?_
        refine At.region ?_
        refine op_move (nxlf rfl) rfl rfl ?_
        refine op_move (nxlf rfl) rfl rfl ?_
        refine op_quoI (nxlf rfl) rfl rfl (by omega) (by omega) (by omega) rfl ?_
        refine op_addI (nxlf rfl) rfl rfl (by omega) (by omega) rfl ?_
        refine op_addI (nxlf rfl) rfl rfl (by omega) (by omega) rfl ?_
        refine op_move (nxlf rfl) rfl rfl ?_
        refine op_lenS (nxlf rfl) se38 rfl rfl ?_
        refine op_lss (nxlf rfl) rfl rfl rfl ?_
        refine At.opsNil ?_
        refine At.norm (hk_13 ?_)
        refine At.condP rfl (fun c40 => ?_) (fun c40 => ?_)
        · refine At.region ?_
          refine op_move (nxlf rfl) rfl rfl ?_
          refine op_move (nxlf rfl) rfl rfl ?_
          refine op_move (nxlf rfl) rfl rfl ?_
          refine op_move (nxlf rfl) rfl rfl ?_
          refine op_quoI (nxlf rfl) rfl rfl (by omega) (by omega) (by omega) rfl ?_
          refine op_addI (nxlf rfl) rfl rfl (by omega) (by omega) rfl ?_
          refine op_addI (nxlf rfl) rfl rfl (by omega) (by omega) rfl ?_
          refine op_idx1 (nxlf rfl) se38 rfl rfl ha (show _ = (((k + s / 32 + 1 : Nat)) : Int) from by omega) (by omega) rfl ?_
          refine op_loadE (nxlf rfl) sc65 rfl ha (by first | exact get8 (by omega) | exact get64 (by omega) | exact get32 (by omega)) (by first | exact mem0 | exact mem1 | exact mem2 | exact mem3 | exact mem4 | exact mem5 | exact mem6 | exact mem7 | exact mem8 | exact mem9) rfl ?_
          refine op_conv64 (nxlf rfl) (und_some Try.underlying65) Try.underlying22 rfl (by first | rfl | exact (Int.toNat_of_nonneg (by omega)).symm) rfl ?_
          refine op_shlU (nxlf rfl) rfl rfl (show _ = ((32 : Nat) : Int) from rfl) rfl ?_
          refine op_orU (nxlf rfl) rfl rfl rfl ?_
          refine op_assign (nxlf rfl) rfl rfl ?_
          refine At.opsNil ?_
          refine At.norm (jk_12 ?_ (.refl _) ⟨UInt64.ofNat (a.getD (k + s / 32) 0).toNat ||| shl64 (UInt64.ofNat (a.getD (k + s / 32 + 1) 0).toNat) 32, rfl, rfl, or_hi32⟩)
          exact .cons (by first | exact lkI rfl (by omega) | rfl) (.cons (by first | exact lkI rfl (by omega) | rfl) (.cons (by first | exact lkI rfl (by omega) | rfl) (.cons (by first | exact lkI rfl (by omega) | rfl) (.cons (by first | exact lkI rfl (by omega) | rfl) .nil))))
        · have hz : (a.getD (k + s / 32 + 1) 0).toNat = 0 := by rw [getD_big (by omega)]; rfl
          refine At.skip ?_
          refine At.norm (jk_12 ?_ (.refl _) ⟨UInt64.ofNat (a.getD (k + s / 32) 0).toNat, rfl, rfl, by rw [hz, of32]; omega⟩)
          exact .cons (by first | exact lkI rfl (by omega) | rfl) (.cons (by first | exact lkI rfl (by omega) | rfl) (.cons (by first | exact lkI rfl (by omega) | rfl) (.cons (by first | exact lkI rfl (by omega) | rfl) (.cons (by first | exact lkI rfl (by omega) | rfl) .nil))))
      rintro _ _ ⟨w, rfl, rfl, hw⟩
      refine hk_12 ?_
      refine At.region ?_
      refine op_move (nxlf rfl) rfl rfl ?_
      refine op_move (nxlf rfl) rfl rfl ?_
      refine op_move (nxlf rfl) rfl rfl ?_
      refine op_move (nxlf rfl) rfl rfl ?_
      refine op_rem (nxlf rfl) rfl rfl (by omega) (by omega) rfl ?_
      refine op_shrU (nxlf rfl) rfl rfl (show _ = (((s % 32 : Nat)) : Int) from by omega) rfl ?_
      refine op_conv32 (nxlf rfl) (und_some Try.underlying22) Try.underlying65 rfl (by first | rfl | exact (Int.toNat_of_nonneg (by omega)).symm) rfl ?_
      refine op_idx1 (nxlf rfl) se38 rfl rfl s18 (show _ = (((k : Nat)) : Int) from by omega) (by omega) rfl ?_
      refine op_storeE (nxl rfl) sz65 rfl rfl rfl rfl rfl r18 (by simp <;> omega) (by simp) sel0 (fun N18 r18 => ?_)
      have hd := shr_digit (l := a) (j := k + s / 32) (r := s % 32) (by omega) hw
      simp only [setL] at r18
      rw [set_u32s, set_fill hlk (by omega)] at r18
      change Row N18 _ 1 a18 _ _ (u32s (digsN k (v32 a / 2 ^ s) ++ [lo32 (shr64 w (s % 32))] ++ List.replicate (n - s / 32 - (k + 1)) 0)) at r18
      rw [← hd, show 32 * (k + s / 32) + s % 32 = s + 32 * k by omega, Nat.pow_add, ← Nat.div_div_eq_div_mul, ← digsN_succ] at r18
      have s18 := r18.rsl
      refine At.opsNil ?_
      refine At.inNorm ?_
      refine At.norm (hk_10 ?_)
      refine At.region ?_
      refine op_move (nxlf rfl) rfl rfl ?_
      refine op_addI (nxlf rfl) rfl rfl (by omega) (by omega) rfl ?_
      refine op_assign (nxlf rfl) rfl rfl ?_
      refine At.opsNil ?_
      refine At.norm ?_
      refine At.back ?_ (.refl _) ⟨k + 1, N18, rfl, rfl, rfl, by omega, r18⟩ ?_
      · exact .cons (by first | exact lkI rfl (by omega) | rfl) (.cons (by first | exact lkI rfl (by omega) | rfl) (.cons (by first | exact lkI rfl (by omega) | rfl) (.cons (by first | exact lkI rfl (by omega) | rfl) .nil)))
      · omega
    · refine At.exit (At.thenExit (At.thenExit (At.inHit ?_)))
      refine At.norm (hk_6 ?_)
      refine At.seq fun K14 hk_14 => ?_
      refine At.region ?_
      refine op_move (nxlf rfl) rfl rfl ?_
      have hkn : k = n - s / 32 := by omega
      rw [hkn, Nat.sub_self, List.replicate_zero, List.append_nil] at s18
      have hfin : v32 (digsN (n - s / 32) (v32 a / 2 ^ s)) = v32 a / 2 ^ s := by
        rw [v32_digsN]
        refine Nat.mod_eq_of_lt ?_
        rw [Nat.div_lt_iff_lt_mul (Nat.pow_pos (by decide)), ← Nat.pow_add]
        exact Nat.lt_of_lt_of_le (v32_lt a) (Nat.pow_le_pow_right (by decide) (by omega))
      refine op_callA (nxla rfl) (.cons rfl .nil) (trim32_f s18) Try.func118 rfl rfl (by simp) rfl ?_
      rintro v62 L62 ⟨rfl, rfl, t62, l62⟩
      change At _ _ _ [N18, R] _
      refine op_assign (nxlf rfl) rfl rfl ?_
      refine At.opsNil ?_
      refine At.norm (hk_14 ?_)
      refine At.ret (?_)
      refine At.ret1 (L1 := [N18]) rfl (.tmp rfl .nil) (.refl _) (.refl _) ?_
      have h := trim32d s18 t62 l62
      rw [hfin] at h ⊢
      exact ⟨N18, a18, _, rfl, rfl, h⟩
theorem rBit_f {N : Heaplet} {ao : Option Addr} {n cap : Nat} {l : List UInt32} (h : RSl N 1 ao n cap (u32s l)) (i : Nat) (hi : i ≤ 9223372036854775807) : Fn Try.prog 71 #[.slice ao n cap, .int .i64 (i : Int)] [] [N] (fun v L => v = .int .u32 ((v32 l / 2 ^ i % 2 : Nat) : Int) ∧ L = []) := by
  have hlen := h.len32
  have hcap := h.cap63
  refine Fn.enter (vs := [.slice ao n cap, .int .i64 (i : Int)]) Try.func71 rfl rfl rfl ?_
  intro E R hR
  have h := h.le (hR N (by simp))
  change At _ _ E [R] _
  refine At.seq fun K1 hk_1 => ?_
  refine At.region ?_
  refine op_assign (nxlf rfl) rfl rfl ?_
  refine At.opsNil ?_
  refine At.norm (hk_1 ?_)
  refine At.seq fun K2 hk_2 => ?_
  refine At.seq fun K3 hk_3 => ?_
  refine At.region ?_
  refine op_move (nxlf rfl) rfl rfl ?_
  refine op_quoI (nxlf rfl) rfl rfl (by omega) (by omega) (by omega) rfl ?_
  refine op_move (nxlf rfl) rfl rfl ?_
  refine op_lenS (nxlf rfl) se38 rfl rfl ?_
  refine op_geq (nxlf rfl) rfl rfl rfl ?_
  refine At.opsNil ?_
  refine At.norm (hk_3 ?_)
  refine At.condP rfl (fun c9 => ?_) (fun c9 => ?_)
  · refine At.seq fun K4 hk_4 => ?_
    refine At.region ?_
    refine op_assign (nxlf rfl) rfl rfl ?_
    refine At.opsNil ?_
    refine At.norm (hk_4 ?_)
    refine At.ret (At.thenRet (?_))
    refine At.ret1 (L1 := []) rfl (.tmp rfl .nil) (.refl _) (.refl _) ?_
    exact ⟨by rw [bit_big32 (by omega)]; rfl, rfl⟩
  · refine At.skip ?_
    refine At.norm (hk_2 ?_)
    refine At.seq fun K5 hk_5 => ?_
    refine At.region ?_
    refine op_move (nxlf rfl) rfl rfl ?_
    refine op_move (nxlf rfl) rfl rfl ?_
    refine op_quoI (nxlf rfl) rfl rfl (by omega) (by omega) (by omega) rfl ?_
    refine op_idx1 (nxlf rfl) se38 rfl rfl (by assumption) (show _ = (((i / 32 : Nat)) : Int) from by omega) (by omega) rfl ?_
    refine op_loadE (nxlf rfl) sc65 rfl (by assumption) (by first | exact get8 (by omega) | exact get64 (by omega) | exact get32 (by omega)) (by first | exact mem0 | exact mem1 | exact mem2 | exact mem3 | exact mem4 | exact mem5 | exact mem6 | exact mem7 | exact mem8 | exact mem9) rfl ?_
    refine op_move (nxlf rfl) rfl rfl ?_
    refine op_rem (nxlf rfl) rfl rfl (by omega) (by omega) rfl ?_
    refine op_shrU32 (nxlf rfl) rfl rfl (show _ = (((i % 32 : Nat)) : Int) from by omega) rfl ?_
    refine op_andU32 (b := 1) (nxlf rfl) rfl rfl rfl ?_
    refine op_assign (nxlf rfl) rfl rfl ?_
    refine At.opsNil ?_
    refine At.norm (hk_5 ?_)
    refine At.ret (?_)
    refine At.ret1 (L1 := []) rfl (.tmp rfl .nil) (.refl _) (.refl _) ?_
    exact ⟨by rw [← bit_at32], rfl⟩
theorem rLen_f {N : Heaplet} {ao : Option Addr} {n cap : Nat} {l : List UInt32} (h : RSl N 1 ao n cap (u32s l)) (hn : n ≤ 1099511627776) : Fn Try.prog 73 #[.slice ao n cap] [] [N] (fun v L => v = .int .i64 ((bitLen (v32 l) : Nat) : Int) ∧ L = []) := by
  have hlen := h.len32
  have hcap := h.cap63
  refine Fn.enter (vs := [.slice ao n cap]) Try.func73 rfl rfl rfl ?_
  intro E R hR
  have h := h.le (hR N (by simp))
  change At _ _ E [R] _
  refine At.seq fun K1 hk_1 => ?_
  refine At.region ?_
  refine op_assign (nxlf rfl) rfl rfl ?_
  refine At.opsNil ?_
  refine At.norm (hk_1 ?_)
  refine At.seq fun K2 hk_2 => ?_
  refine At.region ?_
  refine op_move (nxlf rfl) rfl rfl ?_
  refine op_lenS (nxlf rfl) se38 rfl rfl ?_
  refine op_mulI (nxlf rfl) rfl rfl (by omega) (by omega) rfl ?_
  refine op_assign (nxlf rfl) rfl rfl ?_
  refine At.opsNil ?_
  refine At.norm (hk_2 ?_)
  refine At.seq fun K3 hk_3 => ?_
  refine At.block ?_
  refine At.loop (fun fr_ hp_ ms_ => ∃ (j : Nat), fr_ = [(0, .slice ao n cap), (3, .int .i64 (j : Int))] ∧ hp_ = [R] ∧ j = ms_ ∧ (j ≤ 32 * n) ∧ (v32 l < 2 ^ j)) ?_ (.refl _) ⟨32 * n, rfl, rfl, rfl, by omega, by rw [← hlen]; exact v32_lt l⟩ ?_
  · exact .cons (by first | exact lkI rfl (by omega) | rfl) (.cons (by first | exact lkI rfl (by omega) | rfl) .nil)
  rintro _ _ _ ⟨j, rfl, rfl, rfl, hj, hv⟩
  refine At.seq fun K4 hk_4 => ?_
  refine At.seq fun K5 hk_5 => ?_
  refine At.region ?_
  refine op_move (nxlf rfl) rfl rfl ?_
  refine op_gtr (nxlf rfl) rfl rfl rfl ?_
  refine op_move (nxlf rfl) rfl rfl ?_
  refine At.partP (d := 9) rfl (fun g9 => ?_) (fun g9 => ?_)
  · refine op_move (nxgf rfl rfl rfl rfl) rfl rfl ?_
    refine op_move (nxgf rfl rfl rfl rfl) rfl rfl ?_
    refine op_subI (nxgf rfl rfl rfl rfl) rfl rfl (by omega) (by omega) rfl ?_
    rw [show (j : Int) - 1 = ((j - 1 : Nat) : Int) by omega]
    refine op_callA (nxga rfl rfl rfl rfl) (.cons rfl (.cons rfl .nil)) (rBit_f h (j - 1) (by omega)) Try.func71 rfl rfl (by simp) rfl ?_
    rintro v13 L13 ⟨rfl, rfl⟩
    change At _ _ _ [R] _
    refine op_eql (nxgf rfl rfl rfl rfl) rfl rfl rfl ?_
    refine op_pickT (nxlf rfl) rfl rfl rfl ?_
    refine At.opsNil ?_
    refine At.norm (hk_5 ?_)
    refine At.condP rfl (fun c15 => ?_) (fun c15 => ?_)
    · have hv' : v32 l < 2 ^ (j - 1) := by
        have e : v32 l / 2 ^ (j - 1) < 2 := by
          rw [Nat.div_lt_iff_lt_mul (Nat.pow_pos (by decide)), ← Nat.pow_succ', show (j - 1).succ = j by omega]; exact hv
        have e2 : v32 l / 2 ^ (j - 1) = 0 := by
          generalize v32 l / 2 ^ (j - 1) = X at *
          omega
        exact (Nat.div_eq_zero_iff_lt (Nat.pow_pos (by decide))).1 e2
      refine At.skip ?_
      refine At.norm (hk_4 ?_)
      refine At.block ?_
      refine At.region ?_
      refine op_move (nxlf rfl) rfl rfl ?_
      refine op_subI (nxlf rfl) rfl rfl (by omega) (by omega) rfl ?_
      refine op_assign (nxlf rfl) rfl rfl ?_
      refine At.opsNil ?_
      refine At.inNorm ?_
      refine At.norm ?_
      refine At.back ?_ (.refl _) ⟨j - 1, rfl, rfl, rfl, by omega, hv'⟩ ?_
      · exact .cons (by first | exact lkI rfl (by omega) | rfl) (.cons (by first | exact lkI rfl (by omega) | rfl) .nil)
      · omega
    · refine At.exit (At.thenExit (At.thenExit (At.inHit ?_)))
      refine At.norm (hk_3 ?_)
      refine At.seq fun K6 hk_6 => ?_
      refine At.region ?_
      refine op_move (nxlf rfl) rfl rfl ?_
      refine op_assign (nxlf rfl) rfl rfl ?_
      refine At.opsNil ?_
      refine At.norm (hk_6 ?_)
      refine At.ret (?_)
      refine At.ret1 (L1 := []) rfl (.tmp rfl .nil) (.refl _) (.refl _) ?_
      refine ⟨?_, rfl⟩
      congr 2
      symm
      refine bitLen_eq hv (.inr ?_)
      rcases Nat.lt_or_ge (v32 l) (2 ^ (j - 1)) with h1 | h1
      · rw [Nat.div_eq_of_lt h1] at c15; exact absurd rfl c15
      · exact h1
  · refine op_skip rfl rfl rfl rfl rfl rfl rfl ?_
    refine op_skip rfl rfl rfl rfl rfl rfl rfl ?_
    refine op_skip rfl rfl rfl rfl rfl rfl rfl ?_
    refine op_skip rfl rfl rfl rfl rfl rfl rfl ?_
    refine op_skip rfl rfl rfl rfl rfl rfl rfl ?_
    refine op_pickF (nxlf rfl) rfl rfl rfl ?_
    refine At.opsNil ?_
    refine At.norm (hk_5 ?_)
    refine At.condF rfl ?_
    refine At.exit (At.thenExit (At.thenExit (At.inHit ?_)))
    refine At.norm (hk_3 ?_)
    refine At.seq fun K7 hk_7 => ?_
    refine At.region ?_
    refine op_move (nxlf rfl) rfl rfl ?_
    refine op_assign (nxlf rfl) rfl rfl ?_
    refine At.opsNil ?_
    refine At.norm (hk_7 ?_)
    refine At.ret (?_)
    refine At.ret1 (L1 := []) rfl (.tmp rfl .nil) (.refl _) (.refl _) ?_
    refine ⟨?_, rfl⟩
    congr 2
    symm
    exact bitLen_eq hv (.inl (by omega))
theorem rFill_f {N : Heaplet} {ao : Option Addr} {n cap : Nat} {l : List UInt32} (h : RSl N 1 ao n cap (u32s l)) (hn : n ≤ 1099511627776) (w : Nat) (hw : w ≤ 1099511627776) (hV : v32 l < 256 ^ w) :
    Fn Try.prog 74 #[.slice ao n cap, .int .i64 (w : Int)] [] [N] (fun v L => ∃ M a c, v = .slice a w c ∧ L = [M] ∧ Row M 5 1 a w c (u8s (bytesN w (v32 l)))) := by
  have hl := length_bytesOf (v32 l)
  have h1 := byteLen_le.2 hV
  refine Fn.enter (vs := [.slice ao n cap, .int .i64 (w : Int)]) Try.func74 rfl rfl rfl ?_
  intro E R hR
  have h := h.le (hR N (by simp))
  change At _ _ E [R] _
  refine At.seq fun K1 hk_1 => ?_
  refine At.region ?_
  refine op_assign (nxlf rfl) rfl rfl ?_
  refine At.opsNil ?_
  refine At.norm (hk_1 ?_)
  refine At.seq fun K2 hk_2 => ?_
  refine At.region ?_
  refine op_move (nxlf rfl) rfl rfl ?_
  refine op_callA (nxla rfl) (.cons rfl .nil) (Bytes32_f h (by omega)) Try.func42 rfl rfl (by simp) rfl ?_
  rintro v8 L8 ⟨M8, a8, c8, rfl, rfl, r8⟩
  change At _ _ _ [M8, R] _
  have s8 := r8.rsl
  refine op_assign (nxlf rfl) rfl rfl ?_
  refine At.opsNil ?_
  refine At.norm (hk_2 ?_)
  refine At.seq fun K3 hk_3 => ?_
  refine At.region ?_
  refine op_move (nxlf rfl) rfl rfl ?_
  refine op_move (nxlf rfl) rfl rfl ?_
  refine op_lenS (nxlf rfl) se34 rfl rfl ?_
  refine op_subI (nxlf rfl) rfl rfl (by omega) (by omega) rfl ?_
  refine op_make (nxla rfl) Try.underlying34 te5 rfl rfl (show _ = (((w - (bytesOf (v32 l)).length : Nat)) : Int) from by omega) (show _ = (((w - (bytesOf (v32 l)).length : Nat)) : Int) from by omega) (by omega) (by unfold maxLen; omega) rfl (fun N13 a13 r13 => ?_)
  rw [made_one _ _ rfl, zero_u8s] at r13
  have s13 := r13.rsl
  refine op_assign (nxlf rfl) rfl rfl ?_
  refine At.opsNil ?_
  refine At.norm (hk_3 ?_)
  refine At.seq fun K4 hk_4 => ?_
  refine At.region ?_
  refine op_move (nxlf rfl) rfl rfl ?_
  refine op_move (nxlf rfl) rfl rfl ?_
  refine op_append (nxl rfl) Try.underlying34 Try.underlying34 te5 rfl rfl r13 s8 (by first | exact mem0 | exact mem1 | exact mem2 | exact mem3 | exact mem4 | exact mem5 | exact mem6 | exact mem7 | exact mem8 | exact mem9) (by first | exact one_u8s _ | exact one_u64s _ | exact one_u32s _ | (intro u hu; simp at hu; subst hu; rfl)) (by omega) (by omega) sel0 rfl (fun N16 a16 p16 r16 => ?_)
  have s16 := r16.rsl
  refine op_assign (nxlf rfl) rfl rfl ?_
  refine At.opsNil ?_
  refine At.norm (hk_4 ?_)
  refine At.ret (?_)
  refine At.sub (L' := [N16, R]) (.cons_cons _ (.cons _ (.cons_cons _ (.slnil)))) ?_
  refine At.ret1 (L1 := [N16]) rfl (.tmp rfl .nil) (.refl _) (.refl _) ?_
  rw [show u8s (List.replicate (w - (bytesOf (v32 l)).length) 0) ++ u8s (bytesOf (v32 l)) = u8s (List.replicate (w - (bytesOf (v32 l)).length) 0 ++ bytesOf (v32 l)) by simp [u8s], bytesN_pad hV, show w - (bytesOf (v32 l)).length + (bytesOf (v32 l)).length = w by omega] at r16
  rw [show w - (bytesOf (v32 l)).length + (bytesOf (v32 l)).length = w by omega]
  exact ⟨N16, _, _, rfl, rfl, r16⟩
end Go.Proofs.Ytefljbbpaideaaa
/- The reference's less and back: the parts of a division. Condition: numbers of at most 2^40 digits. -/
namespace Go.Proofs.Ytefljbbpaideaaa
set_option linter.unusedVariables false
set_option linter.unusedSimpArgs false
open Go Go.RowKit
theorem less_round {w u v : List UInt32} {k q cy cy' bw bw' m : Nat} {d : UInt32} (hw : w.length = k) (hv : v32 w + q * v32 (v.take k) = v32 (u.take k) + (cy + bw) * 2 ^ (32 * k)) (hm : m = cy + q * (v.getD k 0).toNat) (hcy : cy' = m / 4294967296)
    (hd : d.toNat + (m % 4294967296 + bw) = (u.getD k 0).toNat + bw' * 4294967296) : v32 (w ++ [d]) + q * v32 (v.take (k + 1)) = v32 (u.take (k + 1)) + (cy' + bw') * 2 ^ (32 * (k + 1)) := by
  have h1 : cy + q * (v.getD k 0).toNat = m % 4294967296 + cy' * 4294967296 := by rw [hcy, Nat.mul_comm (m / 4294967296), Nat.mod_add_div, hm]
  clear hm hcy
  generalize m % 4294967296 = ml at *
  have h4 := congrArg (2 ^ (32 * k) * ·) h1
  have h5 := congrArg (2 ^ (32 * k) * ·) hd
  simp only [Nat.mul_add] at h4 h5
  rw [v32_snoc, hw, v32_take_succD, v32_take_succD, pow32, Nat.mul_add, Nat.add_mul]
  have e1 : q * (2 ^ (32 * k) * (v.getD k 0).toNat) = 2 ^ (32 * k) * (q * (v.getD k 0).toNat) := Nat.mul_left_comm ..
  have e2 : cy' * (2 ^ (32 * k) * 4294967296) = 2 ^ (32 * k) * (cy' * 4294967296) := by rw [Nat.mul_left_comm]
  have e3 : bw' * (2 ^ (32 * k) * 4294967296) = 2 ^ (32 * k) * (bw' * 4294967296) := by rw [Nat.mul_left_comm]
  rw [e1, e2, e3]
  rw [Nat.add_mul, Nat.mul_comm cy, Nat.mul_comm bw] at hv
  omega
theorem and32' (z : UInt64) : (z &&& 4294967295).toNat = z.toNat % 4294967296 := and32 z
def LessP (co : Option Addr) (nc cc : Nat) (pre u v post : List UInt32) (q : Nat) (r : Value) (L : List Heaplet) : Prop :=
  ∃ M x, ∃ bw : Nat, r = .bool (decide (bw = 1)) ∧ L = [M] ∧ Row M 65 1 co nc cc (u32s (pre ++ x ++ post)) ∧ x.length = u.length ∧ bw ≤ 1 ∧ v32 x + q * v32 v = v32 u + bw * 2 ^ (32 * u.length)
set_option maxRecDepth 100000 in
theorem less_f {Nc Nv : Heaplet} {co vo : Option Addr} {nc cc i n cv : Nat} {pre u post v : List UInt32} {q : UInt64} (rc : Row Nc 65 1 co nc cc (u32s (pre ++ u ++ post))) (hv : RSl Nv 1 vo n cv (u32s v)) (hp : pre.length = i) (hul : u.length = n + 1)
    (hn : n ≤ 1099511627776) (hi : i ≤ 1099511627776) (hq : q.toNat ≤ 4294967295) :
    Fn Try.prog 123 #[.slice co nc cc, .slice vo n cv, .int .i64 (i : Int), .int .u64 (q.toNat : Int)] [Nc] [Nv] (LessP co nc cc pre u v post q.toNat) := by
  have hcv := hv.cap63
  have hvl := hv.len32
  have hcl := rc.rsl.len32
  have hcn := rc.rsl.cap63
  rw [List.length_append, List.length_append, hp, hul] at hcl
  refine Fn.enter (vs := [.slice co nc cc, .slice vo n cv, .int .i64 (i : Int), .int .u64 (q.toNat : Int)]) Try.func123 rfl rfl rfl ?_
  intro E R hR
  have hv := hv.le (hR Nv (by simp))
  change At _ _ E [Nc, R] _
  refine At.seq fun K1 hk_1 => ?_
  refine At.region ?_
  refine op_assign (nxlf rfl) rfl rfl ?_
  refine At.opsNil ?_
  refine At.norm (hk_1 ?_)
  refine At.seq fun K2 hk_2 => ?_
  refine At.region ?_
  refine op_assign (nxlf rfl) rfl rfl ?_
  refine At.opsNil ?_
  refine At.norm (hk_2 ?_)
  refine At.seq fun K3 hk_3 => ?_
  refine At.region ?_
  refine op_assign (nxlf rfl) rfl rfl ?_
  refine At.opsNil ?_
  refine At.norm (hk_3 ?_)
  refine At.seq fun K4 hk_4 => ?_
  refine At.seq fun K5 hk_5 => ?_
  refine At.region ?_
  refine op_assign (nxlf rfl) rfl rfl ?_
  refine At.opsNil ?_
  refine At.norm (hk_5 ?_)
  refine At.block ?_
  refine At.loop (fun fr_ hp_ ms_ => ∃ (k : Nat) (w : List UInt32) (cy bw : UInt64) (Nc : Heaplet), fr_ = [(0, .slice co nc cc), (1, .slice vo n cv), (2, .int .i64 (i : Int)), (3, .int .u64 (q.toNat : Int)), (9, .int .u64 (cy.toNat : Int)), (10, .int .u64 (bw.toNat : Int)), (11, .int .i64 (k : Int))] ∧ hp_ = [Nc, R] ∧ n + 1 - k = ms_ ∧ (k ≤ n + 1) ∧ (w.length = k) ∧ (cy.toNat < 4294967296) ∧ (bw.toNat ≤ 1) ∧ (k = n + 1 → cy.toNat = 0) ∧ (v32 w + q.toNat * v32 (v.take k) = v32 (u.take k) + (cy.toNat + bw.toNat) * 2 ^ (32 * k)) ∧ (Row Nc 65 1 co nc cc (u32s (pre ++ (w ++ u.drop k) ++ post)))) ?_ (.refl _) ⟨0, [], 0, 0, Nc, rfl, rfl, rfl, by omega, rfl, by decide, by decide, by intro h; rfl, by simp [v32, n32, val], by simpa using rc⟩ ?_
  · exact .cons (by first | exact lkI rfl (by omega) | rfl) (.cons (by first | exact lkI rfl (by omega) | rfl) (.cons (by first | exact lkI rfl (by omega) | rfl) (.cons (by first | exact lkI rfl (by omega) | rfl) (.cons (by first | exact lkI rfl (by omega) | rfl) (.cons (by first | exact lkI rfl (by omega) | rfl) (.cons (by first | exact lkI rfl (by omega) | rfl) .nil))))))
  rintro _ _ _ ⟨k, w, cy, bw, Nc, rfl, rfl, rfl, hk, hw, hcy, hbw, hz0, hv2, rc⟩
  have hwl : (w ++ u.drop k).length = n + 1 := by rw [List.length_append, List.length_drop]; omega
  have hal : (pre ++ (w ++ u.drop k) ++ post).length = nc := by rw [List.length_append, List.length_append, hp, hwl]; exact hcl
  have sc := rc.rsl
  refine At.seq fun K6 hk_6 => ?_
  refine At.seq fun K7 hk_7 => ?_
  refine At.region ?_
  refine op_move (nxlf rfl) rfl rfl ?_
  refine op_move (nxlf rfl) rfl rfl ?_
  refine op_lenS (nxlf rfl) se38 rfl rfl ?_
  refine op_leq (nxlf rfl) rfl rfl rfl ?_
  refine At.opsNil ?_
  refine At.norm (hk_7 ?_)
  refine At.condP rfl (fun c18 => ?_) (fun c18 => ?_)
  · refine At.skip ?_
    refine At.norm (hk_6 ?_)
    refine At.seq fun K8 hk_8 => ?_
    refine At.block ?_
    refine At.seq fun K9 hk_9 => ?_
    refine At.region ?_
    refine op_move (nxlf rfl) rfl rfl ?_
    refine op_assign (nxlf rfl) rfl rfl ?_
    refine At.opsNil ?_
    refine At.norm (hk_9 ?_)
    refine At.seq fun K10 hk_10 => ?_
    refine At.meet (fun fr_ hp_ => ∃ (m : UInt64), fr_ = [(0, .slice co nc cc), (1, .slice vo n cv), (2, .int .i64 (i : Int)), (3, .int .u64 (q.toNat : Int)), (10, .int .u64 (bw.toNat : Int)), (11, .int .i64 (k : Int)), (12, .int .u64 (m.toNat : Int))] ∧ hp_ = [Nc, R] ∧ (m.toNat = cy.toNat + q.toNat * (v.getD k 0).toNat)) ?_ (fun K10_ jk_10 => ?_)
    rotate_left
    · skip
      refine At.seq fun K11 hk_11 => ?_
      refine At.region ?_
      refine op_move (nxlf rfl) rfl rfl ?_
      refine op_move (nxlf rfl) rfl rfl ?_
      refine op_lenS (nxlf rfl) se38 rfl rfl ?_
      refine op_lss (nxlf rfl) rfl rfl rfl ?_
      refine At.opsNil ?_
      refine At.norm (hk_11 ?_)
      refine At.condP rfl (fun c25 => ?_) (fun c25 => ?_)
      · refine At.region ?_
        refine op_move (nxlf rfl) rfl rfl ?_
        refine op_move (nxlf rfl) rfl rfl ?_
        refine op_move (nxlf rfl) rfl rfl ?_
        refine op_move (nxlf rfl) rfl rfl ?_
        refine op_idx1 (nxlf rfl) se38 rfl rfl hv (show _ = (((k : Nat)) : Int) from by omega) (by omega) rfl ?_
        refine op_loadE (nxlf rfl) sc65 rfl hv (by first | exact get8 (by omega) | exact get64 (by omega) | exact get32 (by omega)) (by first | exact mem0 | exact mem1 | exact mem2 | exact mem3 | exact mem4 | exact mem5 | exact mem6 | exact mem7 | exact mem8 | exact mem9) rfl ?_
        refine op_conv64 (nxlf rfl) (und_some Try.underlying65) Try.underlying22 rfl (by first | rfl | exact (Int.toNat_of_nonneg (by omega)).symm) rfl ?_
        refine op_mulU (nxlf rfl) rfl rfl rfl ?_
        refine op_addU (nxlf rfl) rfl rfl rfl ?_
        have hbk := dlt v k
        obtain ⟨p1, p2⟩ := mul64n (a := q) (b := UInt64.ofNat (v.getD k 0).toNat) hq (by rw [of32]; exact hbk)
        rw [of32] at p1 p2
        refine op_assign (nxlf rfl) rfl rfl ?_
        refine At.opsNil ?_
        refine At.norm (jk_10 ?_ (.refl _) ⟨cy + q * UInt64.ofNat (v.getD k 0).toNat, rfl, rfl, by rw [add64n (by rw [p1]; omega), p1]⟩)
        exact .cons (by first | exact lkI rfl (by omega) | rfl) (.cons (by first | exact lkI rfl (by omega) | rfl) (.cons (by first | exact lkI rfl (by omega) | rfl) (.cons (by first | exact lkI rfl (by omega) | rfl) (.cons (by first | exact lkI rfl (by omega) | rfl) (.cons (by first | exact lkI rfl (by omega) | rfl) (.cons (by first | exact lkI rfl (by omega) | rfl) .nil))))))
      · have hz : (v.getD k 0).toNat = 0 := by rw [getD_big (by omega)]; rfl
        refine At.skip ?_
        refine At.norm (jk_10 ?_ (.refl _) ⟨cy, rfl, rfl, by rw [hz]; omega⟩)
        exact .cons (by first | exact lkI rfl (by omega) | rfl) (.cons (by first | exact lkI rfl (by omega) | rfl) (.cons (by first | exact lkI rfl (by omega) | rfl) (.cons (by first | exact lkI rfl (by omega) | rfl) (.cons (by first | exact lkI rfl (by omega) | rfl) (.cons (by first | exact lkI rfl (by omega) | rfl) (.cons (by first | exact lkI rfl (by omega) | rfl) .nil))))))
    rintro _ _ ⟨m, rfl, rfl, hm⟩
    refine hk_10 ?_
    refine At.seq fun K12 hk_12 => ?_
    refine At.region ?_
    refine op_move (nxlf rfl) rfl rfl ?_
    refine op_shrU (nxlf rfl) rfl rfl (show _ = ((32 : Nat) : Int) from rfl) rfl ?_
    refine op_assign (nxlf rfl) rfl rfl ?_
    refine At.opsNil ?_
    refine At.norm (hk_12 ?_)
    refine At.seq fun K13 hk_13 => ?_
    refine At.region ?_
    refine op_move (nxlf rfl) rfl rfl ?_
    refine op_andU (b := 4294967295) (nxlf rfl) rfl rfl rfl ?_
    refine op_move (nxlf rfl) rfl rfl ?_
    refine op_addU (nxlf rfl) rfl rfl rfl ?_
    have hsh : (shr64 m 32).toNat = m.toNat / 4294967296 := shr32n m
    have hz' : k + 1 = n + 1 → (shr64 m 32).toNat = 0 := fun h => by
      rw [hsh, hm, getD_big (show v.length ≤ k by omega)]
      show (cy.toNat + q.toNat * 0) / 4294967296 = 0
      rw [Nat.mul_zero]; omega
    have hs : ((m &&& 4294967295) + bw).toNat = m.toNat % 4294967296 + bw.toNat := by rw [add64n (by rw [and32]; omega), and32]
    generalize (m &&& 4294967295) + bw = s at *
    refine op_assign (nxlf rfl) rfl rfl ?_
    refine At.opsNil ?_
    refine At.norm (hk_13 ?_)
    refine At.seq fun K14 hk_14 => ?_
    refine At.region ?_
    refine op_move (nxlf rfl) rfl rfl ?_
    refine op_move (nxlf rfl) rfl rfl ?_
    refine op_move (nxlf rfl) rfl rfl ?_
    refine op_addI (nxlf rfl) rfl rfl (by omega) (by omega) rfl ?_
    refine op_idx1 (nxlf rfl) se38 rfl rfl sc (show _ = (((i + k : Nat)) : Int) from by omega) (by omega) rfl ?_
    refine op_loadE (nxlf rfl) sc65 rfl sc (by first | exact get8 (by omega) | exact get64 (by omega) | exact get32 (by omega)) (by first | exact mem0 | exact mem1 | exact mem2 | exact mem3 | exact mem4 | exact mem5 | exact mem6 | exact mem7 | exact mem8 | exact mem9) rfl ?_
    rw [show (pre ++ (w ++ u.drop k) ++ post).getD (i + k) 0 = u.getD k 0 by rw [List.append_assoc, getD_right hp, getD_app (show k < (w ++ u.drop k).length by omega), getD_drop hw (by omega)]]
    refine op_conv64 (nxlf rfl) (und_some Try.underlying65) Try.underlying22 rfl (by first | rfl | exact (Int.toNat_of_nonneg (by omega)).symm) rfl ?_
    have hx0 := of32 (u.getD k 0)
    have huk := dlt u k
    generalize UInt64.ofNat (u.getD k 0).toNat = x0 at *
    refine op_assign (nxlf rfl) rfl rfl ?_
    refine At.opsNil ?_
    refine At.norm (hk_14 ?_)
    refine At.seq fun K15 hk_15 => ?_
    refine At.region ?_
    refine op_assign (nxlf rfl) rfl rfl ?_
    refine At.opsNil ?_
    refine At.norm (hk_15 ?_)
    refine At.seq fun K16 hk_16 => ?_
    refine At.meet (fun fr_ hp_ => ∃ (x bw' : UInt64), fr_ = [(0, .slice co nc cc), (1, .slice vo n cv), (2, .int .i64 (i : Int)), (3, .int .u64 (q.toNat : Int)), (9, .int .u64 ((shr64 m 32).toNat : Int)), (10, .int .u64 (bw'.toNat : Int)), (11, .int .i64 (k : Int)), (13, .int .u64 (s.toNat : Int)), (14, .int .u64 (x.toNat : Int))] ∧ hp_ = [Nc, R] ∧ (x.toNat = (u.getD k 0).toNat + bw'.toNat * 4294967296) ∧ (s.toNat ≤ x.toNat ∧ x.toNat - s.toNat < 4294967296) ∧ (bw'.toNat ≤ 1)) ?_ (fun K16_ jk_16 => ?_)
    rotate_left
    · skip
      refine At.seq fun K17 hk_17 => ?_
      refine At.region ?_
      refine op_move (nxlf rfl) rfl rfl ?_
      refine op_move (nxlf rfl) rfl rfl ?_
      refine op_lss (nxlf rfl) rfl rfl rfl ?_
      refine At.opsNil ?_
      refine At.norm (hk_17 ?_)
      refine At.condP rfl (fun c50 => ?_) (fun c50 => ?_)
      · refine At.seq fun K18 hk_18 => ?_
        refine At.region ?_
        refine op_move (nxlf rfl) rfl rfl ?_
        refine op_addU (b := 4294967296) (nxlf rfl) rfl rfl rfl ?_
        refine op_assign (nxlf rfl) rfl rfl ?_
        refine At.opsNil ?_
        refine At.norm (hk_18 ?_)
        refine At.region ?_
        refine op_assign (nxlf rfl) rfl rfl ?_
        refine At.opsNil ?_
        refine At.norm (jk_16 ?_ (.refl _) ⟨x0 + 4294967296, 1, rfl, rfl, by rw [add64n (by show x0.toNat + 4294967296 < _; omega)]; show x0.toNat + 4294967296 = _ + 1 * 4294967296; omega, by rw [add64n (by show x0.toNat + 4294967296 < _; omega)]; show s.toNat ≤ x0.toNat + 4294967296 ∧ x0.toNat + 4294967296 - s.toNat < 4294967296; omega, by decide⟩)
        exact .cons (by first | exact lkI rfl (by omega) | rfl) (.cons (by first | exact lkI rfl (by omega) | rfl) (.cons (by first | exact lkI rfl (by omega) | rfl) (.cons (by first | exact lkI rfl (by omega) | rfl) (.cons (by first | exact lkI rfl (by omega) | rfl) (.cons (by first | exact lkI rfl (by omega) | rfl) (.cons (by first | exact lkI rfl (by omega) | rfl) (.cons (by first | exact lkI rfl (by omega) | rfl) (.cons (by first | exact lkI rfl (by omega) | rfl) .nil))))))))
      · refine At.skip ?_
        refine At.norm (jk_16 ?_ (.refl _) ⟨x0, 0, rfl, rfl, by show _ = _ + 0 * 4294967296; omega, by omega, by decide⟩)
        exact .cons (by first | exact lkI rfl (by omega) | rfl) (.cons (by first | exact lkI rfl (by omega) | rfl) (.cons (by first | exact lkI rfl (by omega) | rfl) (.cons (by first | exact lkI rfl (by omega) | rfl) (.cons (by first | exact lkI rfl (by omega) | rfl) (.cons (by first | exact lkI rfl (by omega) | rfl) (.cons (by first | exact lkI rfl (by omega) | rfl) (.cons (by first | exact lkI rfl (by omega) | rfl) (.cons (by first | exact lkI rfl (by omega) | rfl) .nil))))))))
    rintro _ _ ⟨x, bw', rfl, rfl, hx, hxs, hbw'⟩
    refine hk_16 ?_
    refine At.region ?_
    refine op_move (nxlf rfl) rfl rfl ?_
    refine op_move (nxlf rfl) rfl rfl ?_
    refine op_move (nxlf rfl) rfl rfl ?_
    refine op_addI (nxlf rfl) rfl rfl (by omega) (by omega) rfl ?_
    refine op_move (nxlf rfl) rfl rfl ?_
    refine op_move (nxlf rfl) rfl rfl ?_
    refine op_subU (nxlf rfl) rfl rfl rfl ?_
    refine op_conv32 (nxlf rfl) (und_some Try.underlying22) Try.underlying65 rfl (by first | rfl | exact (Int.toNat_of_nonneg (by omega)).symm) rfl ?_
    refine op_idx1 (nxlf rfl) se38 rfl rfl sc (show _ = (((i + k : Nat)) : Int) from by omega) (by omega) rfl ?_
    refine op_storeE (nxl rfl) sz65 rfl rfl rfl rfl rfl rc (by simp [u32s]; omega) (by simp) sel0 (fun Nc rc => ?_)
    simp only [setL] at rc
    rw [set_u32s, win_set hp (show k < (w ++ u.drop k).length by omega), set_drop hw (show k < u.length by omega)] at rc
    change Row Nc _ 1 co nc cc (u32s (pre ++ (w ++ [lo32 (x - s)] ++ u.drop (k + 1)) ++ post)) at rc
    have sc := rc.rsl
    refine At.opsNil ?_
    refine At.inNorm ?_
    refine At.norm (hk_8 ?_)
    refine At.region ?_
    refine op_move (nxlf rfl) rfl rfl ?_
    refine op_addI (nxlf rfl) rfl rfl (by omega) (by omega) rfl ?_
    refine op_assign (nxlf rfl) rfl rfl ?_
    refine At.opsNil ?_
    refine At.norm ?_
    refine At.back ?_ (.refl _) ⟨k + 1, w ++ [lo32 (x - s)], shr64 m 32, bw', Nc, rfl, rfl, rfl, by omega, by simp; omega, carry_lt, hbw', hz', less_round hw hv2 hm hsh (by rw [lo32_nat, sub64n (by omega)]; omega), rc⟩ ?_
    · exact .cons (by first | exact lkI rfl (by omega) | rfl) (.cons (by first | exact lkI rfl (by omega) | rfl) (.cons (by first | exact lkI rfl (by omega) | rfl) (.cons (by first | exact lkI rfl (by omega) | rfl) (.cons (by first | exact lkI rfl (by omega) | rfl) (.cons (by first | exact lkI rfl (by omega) | rfl) (.cons (by first | exact lkI rfl (by omega) | rfl) .nil))))))
    · omega
  · refine At.exit (At.thenExit (At.thenExit (At.inHit ?_)))
    refine At.norm (hk_4 ?_)
    refine At.seq fun K19 hk_19 => ?_
    refine At.region ?_
    refine op_move (nxlf rfl) rfl rfl ?_
    refine op_eql (nxlf rfl) rfl rfl rfl ?_
    refine op_assign (nxlf rfl) rfl rfl ?_
    refine At.opsNil ?_
    refine At.norm (hk_19 ?_)
    refine At.ret (?_)
    refine At.ret1 (L1 := [Nc]) rfl (.tmp rfl .nil) (.refl _) (.refl _) ?_
    have hkn : k = n + 1 := by omega
    rw [hkn, v32_take_all (by omega), v32_take_all (by omega), hz0 hkn, Nat.zero_add] at hv2
    rw [hkn, List.drop_of_length_le (by omega), List.append_nil] at rc
    exact ⟨Nc, w, bw.toNat, by congr 1; rw [decide_eq_decide]; show ((bw.toNat : Int) = 1) ↔ _; omega, rfl, rc, by omega, hbw, by rw [hul]; exact hv2⟩
def BackP (co : Option Addr) (nc cc : Nat) (pre u v post : List UInt32) (r : Value) (L : List Heaplet) : Prop :=
  ∃ M x, ∃ c : Nat, r = .tuple #[] ∧ L = [M] ∧ Row M 65 1 co nc cc (u32s (pre ++ x ++ post)) ∧ x.length = u.length ∧ c ≤ 1 ∧ v32 x + c * 2 ^ (32 * u.length) = v32 u + v32 v ∧ ((u.getD v.length 0).toNat ≤ (x.getD v.length 0).toNat ↔ c = 0)
set_option maxRecDepth 100000 in
theorem back_f {Nc Nv : Heaplet} {co vo : Option Addr} {nc cc i n cv : Nat} {pre u post v : List UInt32} (rc : Row Nc 65 1 co nc cc (u32s (pre ++ u ++ post))) (hv : RSl Nv 1 vo n cv (u32s v)) (hp : pre.length = i) (hul : u.length = n + 1)
    (hn : n ≤ 1099511627776) (hi : i ≤ 1099511627776) :
    Fn Try.prog 124 #[.slice co nc cc, .slice vo n cv, .int .i64 (i : Int)] [Nc] [Nv] (BackP co nc cc pre u v post) := by
  have hcv := hv.cap63
  have hvl := hv.len32
  have hcl := rc.rsl.len32
  have hcn := rc.rsl.cap63
  rw [List.length_append, List.length_append, hp, hul] at hcl
  refine Fn.enter (vs := [.slice co nc cc, .slice vo n cv, .int .i64 (i : Int)]) Try.func124 rfl rfl rfl ?_
  intro E R hR
  have hv := hv.le (hR Nv (by simp))
  change At _ _ E [Nc, R] _
  refine At.seq fun K1 hk_1 => ?_
  refine At.region ?_
  refine op_assign (nxlf rfl) rfl rfl ?_
  refine At.opsNil ?_
  refine At.norm (hk_1 ?_)
  refine At.seq fun K2 hk_2 => ?_
  refine At.region ?_
  refine op_assign (nxlf rfl) rfl rfl ?_
  refine At.opsNil ?_
  refine At.norm (hk_2 ?_)
  refine At.block ?_
  refine At.loop (fun fr_ hp_ ms_ => ∃ (k : Nat) (w : List UInt32) (cy : UInt64) (Nc : Heaplet), fr_ = [(0, .slice co nc cc), (1, .slice vo n cv), (2, .int .i64 (i : Int)), (6, .int .u64 (cy.toNat : Int)), (7, .int .i64 (k : Int))] ∧ hp_ = [Nc, R] ∧ n + 1 - k = ms_ ∧ (k ≤ n + 1) ∧ (w.length = k) ∧ (cy.toNat ≤ 1) ∧ (k = n + 1 → ((u.getD n 0).toNat ≤ (w.getD n 0).toNat ↔ cy.toNat = 0)) ∧ (v32 w + cy.toNat * 2 ^ (32 * k) = v32 (u.take k) + v32 (v.take k)) ∧ (Row Nc 65 1 co nc cc (u32s (pre ++ (w ++ u.drop k) ++ post)))) ?_ (.refl _) ⟨0, [], 0, Nc, rfl, rfl, rfl, by omega, rfl, by decide, by intro h; omega, by simp [v32, n32, val], by simpa using rc⟩ ?_
  · exact .cons (by first | exact lkI rfl (by omega) | rfl) (.cons (by first | exact lkI rfl (by omega) | rfl) (.cons (by first | exact lkI rfl (by omega) | rfl) (.cons (by first | exact lkI rfl (by omega) | rfl) (.cons (by first | exact lkI rfl (by omega) | rfl) .nil))))
  rintro _ _ _ ⟨k, w, cy, Nc, rfl, rfl, rfl, hk, hw, hcy, htop, hv2, rc⟩
  have hwl : (w ++ u.drop k).length = n + 1 := by rw [List.length_append, List.length_drop]; omega
  have hal : (pre ++ (w ++ u.drop k) ++ post).length = nc := by rw [List.length_append, List.length_append, hp, hwl]; exact hcl
  have sc := rc.rsl
  have huk := dlt u k
  have hbk := dlt v k
  refine At.seq fun K3 hk_3 => ?_
  refine At.seq fun K4 hk_4 => ?_
  refine At.region ?_
  refine op_move (nxlf rfl) rfl rfl ?_
  refine op_move (nxlf rfl) rfl rfl ?_
  refine op_lenS (nxlf rfl) se38 rfl rfl ?_
  refine op_leq (nxlf rfl) rfl rfl rfl ?_
  refine At.opsNil ?_
  refine At.norm (hk_4 ?_)
  refine At.condP rfl (fun c12 => ?_) (fun c12 => ?_)
  · refine At.skip ?_
    refine At.norm (hk_3 ?_)
    refine At.seq fun K5 hk_5 => ?_
    refine At.block ?_
    refine At.seq fun K6 hk_6 => ?_
    refine At.region ?_
    refine op_move (nxlf rfl) rfl rfl ?_
    refine op_move (nxlf rfl) rfl rfl ?_
    refine op_move (nxlf rfl) rfl rfl ?_
    refine op_addI (nxlf rfl) rfl rfl (by omega) (by omega) rfl ?_
    refine op_idx1 (nxlf rfl) se38 rfl rfl sc (show _ = (((i + k : Nat)) : Int) from by omega) (by omega) rfl ?_
    refine op_loadE (nxlf rfl) sc65 rfl sc (by first | exact get8 (by omega) | exact get64 (by omega) | exact get32 (by omega)) (by first | exact mem0 | exact mem1 | exact mem2 | exact mem3 | exact mem4 | exact mem5 | exact mem6 | exact mem7 | exact mem8 | exact mem9) rfl ?_
    rw [show (pre ++ (w ++ u.drop k) ++ post).getD (i + k) 0 = u.getD k 0 by rw [List.append_assoc, getD_right hp, getD_app (show k < (w ++ u.drop k).length by omega), getD_drop hw (by omega)]]
    refine op_conv64 (nxlf rfl) (und_some Try.underlying65) Try.underlying22 rfl (by first | rfl | exact (Int.toNat_of_nonneg (by omega)).symm) rfl ?_
    refine op_move (nxlf rfl) rfl rfl ?_
    refine op_addU (nxlf rfl) rfl rfl rfl ?_
    have hs1 : (UInt64.ofNat (u.getD k 0).toNat + cy).toNat = (u.getD k 0).toNat + cy.toNat := by rw [add64n (by rw [of32]; omega), of32]
    generalize UInt64.ofNat (u.getD k 0).toNat + cy = s1 at *
    refine op_assign (nxlf rfl) rfl rfl ?_
    refine At.opsNil ?_
    refine At.norm (hk_6 ?_)
    refine At.seq fun K7 hk_7 => ?_
    refine At.meet (fun fr_ hp_ => ∃ (s2 : UInt64), fr_ = [(0, .slice co nc cc), (1, .slice vo n cv), (2, .int .i64 (i : Int)), (7, .int .i64 (k : Int)), (8, .int .u64 (s2.toNat : Int))] ∧ hp_ = [Nc, R] ∧ (s2.toNat = s1.toNat + (v.getD k 0).toNat)) ?_ (fun K7_ jk_7 => ?_)
    rotate_left
    · skip
      refine At.seq fun K8 hk_8 => ?_
      refine At.region ?_
      refine op_move (nxlf rfl) rfl rfl ?_
      refine op_move (nxlf rfl) rfl rfl ?_
      refine op_lenS (nxlf rfl) se38 rfl rfl ?_
      refine op_lss (nxlf rfl) rfl rfl rfl ?_
      refine At.opsNil ?_
      refine At.norm (hk_8 ?_)
      refine At.condP rfl (fun c27 => ?_) (fun c27 => ?_)
      · refine At.region ?_
        refine op_move (nxlf rfl) rfl rfl ?_
        refine op_move (nxlf rfl) rfl rfl ?_
        refine op_move (nxlf rfl) rfl rfl ?_
        refine op_idx1 (nxlf rfl) se38 rfl rfl hv (show _ = (((k : Nat)) : Int) from by omega) (by omega) rfl ?_
        refine op_loadE (nxlf rfl) sc65 rfl hv (by first | exact get8 (by omega) | exact get64 (by omega) | exact get32 (by omega)) (by first | exact mem0 | exact mem1 | exact mem2 | exact mem3 | exact mem4 | exact mem5 | exact mem6 | exact mem7 | exact mem8 | exact mem9) rfl ?_
        refine op_conv64 (nxlf rfl) (und_some Try.underlying65) Try.underlying22 rfl (by first | rfl | exact (Int.toNat_of_nonneg (by omega)).symm) rfl ?_
        refine op_addU (nxlf rfl) rfl rfl rfl ?_
        refine op_assign (nxlf rfl) rfl rfl ?_
        refine At.opsNil ?_
        refine At.norm (jk_7 ?_ (.refl _) ⟨s1 + UInt64.ofNat (v.getD k 0).toNat, rfl, rfl, by rw [add64n (by rw [of32]; omega), of32]⟩)
        exact .cons (by first | exact lkI rfl (by omega) | rfl) (.cons (by first | exact lkI rfl (by omega) | rfl) (.cons (by first | exact lkI rfl (by omega) | rfl) (.cons (by first | exact lkI rfl (by omega) | rfl) (.cons (by first | exact lkI rfl (by omega) | rfl) .nil))))
      · have hz : (v.getD k 0).toNat = 0 := by rw [getD_big (by omega)]; rfl
        refine At.skip ?_
        refine At.norm (jk_7 ?_ (.refl _) ⟨s1, rfl, rfl, by omega⟩)
        exact .cons (by first | exact lkI rfl (by omega) | rfl) (.cons (by first | exact lkI rfl (by omega) | rfl) (.cons (by first | exact lkI rfl (by omega) | rfl) (.cons (by first | exact lkI rfl (by omega) | rfl) (.cons (by first | exact lkI rfl (by omega) | rfl) .nil))))
    rintro _ _ ⟨s2, rfl, rfl, hs2⟩
    refine hk_7 ?_
    refine At.seq fun K9 hk_9 => ?_
    refine At.region ?_
    refine op_move (nxlf rfl) rfl rfl ?_
    refine op_move (nxlf rfl) rfl rfl ?_
    refine op_move (nxlf rfl) rfl rfl ?_
    refine op_addI (nxlf rfl) rfl rfl (by omega) (by omega) rfl ?_
    refine op_move (nxlf rfl) rfl rfl ?_
    refine op_conv32 (nxlf rfl) (und_some Try.underlying22) Try.underlying65 rfl (by first | rfl | exact (Int.toNat_of_nonneg (by omega)).symm) rfl ?_
    refine op_idx1 (nxlf rfl) se38 rfl rfl sc (show _ = (((i + k : Nat)) : Int) from by omega) (by omega) rfl ?_
    refine op_storeE (nxl rfl) sz65 rfl rfl rfl rfl rfl rc (by simp [u32s]; omega) (by simp) sel0 (fun Nc rc => ?_)
    simp only [setL] at rc
    rw [set_u32s, win_set hp (show k < (w ++ u.drop k).length by omega), set_drop hw (show k < u.length by omega)] at rc
    change Row Nc _ 1 co nc cc (u32s (pre ++ (w ++ [lo32 s2] ++ u.drop (k + 1)) ++ post)) at rc
    have sc := rc.rsl
    refine At.opsNil ?_
    refine At.norm (hk_9 ?_)
    refine At.region ?_
    refine op_move (nxlf rfl) rfl rfl ?_
    refine op_shrU (nxlf rfl) rfl rfl (show _ = ((32 : Nat) : Int) from rfl) rfl ?_
    have htop' : k + 1 = n + 1 → ((u.getD n 0).toNat ≤ ((w ++ [lo32 s2]).getD n 0).toNat ↔ (shr64 s2 32).toNat = 0) := fun h => by
      have hkn : k = n := by omega
      subst hkn
      rw [getD_mid hw, lo32_nat, shr32n, hs2, hs1, getD_big (show v.length ≤ k by omega)]
      show (u.getD k 0).toNat ≤ ((u.getD k 0).toNat + cy.toNat + 0) % 4294967296 ↔ ((u.getD k 0).toNat + cy.toNat + 0) / 4294967296 = 0
      omega
    refine op_assign (nxlf rfl) rfl rfl ?_
    refine At.opsNil ?_
    refine At.inNorm ?_
    refine At.norm (hk_5 ?_)
    refine At.region ?_
    refine op_move (nxlf rfl) rfl rfl ?_
    refine op_addI (nxlf rfl) rfl rfl (by omega) (by omega) rfl ?_
    refine op_assign (nxlf rfl) rfl rfl ?_
    refine At.opsNil ?_
    refine At.norm ?_
    refine At.back ?_ (.refl _) ⟨k + 1, w ++ [lo32 s2], shr64 s2 32, Nc, rfl, rfl, rfl, by omega, by simp; omega, by rw [shr32n]; omega, htop', add_round32 hw hv2 (by omega), rc⟩ ?_
    · exact .cons (by first | exact lkI rfl (by omega) | rfl) (.cons (by first | exact lkI rfl (by omega) | rfl) (.cons (by first | exact lkI rfl (by omega) | rfl) (.cons (by first | exact lkI rfl (by omega) | rfl) (.cons (by first | exact lkI rfl (by omega) | rfl) .nil))))
    · omega
  · refine At.exit (At.thenExit (At.thenExit (At.inHit ?_)))
    refine At.retNE (L1 := [Nc]) rfl .nil rfl (.refl _) (.refl _) ?_
    have hkn : k = n + 1 := by omega
    have ht := htop hkn
    rw [hkn, v32_take_all (by omega), v32_take_all (by omega)] at hv2
    rw [hkn, List.drop_of_length_le (by omega), List.append_nil] at rc
    exact ⟨Nc, w, cy.toNat, rfl, rfl, rc, by omega, hcy, by rw [hul]; exact hv2, by rw [hvl]; exact ht⟩
end Go.Proofs.Ytefljbbpaideaaa
