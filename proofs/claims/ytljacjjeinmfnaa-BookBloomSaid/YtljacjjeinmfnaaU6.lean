/- Several texts in one: see the remarks ahead of each part. No condition but those told there. -/
import Derived.Test.YtljacjjeinmfnaaU5
/- Plain laws: words built by or, place by place. No condition. -/
namespace Go.Proofs.Ytljacjjeinmfnaa
set_option linter.unusedVariables false
set_option linter.unusedSimpArgs false
theorem or_set64 {a : List UInt64} {q s w x : Nat} (hq : q < a.length) (hs : v64 a < 2 ^ (64 * q + s)) (hx : x < 2 ^ w) (hw : s + w ≤ 64) :
    v64 (a.set q (a.getD q 0 ||| UInt64.ofNat (x * 2 ^ s))) = v64 a + x * 2 ^ (64 * q + s) := by
  have hset := v64_set (a := a) (i := q) (y := a.getD q 0 ||| UInt64.ofNat (x * 2 ^ s)) hq
  have hdig := limb_v64 hq
  have hL : a[q].toNat < 2 ^ s := by
    rw [← hdig]
    refine Nat.lt_of_le_of_lt (Nat.mod_le _ _) ?_
    rw [Nat.div_lt_iff_lt_mul (Nat.pow_pos (by decide)), ← Nat.pow_add]
    rwa [Nat.add_comm s]
  have hc : x * 2 ^ s < 2 ^ 64 := by
    refine Nat.lt_of_lt_of_le (Nat.mul_lt_mul_of_pos_right hx (Nat.pow_pos (by decide))) ?_
    rw [← Nat.pow_add]
    exact Nat.pow_le_pow_right (by decide) (by omega)
  have hor : (a.getD q 0 ||| UInt64.ofNat (x * 2 ^ s)).toNat = a[q].toNat + x * 2 ^ s := by
    rw [List.getD_eq_getElem?_getD, List.getElem?_eq_getElem hq, Option.getD_some, UInt64.toNat_or, UInt64.toNat_ofNat', Nat.mod_eq_of_lt hc, Nat.or_comm, nat_join s _ _ (Nat.mul_mod_left _ _) hL, Nat.add_comm]
  rw [hor, Nat.add_mul, Nat.mul_assoc, ← Nat.pow_add, Nat.add_comm s] at hset
  omega
theorem v32_take_succ {l : List UInt32} {k : Nat} (h : k < l.length) : v32 (l.take (k + 1)) = v32 (l.take k) + (l.getD k 0).toNat * 2 ^ (32 * k) := by
  rw [List.take_succ_eq_append_getElem h, v32_append, List.length_take, Nat.min_eq_left (by omega), List.getD_eq_getElem?_getD, List.getElem?_eq_getElem h]
  simp only [v32, n32, val, List.map_cons, List.map_nil, Option.getD_some, Nat.mul_zero, Nat.add_zero]
  rw [Nat.mul_comm (2 ^ (32 * k))]
theorem v32_take_lt (l : List UInt32) (k : Nat) : v32 (l.take k) < 2 ^ (32 * k) := by
  refine Nat.lt_of_lt_of_le (v32_lt _) (Nat.pow_le_pow_right (by decide) ?_)
  have := List.length_take_le k l
  omega
theorem v32_take_mod (l : List UInt32) (k : Nat) : v32 (l.take k) = v32 l % 2 ^ (32 * k) := by
  have h := v32_take_lt l k
  by_cases hk : k ≤ l.length
  · have e : v32 l = v32 (l.take k) + 2 ^ (32 * k) * v32 (l.drop k) := by
      conv => lhs; rw [← List.take_append_drop k l]
      rw [v32_append, List.length_take, Nat.min_eq_left hk]
    rw [e, Nat.add_mul_mod_self_left, Nat.mod_eq_of_lt h]
  · rw [List.take_of_length_le (by omega)] at h ⊢
    rw [Nat.mod_eq_of_lt h]
/-- One round of W: the digit's place. -/
theorem w_step {m : List UInt64} {l : List UInt32} {k : Nat} (hm : m.length = 4) (hv : v64 m = v32 (l.take k)) (hk : k < 8) (hl : k < l.length) :
    v64 (m.set (k / 2) (m.getD (k / 2) 0 ||| UInt64.ofNat ((l.getD k 0).toNat * 2 ^ (32 * (k % 2))))) = v32 (l.take (k + 1)) := by
  have hx := (l.getD k 0).toNat_lt
  have e : 64 * (k / 2) + 32 * (k % 2) = 32 * k := by omega
  rw [or_set64 (w := 32) (by omega) (by rw [hv, e]; exact v32_take_lt l k) hx (by omega), e, hv, v32_take_succ hl]
theorem shl64_of (x : Nat) (hx : x < 2 ^ 64) (m : Nat) : shl64 (UInt64.ofNat x) m = UInt64.ofNat (x * 2 ^ m) := by
  unfold shl64
  rw [UInt64.toNat_ofNat', Nat.mod_eq_of_lt hx]
theorem shl32_of (x : Nat) (hx : x < 2 ^ 32) (m : Nat) : shl32 (UInt32.ofNat x) m = UInt32.ofNat (x * 2 ^ m) := by
  unfold shl32
  rw [UInt32.toNat_ofNat', Nat.mod_eq_of_lt hx]
end Go.Proofs.Ytljacjjeinmfnaa
/- quarryref02's From, Cmp; quarryref01's W. No condition but that bytes are not more than a machine holds. -/
namespace Go.Proofs.Ytljacjjeinmfnaa
set_option linter.unusedVariables false
set_option linter.unusedSimpArgs false
open Go Go.RowKit
theorem ofNat_shl32 (x : UInt8) (m : Nat) : shl32 (UInt32.ofNat x.toNat) m = UInt32.ofNat (x.toNat * 2 ^ m) := shl32_of _ (by have := x.toNat_lt; omega) m
theorem rFrom_f {N : Heaplet} {ao : Option Addr} {n cap : Nat} {l : List UInt8} (h : RSl N 1 ao n cap (u8s l)) (hn : n ≤ 140737488351232) :
    Fn Try.prog 120 #[.slice ao n cap] [] [N] (fun v L => ∃ M a c, v = .slice a (digsOf (be l)).length c ∧ L = [M] ∧ RSl M 1 a (digsOf (be l)).length c (u32s (digsOf (be l)))) := by
  have hlen := h.len8
  have hcap := h.cap63
  refine Fn.enter (vs := [.slice ao n cap]) Try.func120 rfl rfl rfl ?_
  intro E R hR
  have h := h.le (hR N (by simp))
  change At _ _ E [R] _
  refine At.seq fun K1 hk_1 => ?_
  refine At.region ?_
  refine op_assign (nxlf rfl) rfl rfl ?_
  refine At.opsNil ?_
  refine At.norm (hk_1 ?_)
  refine At.seq fun K2 hk_2 => ?_
  refine At.region ?_
  refine op_move (nxlf rfl) rfl rfl ?_
  refine op_lenS (nxlf rfl) se27 rfl rfl ?_
  refine op_addI (nxlf rfl) rfl rfl (by omega) (by omega) rfl ?_
  refine op_quoI (nxlf rfl) rfl rfl (by omega) (by omega) (by omega) rfl ?_
  refine op_make (nxla rfl) Try.underlying148 te193 rfl rfl (show _ = ((((n + 3) / 4 : Nat)) : Int) from by omega) (show _ = ((((n + 3) / 4 : Nat)) : Int) from by omega) (by omega) (by unfold maxLen; omega) rfl (fun N10 a10 r10 => ?_)
  rw [made_one _ _ rfl, zero_u32s] at r10
  have s10 := r10.rsl
  refine op_assign (nxlf rfl) rfl rfl ?_
  refine At.opsNil ?_
  refine At.norm (hk_2 ?_)
  refine At.seq fun K3 hk_3 => ?_
  refine At.seq fun K4 hk_4 => ?_
  refine At.region ?_
  refine op_assign (nxlf rfl) rfl rfl ?_
  refine At.opsNil ?_
  refine At.norm (hk_4 ?_)
  refine At.block ?_
  refine At.loop (fun fr_ hp_ ms_ => ∃ (k : Nat) (Nq : Heaplet), fr_ = [(0, .slice ao n cap), (3, .slice a10 ((n + 3) / 4) ((n + 3) / 4)), (4, .int .i64 (k : Int))] ∧ hp_ = [Nq, R] ∧ n - k = ms_ ∧ (k ≤ n) ∧ (Row Nq 193 1 a10 ((n + 3) / 4) ((n + 3) / 4) (u32s (rfromSt l k)))) ?_ (.refl _) ⟨0, N10, rfl, rfl, rfl, by omega, by simpa [rfromSt, hlen] using r10⟩ ?_
  · exact .cons (by first | exact lkI rfl (by omega) | rfl) (.cons (by first | exact lkI rfl (by omega) | rfl) (.cons (by first | exact lkI rfl (by omega) | rfl) .nil))
  rintro _ _ _ ⟨k, Nq, rfl, rfl, rfl, hk, rq⟩
  have sq := rq.rsl
  have hlq := sq.len32
  refine At.seq fun K5 hk_5 => ?_
  refine At.seq fun K6 hk_6 => ?_
  refine At.region ?_
  refine op_move (nxlf rfl) rfl rfl ?_
  refine op_move (nxlf rfl) rfl rfl ?_
  refine op_lenS (nxlf rfl) se27 rfl rfl ?_
  refine op_lss (nxlf rfl) rfl rfl rfl ?_
  refine At.opsNil ?_
  refine At.norm (hk_6 ?_)
  refine At.condP rfl (fun c14 => ?_) (fun c14 => ?_)
  · refine At.skip ?_
    refine At.norm (hk_5 ?_)
    refine At.seq fun K7 hk_7 => ?_
    refine At.block ?_
    refine At.seq fun K8 hk_8 => ?_
    refine At.region ?_
    refine op_move (nxlf rfl) rfl rfl ?_
    refine op_lenS (nxlf rfl) se27 rfl rfl ?_
    refine op_subI (nxlf rfl) rfl rfl (by omega) (by omega) rfl ?_
    refine op_move (nxlf rfl) rfl rfl ?_
    refine op_subI (nxlf rfl) rfl rfl (by omega) (by omega) rfl ?_
    refine op_assign (nxlf rfl) rfl rfl ?_
    refine At.opsNil ?_
    refine At.norm (hk_8 ?_)
    refine At.drawn [19] [0,1,2,3,4,5,6,7,8,9,10,11,12,13,14,15,16,17,18,19] (by kernel_rfl) (by kernel_rfl) ?_
    refine op_move (nxof rfl rfl rfl (by kernel_rfl)) rfl rfl ?_
    refine op_move (nxof rfl rfl rfl (by kernel_rfl)) rfl rfl ?_
    refine op_quoI (nxof rfl rfl rfl (by kernel_rfl)) rfl rfl (by omega) (by omega) (by omega) rfl ?_
    refine op_move (nxof rfl rfl rfl (by kernel_rfl)) rfl rfl ?_
    refine op_move (nxof rfl rfl rfl (by kernel_rfl)) rfl rfl ?_
    refine op_quoI (nxof rfl rfl rfl (by kernel_rfl)) rfl rfl (by omega) (by omega) (by omega) rfl ?_
    refine op_idx1 (nxof rfl rfl rfl (by kernel_rfl)) se148 rfl rfl (by assumption) (show _ = (((k / 4 : Nat)) : Int) from by omega) (by omega) rfl ?_
    refine op_loadE (nxof rfl rfl rfl (by kernel_rfl)) sc193 rfl (by assumption) (by first | exact get8 (by omega) | exact get64 (by omega) | exact get32 (by omega)) (by first | exact mem0 | exact mem1 | exact mem2 | exact mem3 | exact mem4 | exact mem5 | exact mem6 | exact mem7 | exact mem8 | exact mem9) rfl ?_
    refine op_move (nxof rfl rfl rfl (by kernel_rfl)) rfl rfl ?_
    refine op_move (nxof rfl rfl rfl (by kernel_rfl)) rfl rfl ?_
    refine op_idx1 (nxof rfl rfl rfl (by kernel_rfl)) se27 rfl rfl (by assumption) (show _ = (((n - 1 - k : Nat)) : Int) from by omega) (by omega) rfl ?_
    refine op_loadE (nxof rfl rfl rfl (by kernel_rfl)) sc5 rfl (by assumption) (by first | exact get8 (by omega) | exact get64 (by omega) | exact get32 (by omega)) (by first | exact mem0 | exact mem1 | exact mem2 | exact mem3 | exact mem4 | exact mem5 | exact mem6 | exact mem7 | exact mem8 | exact mem9) rfl ?_
    refine op_conv32 (nxof rfl rfl rfl (by kernel_rfl)) (und_some Try.underlying5) Try.underlying193 rfl (by first | rfl | exact (Int.toNat_of_nonneg (by omega)).symm) rfl ?_
    refine op_move (nxof rfl rfl rfl (by kernel_rfl)) rfl rfl ?_
    refine op_rem (nxof rfl rfl rfl (by kernel_rfl)) rfl rfl (by omega) (by omega) rfl ?_
    refine op_mulI (nxof rfl rfl rfl (by kernel_rfl)) rfl rfl (by omega) (by omega) rfl ?_
    refine op_shlU32 (nxof rfl rfl rfl (by kernel_rfl)) rfl rfl (show _ = (((8 * (k % 4) : Nat)) : Int) from by omega) rfl ?_
    refine op_orU32 (nxof rfl rfl rfl (by kernel_rfl)) rfl rfl rfl ?_
    refine op_idx1 (nxof rfl rfl rfl (by kernel_rfl)) se148 rfl rfl (by assumption) (show _ = (((k / 4 : Nat)) : Int) from by omega) (by omega) rfl ?_
    refine op_storeE (nxos rfl rfl rfl rfl) sz193 rfl rfl rfl rfl rfl rq (by simp <;> omega) (by simp) sel0 (fun Nq rq => ?_)
    simp only [setL] at rq
    have sq := rq.rsl
    refine At.oneNil ?_
    refine At.inNorm ?_
    refine At.norm (hk_7 ?_)
    refine At.region ?_
    refine op_move (nxlf rfl) rfl rfl ?_
    refine op_addI (nxlf rfl) rfl rfl (by omega) (by omega) rfl ?_
    refine op_assign (nxlf rfl) rfl rfl ?_
    refine At.opsNil ?_
    refine At.norm ?_
    refine At.back ?_ (.refl _) ⟨k + 1, Nq, rfl, rfl, rfl, by omega, by rw [rfromSt, rfromStep, hlen, ← ofNat_shl32, ← set_u32s]; exact rq⟩ ?_
    · exact .cons (by first | exact lkI rfl (by omega) | rfl) (.cons (by first | exact lkI rfl (by omega) | rfl) (.cons (by first | exact lkI rfl (by omega) | rfl) .nil))
    · omega
  · refine At.exit (At.thenExit (At.thenExit (At.inHit ?_)))
    refine At.norm (hk_3 ?_)
    refine At.seq fun K9 hk_9 => ?_
    refine At.region ?_
    refine op_move (nxlf rfl) rfl rfl ?_
    refine op_callA (nxla rfl) (.cons rfl .nil) (trim32_f sq) Try.func137 rfl rfl (by simp) rfl ?_
    rintro v42 L42 ⟨rfl, rfl, e1, e2⟩
    change At _ _ _ [Nq, R] _
    refine op_assign (nxlf rfl) rfl rfl ?_
    refine At.opsNil ?_
    refine At.norm (hk_9 ?_)
    refine At.ret (?_)
    refine At.ret1 (L1 := [Nq]) rfl (.tmp rfl .nil) (.refl _) (.refl _) ?_
    obtain rfl : k = l.length := by omega
    rw [rfromSt_all] at e1 e2 ⊢
    have h2 := sq.take e2 (Nat.le_refl _) e2
    rw [Nat.mul_one, u32s_take, e1] at h2
    exact ⟨Nq, a10, _, rfl, rfl, h2⟩
/-- How two numbers stand to each other. -/
def cmpI (x y : Nat) : Int := if x < y then -1 else if y < x then 1 else 0
theorem digs_lt {x y : Nat} (h : (digsOf x).length < (digsOf y).length) : x < y := by
  rw [length_digsOf, length_digsOf] at h
  rcases Nat.lt_or_ge x y with h1 | h1
  · exact h1
  · have := bitLen_mono h1; omega
theorem digs_eq_len {x y : Nat} (h : (digsOf x).length = (digsOf y).length) : x / 2 ^ (32 * (digsOf x).length) = y / 2 ^ (32 * (digsOf x).length) := by
  have h1 := v32_lt (digsOf x)
  have h2 := v32_lt (digsOf y)
  rw [v32_digsOf] at h1 h2
  rw [Nat.div_eq_of_lt h1, h, Nat.div_eq_of_lt h2]
theorem digs_at {x j : Nat} (h : j < (digsOf x).length) : x / 2 ^ (32 * j) = x / 2 ^ (32 * (j + 1)) * 2 ^ 32 + ((digsOf x).getD j 0).toNat := by
  have e := dig_v32 h
  rw [v32_digsOf] at e
  rw [List.getD_eq_getElem?_getD, List.getElem?_eq_getElem h, Option.getD_some, ← e, show 32 * (j + 1) = 32 * j + 32 by omega, Nat.pow_add, ← Nat.div_div_eq_div_mul]
  omega
theorem lt_of_div {x y p : Nat} (h : x / p < y / p) : x < y := by
  rcases Nat.lt_or_ge x y with h1 | h1
  · exact h1
  · have := Nat.div_le_div_right (c := p) h1; omega
theorem cmpI_le {x y : Nat} : cmpI x y ≤ 0 ↔ x ≤ y := by
  unfold cmpI
  split
  · omega
  · split <;> omega
end Go.Proofs.Ytljacjjeinmfnaa
/- Plain laws: words of four limbs, their bytes and bits. No condition. -/
namespace Go.Proofs.Ytljacjjeinmfnaa
set_option linter.unusedVariables false
set_option linter.unusedSimpArgs false
/-- A byte is laid below what stands. -/
theorem or_low64 {a : List UInt64} {q s w x : Nat} (hq : q < a.length) (hs : v64 a % 2 ^ (64 * q + s + w) = 0) (hx : x < 2 ^ w) (hw : s + w ≤ 64) :
    v64 (a.set q (a.getD q 0 ||| UInt64.ofNat (x * 2 ^ s))) = v64 a + x * 2 ^ (64 * q + s) := by
  have hset := v64_set (a := a) (i := q) (y := a.getD q 0 ||| UInt64.ofNat (x * 2 ^ s)) hq
  have hdig := limb_v64 hq
  have hc : x * 2 ^ s < 2 ^ (s + w) := by
    rw [Nat.pow_add, Nat.mul_comm]
    exact Nat.mul_lt_mul_of_pos_left hx (Nat.pow_pos (by decide))
  have hc64 : x * 2 ^ s < 2 ^ 64 := Nat.lt_of_lt_of_le hc (Nat.pow_le_pow_right (by decide) hw)
  have hL : a[q].toNat % 2 ^ (s + w) = 0 := by
    rw [← hdig]
    obtain ⟨m, hm⟩ := Nat.dvd_of_mod_eq_zero hs
    rw [hm, show 64 * q + s + w = 64 * q + (s + w) by omega, Nat.pow_add, Nat.mul_assoc, Nat.mul_div_cancel_left _ (Nat.pow_pos (by decide)),
      show (2 : Nat) ^ 64 = 2 ^ (s + w) * 2 ^ (64 - (s + w)) from by rw [← Nat.pow_add]; congr 1; omega, Nat.mul_mod_mul_left, Nat.mul_mod_right]
  have hor : (a.getD q 0 ||| UInt64.ofNat (x * 2 ^ s)).toNat = a[q].toNat + x * 2 ^ s := by
    rw [List.getD_eq_getElem?_getD, List.getElem?_eq_getElem hq, Option.getD_some, UInt64.toNat_or, UInt64.toNat_ofNat', Nat.mod_eq_of_lt hc64, nat_join (s + w) _ _ hL hc]
  rw [hor, Nat.add_mul, Nat.mul_assoc, ← Nat.pow_add, Nat.add_comm s] at hset
  omega
theorem be_take_succD {l : List UInt8} {k : Nat} (h : k < l.length) : be (l.take (k + 1)) = be (l.take k) * 256 + (l.getD k 0).toNat := by
  rw [List.take_succ_eq_append_getElem h, be_snoc, List.getD_eq_getElem?_getD, List.getElem?_eq_getElem h]; rfl
/-- One round of word.From. -/
theorem wfrom_step {m : List UInt64} {l : List UInt8} {k : Nat} (hm : m.length = 4) (hl : l.length ≤ 32) (hk : k < l.length) (hv : v64 m = be (l.take k) * 256 ^ (l.length - k)) :
    v64 (m.set ((l.length - 1 - k) / 8) (m.getD ((l.length - 1 - k) / 8) 0 ||| UInt64.ofNat ((l.getD k 0).toNat * 2 ^ ((l.length - 1 - k) % 8 * 8)))) = be (l.take (k + 1)) * 256 ^ (l.length - (k + 1)) := by
  have hx := (l.getD k 0).toNat_lt
  have e : 64 * ((l.length - 1 - k) / 8) + (l.length - 1 - k) % 8 * 8 = 8 * (l.length - 1 - k) := by omega
  have e2 : 8 * (l.length - 1 - k) + 8 = 8 * (l.length - k) := by omega
  have p : ∀ j, (256 : Nat) ^ j = 2 ^ (8 * j) := fun j => by rw [show (256 : Nat) = 2 ^ 8 from rfl, ← Nat.pow_mul]
  rw [or_low64 (w := 8) (by omega) (by rw [hv, p, e, e2, Nat.mul_mod_left]) hx (by omega), e, hv, be_take_succD hk, Nat.add_mul, Nat.mul_assoc, ← p]
  congr 2
  · rw [show l.length - k = (l.length - (k + 1)) + 1 by omega, Nat.pow_succ, Nat.mul_comm]
  · congr 1; omega
theorem v64_take_succ {l : List UInt64} {k : Nat} (h : k < l.length) : v64 (l.take (k + 1)) = v64 (l.take k) + 2 ^ (64 * k) * (l.getD k 0).toNat := by
  rw [List.take_succ_eq_append_getElem h, v64_append, List.length_take, Nat.min_eq_left (by omega), List.getD_eq_getElem?_getD, List.getElem?_eq_getElem h]
  simp only [v64, n64, val, List.map_cons, List.map_nil, Option.getD_some, Nat.mul_zero, Nat.add_zero]
theorem v64_take_lt (l : List UInt64) (k : Nat) : v64 (l.take k) < 2 ^ (64 * k) := by
  refine Nat.lt_of_lt_of_le (v64_lt _) (Nat.pow_le_pow_right (by decide) ?_)
  have := List.length_take_le k l
  omega
theorem bitLen_join {L x k : Nat} (hL : L < 2 ^ k) (hx : x ≠ 0) : bitLen (L + 2 ^ k * x) = k + bitLen x := by
  have h1 := lt_bitLen x
  have h0 := bitLen_pos (Nat.pos_of_ne_zero hx)
  have hp : 0 < 2 ^ k := Nat.pow_pos (by decide)
  refine bitLen_eq ?_ (.inr ?_)
  · rw [Nat.pow_add]
    have : 2 ^ k * (x + 1) ≤ 2 ^ k * 2 ^ bitLen x := Nat.mul_le_mul_left _ h1
    rw [Nat.mul_add, Nat.mul_one] at this
    omega
  · have h2 : 2 ^ (bitLen x - 1) ≤ x := by
      rcases Nat.lt_or_ge x (2 ^ (bitLen x - 1)) with h | h
      · have := bitLen_le.2 h; omega
      · exact h
    rw [show k + bitLen x - 1 = k + (bitLen x - 1) by omega, Nat.pow_add]
    have := Nat.mul_le_mul_left (2 ^ k) h2
    omega
/-- The highest limb that is not naught tells the bits. -/
theorem bits_at {l : List UInt64} {k : Nat} (h : k < l.length) (hx : (l.getD k 0).toNat ≠ 0) (hv : v64 l = v64 (l.take (k + 1))) : bitLen (v64 l) = 64 * k + bitLen (l.getD k 0).toNat := by
  rw [hv, v64_take_succ h, bitLen_join (v64_take_lt l k) hx]
theorem v64_take_zero {l : List UInt64} {k : Nat} (h : k < l.length) (hx : (l.getD k 0).toNat = 0) (hv : v64 l = v64 (l.take (k + 1))) : v64 l = v64 (l.take k) := by
  rw [hv, v64_take_succ h, hx, Nat.mul_zero, Nat.add_zero]
theorem be_bytes32 {N : Nat} (h : N < 2 ^ 256) : be (bytesN 32 N) = N := by rw [be_bytesN]; exact Nat.mod_eq_of_lt (by simpa using h)
theorem bytesN_drop {n k N : Nat} (hk : k ≤ n) (h : N < 256 ^ k) : (bytesN n N).drop (n - k) = bytesN k N := by
  apply List.ext_getElem
  · rw [List.length_drop, length_bytesN, length_bytesN]; omega
  · intro i h1 h2
    rw [length_bytesN] at h2
    rw [List.getElem_drop]
    simp only [bytesN, List.getElem_map, List.getElem_range]
    congr 3
    omega
theorem bytes_drop32 {N : Nat} (h : N < 2 ^ 256) : (bytesN 32 N).drop (32 - (bitLen N + 7) / 8) = bytesOf N := by
  have h1 : (bitLen N + 7) / 8 ≤ 32 := byteLen_le.2 (by simpa using h)
  exact bytesN_drop h1 (byteLen_le.1 (Nat.le_refl _))
theorem v64_four_lt (a b c d : UInt64) : v64 [a, b, c, d] < 2 ^ 256 := v64_lt [a, b, c, d]
theorem bytesN_take_succ {n N k : Nat} (h : k < n) : (bytesN n N).take (k + 1) = (bytesN n N).take k ++ [UInt8.ofNat (N / 256 ^ (n - 1 - k))] := by
  rw [List.take_succ_eq_append_getElem (by rw [length_bytesN]; exact h)]
  simp [bytesN]
end Go.Proofs.Ytljacjjeinmfnaa
