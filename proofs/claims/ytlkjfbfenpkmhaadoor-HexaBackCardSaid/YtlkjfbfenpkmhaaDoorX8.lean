/- Several texts in one: see the remarks ahead of each part. No condition but those told there. -/
import Derived.Test.YtlkjfbfenpkmhaaDoorX7
import Derived.Test.YtlkjfbfenpkmhaaDoorX5
import Derived.Test.YtlkjfbfenpkmhaaDoorX2
import Derived.Lib.Hide
import Derived.Test.YtlkjfbfenpkmhaaDoorX6
/- Plain laws: sums, differences and products of numbers in limbs, limb by limb. No condition. -/
namespace Go.Proofs.YtlkjfbfenpkmhaaDoor
set_option linter.unusedVariables false
set_option linter.unusedSimpArgs false
theorem v64_snoc (w : List UInt64) (x : UInt64) : v64 (w ++ [x]) = v64 w + 2 ^ (64 * w.length) * x.toNat := by
  rw [v64_append]
  simp only [v64, n64, val, List.map_cons, List.map_nil, Nat.mul_zero, Nat.add_zero]
theorem v64_take_all {l : List UInt64} {k : Nat} (h : l.length ≤ k) : v64 (l.take k) = v64 l := by rw [List.take_of_length_le h]
theorem v64_take_succD (l : List UInt64) (k : Nat) : v64 (l.take (k + 1)) = v64 (l.take k) + 2 ^ (64 * k) * (l.getD k 0).toNat := by
  rcases Nat.lt_or_ge k l.length with h | h
  · exact v64_take_succ h
  · rw [v64_take_all h, v64_take_all (by omega), List.getD_eq_getElem?_getD, List.getElem?_eq_none h]
    simp
theorem set_mid {α : Type} {A B : List α} {x y : α} {j : Nat} (h : A.length = j) : (A ++ x :: B).set j y = (A ++ [y]) ++ B := by
  subst h; simp
theorem set_fill {α : Type} {w : List α} {k L : Nat} {z y : α} (hw : w.length = k) (h : k < L) : (w ++ List.replicate (L - k) z).set k y = (w ++ [y]) ++ List.replicate (L - (k + 1)) z := by
  rw [show L - k = (L - (k + 1)) + 1 by omega, List.replicate_succ, set_mid hw]
theorem getD_mid {α : Type} {A B : List α} {x z : α} {j : Nat} (h : A.length = j) : (A ++ x :: B).getD j z = x := by
  subst h; simp
theorem pow64 (k : Nat) : (2 : Nat) ^ (64 * (k + 1)) = 2 ^ (64 * k) * 18446744073709551616 := by rw [show 64 * (k + 1) = 64 * k + 64 by omega, Nat.pow_add]
theorem add_round {w a b : List UInt64} {k : Nat} {c : UInt64} (hw : w.length = k) (hc : c.toNat ≤ 1) (hv : v64 w + c.toNat * 2 ^ (64 * k) = v64 (a.take k) + v64 (b.take k)) :
    v64 (w ++ [addS (a.getD k 0) (b.getD k 0) c]) + (addC (a.getD k 0) (b.getD k 0) c).toNat * 2 ^ (64 * (k + 1)) = v64 (a.take (k + 1)) + v64 (b.take (k + 1)) := by
  have h := (add64_law (a.getD k 0) (b.getD k 0) c hc).1
  rw [v64_snoc, hw, v64_take_succD, v64_take_succD, pow64]
  have h2 := congrArg (2 ^ (64 * k) * ·) h
  simp only [Nat.mul_add] at h2
  generalize (addS (a.getD k 0) (b.getD k 0) c).toNat = s at *
  generalize (addC (a.getD k 0) (b.getD k 0) c).toNat = t at *
  have e : t * (2 ^ (64 * k) * 18446744073709551616) = 2 ^ (64 * k) * (t * 2 ^ 64) := by rw [Nat.mul_left_comm]
  rw [e]
  rw [Nat.mul_comm c.toNat] at hv
  omega
theorem sub_round {w a b : List UInt64} {k : Nat} {c : UInt64} (hw : w.length = k) (hc : c.toNat ≤ 1) (hv : v64 w + v64 (b.take k) = v64 (a.take k) + c.toNat * 2 ^ (64 * k)) :
    v64 (w ++ [subS (a.getD k 0) (b.getD k 0) c]) + v64 (b.take (k + 1)) = v64 (a.take (k + 1)) + (subC (a.getD k 0) (b.getD k 0) c).toNat * 2 ^ (64 * (k + 1)) := by
  have h := (sub64_law (a.getD k 0) (b.getD k 0) c hc).1
  rw [v64_snoc, hw, v64_take_succD, v64_take_succD, pow64]
  have h2 := congrArg (2 ^ (64 * k) * ·) h
  simp only [Nat.mul_add] at h2
  generalize (subS (a.getD k 0) (b.getD k 0) c).toNat = s at *
  generalize (subC (a.getD k 0) (b.getD k 0) c).toNat = t at *
  have e : t * (2 ^ (64 * k) * 18446744073709551616) = 2 ^ (64 * k) * (t * 2 ^ 64) := by rw [Nat.mul_left_comm]
  rw [e]
  rw [Nat.mul_comm c.toNat] at hv
  omega
theorem mul_le64 (x y : UInt64) : x.toNat * y.toNat ≤ 340282366920938463426481119284349108225 :=
  Nat.mul_le_mul (show x.toNat ≤ 18446744073709551615 by have := x.toNat_lt; omega) (show y.toNat ≤ 18446744073709551615 by have := y.toNat_lt; omega)
theorem cell_nat {P H l s1 c1 s2 c2 z c : Nat} (h1 : s1 + c1 * 2 ^ 64 = l + z) (h2 : s2 + c2 * 2 ^ 64 = s1 + c) (h3 : H * 2 ^ 64 + l = P) (h4 : P ≤ 340282366920938463426481119284349108225) (hz : z < 2 ^ 64) (hc : c < 2 ^ 64) :
    s2 + ((H + c1) % 2 ^ 64 + c2) % 2 ^ 64 * 2 ^ 64 = P + z + c := by
  have e : s2 + (H + c1 + c2) * 2 ^ 64 = P + z + c := by rw [Nat.add_mul, Nat.add_mul]; exact Nat.le_antisymm (by omega) (by omega)
  have b : H + c1 + c2 < 2 ^ 64 := by omega
  rw [Nat.mod_eq_of_lt (show H + c1 < 2 ^ 64 by omega), Nat.mod_eq_of_lt b, e]
theorem cell_nat0 {P H l s1 c1 z : Nat} (h1 : s1 + c1 * 2 ^ 64 = l + z) (h3 : H * 2 ^ 64 + l = P) (h4 : P ≤ 340282366920938463426481119284349108225) (hz : z < 2 ^ 64) :
    s1 + ((H + c1) % 2 ^ 64) * 2 ^ 64 = P + z := by
  have e : s1 + (H + c1) * 2 ^ 64 = P + z := by rw [Nat.add_mul]; exact Nat.le_antisymm (by omega) (by omega)
  rw [Nat.mod_eq_of_lt (show H + c1 < 2 ^ 64 by omega), e]
theorem mul_cell (x y z c : UInt64) : (addS (addS (x * y) z 0) c 0).toNat + (mulH x y + addC (x * y) z 0 + addC (addS (x * y) z 0) c 0).toNat * 2 ^ 64 = x.toNat * y.toNat + z.toNat + c.toNat := by
  obtain ⟨h1, k1⟩ := add64_law (x * y) z 0 (by decide)
  obtain ⟨h2, k2⟩ := add64_law (addS (x * y) z 0) c 0 (by decide)
  rw [UInt64.toNat_add, UInt64.toNat_add]
  exact cell_nat h1 h2 (mul64_law x y) (mul_le64 x y) z.toNat_lt c.toNat_lt
/-- The same without what stood there. -/
theorem mul_cell0 (x y c : UInt64) : (addS (x * y) c 0).toNat + (mulH x y + addC (x * y) c 0).toNat * 2 ^ 64 = x.toNat * y.toNat + c.toNat := by
  obtain ⟨h1, k1⟩ := add64_law (x * y) c 0 (by decide)
  rw [UInt64.toNat_add]
  exact cell_nat0 h1 (mul64_law x y) (mul_le64 x y) c.toNat_lt
theorem v64_setD {p : List UInt64} {j : Nat} {y : UInt64} (h : j < p.length) : v64 (p.set j y) + (p.getD j 0).toNat * 2 ^ (64 * j) = v64 p + y.toNat * 2 ^ (64 * j) := by
  have := v64_set (y := y) h
  rwa [List.getD_eq_getElem?_getD, List.getElem?_eq_getElem h]
theorem mul_round {p b : List UInt64} {i k V : Nat} {x c : UInt64} (hj : i + k < p.length) (hv : v64 p + c.toNat * 2 ^ (64 * (i + k)) = V + 2 ^ (64 * i) * (x.toNat * v64 (b.take k))) :
    v64 (p.set (i + k) (addS (addS (x * b.getD k 0) (p.getD (i + k) 0) 0) c 0)) + (mulH x (b.getD k 0) + addC (x * b.getD k 0) (p.getD (i + k) 0) 0 + addC (addS (x * b.getD k 0) (p.getD (i + k) 0) 0) c 0).toNat * 2 ^ (64 * (i + (k + 1))) =
      V + 2 ^ (64 * i) * (x.toNat * v64 (b.take (k + 1))) := by
  have h := mul_cell x (b.getD k 0) (p.getD (i + k) 0) c
  generalize hs : addS (addS (x * b.getD k 0) (p.getD (i + k) 0) 0) c 0 = s at *
  generalize hm : (mulH x (b.getD k 0) + addC (x * b.getD k 0) (p.getD (i + k) 0) 0 + addC (addS (x * b.getD k 0) (p.getD (i + k) 0) 0) c 0).toNat = m at *
  have h1 := v64_setD (y := s) hj
  have eE : 2 ^ (64 * i) * 2 ^ (64 * k) = 2 ^ (64 * (i + k)) := by rw [← Nat.pow_add, Nat.mul_add]
  rw [v64_take_succD, ← Nat.add_assoc, pow64]
  have e1 : 2 ^ (64 * i) * (x.toNat * (v64 (b.take k) + 2 ^ (64 * k) * (b.getD k 0).toNat)) = 2 ^ (64 * i) * (x.toNat * v64 (b.take k)) + 2 ^ (64 * (i + k)) * (x.toNat * (b.getD k 0).toNat) := by
    rw [← eE, Nat.mul_add, Nat.mul_add, Nat.mul_left_comm x.toNat, ← Nat.mul_assoc _ (2 ^ (64 * k))]
  rw [e1]
  generalize 2 ^ (64 * (i + k)) = T at *
  have h2 := congrArg (T * ·) h
  simp only [Nat.mul_add] at h2
  have e2 : m * (T * 18446744073709551616) = T * (m * 2 ^ 64) := by rw [Nat.mul_left_comm]
  rw [e2]
  rw [Nat.mul_comm c.toNat] at hv
  rw [Nat.mul_comm (p.getD (i + k) 0).toNat, Nat.mul_comm s.toNat] at h1
  omega
theorem mul_outer {p a b : List UInt64} {i : Nat} {c : UInt64} (hp : p.length = i + b.length) (hv : v64 p + c.toNat * 2 ^ (64 * (i + b.length)) = v64 (a.take i) * v64 b + 2 ^ (64 * i) * ((a.getD i 0).toNat * v64 (b.take b.length))) :
    v64 (p ++ [c]) = v64 (a.take (i + 1)) * v64 b := by
  rw [v64_snoc, hp, v64_take_succD, Nat.add_mul, Nat.mul_assoc, Nat.mul_comm _ c.toNat, hv, List.take_length]
/-- One round of q times v taken away. -/
theorem step_round {w u v : List UInt64} {k : Nat} {q cy bw : UInt64} (hw : w.length = k) (hb : bw.toNat ≤ 1) (hv : v64 w + q.toNat * v64 (v.take k) = v64 (u.take k) + (cy.toNat + bw.toNat) * 2 ^ (64 * k)) :
    v64 (w ++ [subS (u.getD k 0) (addS (q * v.getD k 0) cy 0) bw]) + q.toNat * v64 (v.take (k + 1)) = v64 (u.take (k + 1)) + ((mulH q (v.getD k 0) + addC (q * v.getD k 0) cy 0).toNat + (subC (u.getD k 0) (addS (q * v.getD k 0) cy 0) bw).toNat) * 2 ^ (64 * (k + 1)) := by
  have h1 := mul_cell0 q (v.getD k 0) cy
  obtain ⟨h2, h3⟩ := sub64_law (u.getD k 0) (addS (q * v.getD k 0) cy 0) bw hb
  generalize addS (q * v.getD k 0) cy 0 = l at *
  generalize (mulH q (v.getD k 0) + addC (q * v.getD k 0) cy 0).toNat = m at *
  generalize (subS (u.getD k 0) l bw) = d at *
  generalize (subC (u.getD k 0) l bw).toNat = t at *
  have h4 := congrArg (2 ^ (64 * k) * ·) h1
  have h5 := congrArg (2 ^ (64 * k) * ·) h2
  simp only [Nat.mul_add] at h4 h5
  rw [v64_snoc, hw, v64_take_succD, v64_take_succD, pow64, Nat.mul_add, Nat.add_mul]
  have e1 : q.toNat * (2 ^ (64 * k) * (v.getD k 0).toNat) = 2 ^ (64 * k) * (q.toNat * (v.getD k 0).toNat) := Nat.mul_left_comm ..
  have e2 : m * (2 ^ (64 * k) * 18446744073709551616) = 2 ^ (64 * k) * (m * 2 ^ 64) := by rw [Nat.mul_left_comm]
  have e3 : t * (2 ^ (64 * k) * 18446744073709551616) = 2 ^ (64 * k) * (t * 2 ^ 64) := by rw [Nat.mul_left_comm]
  rw [e1, e2, e3]
  rw [Nat.add_mul, Nat.mul_comm cy.toNat, Nat.mul_comm bw.toNat] at hv
  omega
theorem step_last {w u v : List UInt64} {k : Nat} {q cy bw : UInt64} (hw : w.length = k) (hb : bw.toNat ≤ 1) (hv : v64 w + q.toNat * v64 v = v64 (u.take k) + (cy.toNat + bw.toNat) * 2 ^ (64 * k)) (hu : u.length = k + 1) :
    v64 (w ++ [subS (u.getD k 0) cy bw]) + q.toNat * v64 v = v64 u + (subC (u.getD k 0) cy bw).toNat * 2 ^ (64 * (k + 1)) := by
  obtain ⟨h2, h3⟩ := sub64_law (u.getD k 0) cy bw hb
  generalize (subS (u.getD k 0) cy bw) = d at *
  generalize (subC (u.getD k 0) cy bw).toNat = t at *
  have h5 := congrArg (2 ^ (64 * k) * ·) h2
  simp only [Nat.mul_add] at h5
  have hu2 : v64 u = v64 (u.take (k + 1)) := by rw [v64_take_all (by omega)]
  rw [v64_snoc, hw, hu2, v64_take_succD, pow64]
  have e3 : t * (2 ^ (64 * k) * 18446744073709551616) = 2 ^ (64 * k) * (t * 2 ^ 64) := by rw [Nat.mul_left_comm]
  rw [e3]
  rw [Nat.add_mul, Nat.mul_comm cy.toNat, Nat.mul_comm bw.toNat] at hv
  omega
/-! Shifts: two limbs that lie side by side give one. -/
theorem shl64_nat (x : UInt64) (s : Nat) : (shl64 x s).toNat = x.toNat * 2 ^ s % 2 ^ 64 := by rw [shl64, UInt64.toNat_ofNat']
theorem shr64_nat (x : UInt64) (s : Nat) : (shr64 x s).toNat = x.toNat / 2 ^ s := by
  rw [shr64, UInt64.toNat_ofNat', Nat.mod_eq_of_lt (Nat.lt_of_le_of_lt (Nat.div_le_self _ _) x.toNat_lt)]
theorem limb_mid {x y : UInt64} {W r : Nat} (hr : r ≤ 64) (hy : W % 2 ^ 64 = y.toNat) : (x.toNat + 2 ^ 64 * W) / 2 ^ r % 2 ^ 64 = (shr64 x r ||| shl64 y (64 - r)).toNat := by
  have hx := x.toNat_lt
  rw [UInt64.toNat_or, shr64_nat, shl64_nat, ← hy]
  have e1 : (2 : Nat) ^ 64 = 2 ^ r * 2 ^ (64 - r) := by rw [← Nat.pow_add]; congr 1; omega
  have hp : 0 < 2 ^ r := Nat.pow_pos (by decide)
  have e2 : (x.toNat + 2 ^ 64 * W) / 2 ^ r = x.toNat / 2 ^ r + 2 ^ (64 - r) * W := by
    rw [e1, Nat.mul_assoc, Nat.add_mul_div_left _ _ hp]
  have e3 : W % 2 ^ 64 * 2 ^ (64 - r) % 2 ^ 64 = W % 2 ^ r * 2 ^ (64 - r) := by
    have : W % 2 ^ 64 * 2 ^ (64 - r) % 2 ^ 64 = W % 2 ^ 64 * 2 ^ (64 - r) % (2 ^ r * 2 ^ (64 - r)) := by rw [← e1]
    rw [this, Nat.mul_mod_mul_right, Nat.mod_mod_of_dvd _ (Nat.pow_dvd_pow 2 hr)]
  have e4 : 2 ^ (64 - r) * W % 2 ^ 64 = W % 2 ^ r * 2 ^ (64 - r) := by
    have : 2 ^ (64 - r) * W % 2 ^ 64 = W * 2 ^ (64 - r) % (2 ^ r * 2 ^ (64 - r)) := by rw [← e1, Nat.mul_comm]
    rw [this, Nat.mul_mod_mul_right]
  have hlt : x.toNat / 2 ^ r < 2 ^ (64 - r) := by
    rw [Nat.div_lt_iff_lt_mul hp, ← Nat.pow_add, show 64 - r + r = 64 by omega]; exact hx
  have hsum : x.toNat / 2 ^ r + W % 2 ^ r * 2 ^ (64 - r) < 2 ^ 64 := by
    have h1 : W % 2 ^ r + 1 ≤ 2 ^ r := Nat.mod_lt _ hp
    have h2 := Nat.mul_le_mul_right (2 ^ (64 - r)) h1
    rw [← e1, Nat.add_mul] at h2
    omega
  rw [e2, e3, Nat.add_mod, e4, Nat.mod_eq_of_lt (Nat.lt_of_le_of_lt (Nat.div_le_self _ _) hx), Nat.mod_eq_of_lt hsum]
  rw [Nat.or_comm, Nat.mul_comm (W % 2 ^ r)]
  rw [Nat.add_comm, Nat.two_pow_add_eq_or_of_lt hlt]
end Go.Proofs.YtlkjfbfenpkmhaaDoor
/- limb.Trim: a number without zeros at its upper end. No condition. -/
namespace Go.Proofs.YtlkjfbfenpkmhaaDoor
set_option linter.unusedVariables false
set_option linter.unusedSimpArgs false
open Go Go.RowKit
theorem u64_zero {x : UInt64} (h : (x.toNat : Int) = 0) : x = 0 := by rw [← UInt64.toNat_inj]; simpa using h
theorem trim_len {l : List UInt64} {k : Nat} (hk : k ≤ l.length) (hz : ∀ i, k ≤ i → l.getD i 0 = 0) (hl : k = 0 ∨ (0 < k ∧ l.getD (k - 1) 0 ≠ 0)) : l.take k = limbsOf (v64 l) ∧ (limbsOf (v64 l)).length = k := by
  have h1 : l.take k = limbsOf (v64 l) := trim_eq hk (fun i h hki => by
    have := hz i hki
    rwa [List.getD_eq_getElem?_getD, List.getElem?_eq_getElem h] at this) (by
    rcases hl with h | ⟨h0, h⟩
    · exact .inl h
    · refine .inr ⟨by omega, ?_⟩
      rwa [List.getD_eq_getElem?_getD, List.getElem?_eq_getElem (by omega)] at h)
  exact ⟨h1, by rw [← h1, List.length_take]; omega⟩
theorem Trim_f {N : Heaplet} {ao : Option Addr} {n cap : Nat} {l : List UInt64} (h : RSl N 1 ao n cap (u64s l)) :
    Fn Tryd.prog 104 #[.slice ao n cap] [] [N] (fun v L => v = .slice ao (limbsOf (v64 l)).length (limbsOf (v64 l)).length ∧ L = [] ∧ l.take (limbsOf (v64 l)).length = limbsOf (v64 l) ∧ (limbsOf (v64 l)).length ≤ n) := by
  have hlen : l.length = n := by simpa using h.len
  have hcap := h.2.1
  have hmax := h.2.2.1
  unfold maxLen at hmax
  refine Fn.enter (vs := [.slice ao n cap]) Tryd.func104 rfl rfl rfl ?_
  intro E R hR
  have h := h.le (hR N (by simp))
  change At _ _ E [R] _
  refine At.seq fun K1 hk_1 => ?_
  refine At.region ?_
  refine op_assign (nxlf rfl) rfl rfl ?_
  refine At.opsNil ?_
  refine At.norm (hk_1 ?_)
  refine At.seq fun K2 hk_2 => ?_
  refine At.region ?_
  refine op_move (nxlf rfl) rfl rfl ?_
  refine op_lenS (nxlf rfl) se145 rfl rfl ?_
  refine op_assign (nxlf rfl) rfl rfl ?_
  refine At.opsNil ?_
  refine At.norm (hk_2 ?_)
  refine At.seq fun K3 hk_3 => ?_
  refine At.block ?_
  refine At.loop (fun fr_ hp_ ms_ => ∃ (k : Nat), fr_ = [(0, .slice ao n cap), (3, .int .i64 (k : Int))] ∧ hp_ = [R] ∧ k = ms_ ∧ (k ≤ n) ∧ (∀ i, k ≤ i → l.getD i 0 = 0)) ?_ (.refl _) ⟨n, rfl, rfl, rfl, Nat.le_refl _, fun i hi => by rw [List.getD_eq_getElem?_getD, List.getElem?_eq_none (by omega)]; rfl⟩ ?_
  · exact .cons (by first | exact lkI rfl (by omega) | rfl) (.cons (by first | exact lkI rfl (by omega) | rfl) .nil)
  rintro _ _ _ ⟨k, rfl, rfl, rfl, hk, hz⟩
  refine At.seq fun K4 hk_4 => ?_
  refine At.seq fun K5 hk_5 => ?_
  refine At.region ?_
  refine op_move (nxlf rfl) rfl rfl ?_
  refine op_gtr (nxlf rfl) rfl rfl rfl ?_
  refine op_move (nxlf rfl) rfl rfl ?_
  refine At.partP (d := 8) rfl (fun g8 => ?_) (fun g8 => ?_)
  · refine op_move (nxgf rfl rfl rfl rfl) rfl rfl ?_
    refine op_move (nxgf rfl rfl rfl rfl) rfl rfl ?_
    refine op_subI (nxgf rfl rfl rfl rfl) rfl rfl (by omega) (by omega) rfl ?_
    refine op_idx1 (nxgf rfl rfl rfl rfl) se145 rfl rfl (by assumption) (show _ = (((k - 1 : Nat)) : Int) from by omega) (by omega) rfl ?_
    refine op_loadE (nxgf rfl rfl rfl rfl) sc44 rfl (by assumption) (by first | exact get8 (by omega) | exact get64 (by omega) | exact get32 (by omega)) (by first | exact mem0 | exact mem1 | exact mem2 | exact mem3 | exact mem4 | exact mem5 | exact mem6 | exact mem7 | exact mem8 | exact mem9) rfl ?_
    refine op_eql (nxgf rfl rfl rfl rfl) rfl rfl rfl ?_
    refine op_pickT (nxlf rfl) rfl rfl rfl ?_
    refine At.opsNil ?_
    refine At.norm (hk_5 ?_)
    refine At.condP rfl (fun c15 => ?_) (fun c15 => ?_)
    · refine At.skip ?_
      refine At.norm (hk_4 ?_)
      refine At.block ?_
      refine At.region ?_
      refine op_move (nxlf rfl) rfl rfl ?_
      refine op_subI (nxlf rfl) rfl rfl (by omega) (by omega) rfl ?_
      refine op_assign (nxlf rfl) rfl rfl ?_
      refine At.opsNil ?_
      refine At.inNorm ?_
      refine At.norm ?_
      refine At.back ?_ (.refl _) ⟨k - 1, rfl, rfl, rfl, by omega, fun i hi => by rcases Nat.lt_or_ge i k with h | h; (rw [show i = k - 1 by omega]; exact u64_zero c15); exact hz i h⟩ ?_
      · exact .cons (by first | exact lkI rfl (by omega) | rfl) (.cons (by first | exact lkI rfl (by omega) | rfl) .nil)
      · omega
    · refine At.exit (At.thenExit (At.thenExit (At.inHit ?_)))
      refine At.norm (hk_3 ?_)
      refine At.seq fun K6 hk_6 => ?_
      refine At.region ?_
      refine op_move (nxlf rfl) rfl rfl ?_
      refine op_move (nxlf rfl) rfl rfl ?_
      refine op_move (nxlf rfl) rfl rfl ?_
      refine op_slice0 (nxlf rfl) se145 rfl (.some rfl (show _ = (((k : Nat)) : Int) from by omega)) (.some rfl (show _ = (((k : Nat)) : Int) from by omega)) (by omega) (by omega) (by simp) rfl ?_
      refine op_assign (nxlf rfl) rfl rfl ?_
      refine At.opsNil ?_
      refine At.norm (hk_6 ?_)
      refine At.ret (?_)
      refine At.ret1 (L1 := []) rfl (.tmp rfl .nil) (.refl _) (.refl _) ?_
      have ⟨e1, e2⟩ := trim_len (by omega) hz (.inr ⟨by omega, fun e => c15 (by rw [e]; rfl)⟩); rw [e2]; exact ⟨rfl, rfl, e1, hk⟩
  · refine op_skip rfl rfl rfl rfl rfl rfl rfl ?_
    refine op_skip rfl rfl rfl rfl rfl rfl rfl ?_
    refine op_skip rfl rfl rfl rfl rfl rfl rfl ?_
    refine op_skip rfl rfl rfl rfl rfl rfl rfl ?_
    refine op_skip rfl rfl rfl rfl rfl rfl rfl ?_
    refine op_skip rfl rfl rfl rfl rfl rfl rfl ?_
    refine op_pickF (nxlf rfl) rfl rfl rfl ?_
    refine At.opsNil ?_
    refine At.norm (hk_5 ?_)
    refine At.condF rfl ?_
    refine At.exit (At.thenExit (At.thenExit (At.inHit ?_)))
    refine At.norm (hk_3 ?_)
    refine At.seq fun K7 hk_7 => ?_
    refine At.region ?_
    refine op_move (nxlf rfl) rfl rfl ?_
    refine op_move (nxlf rfl) rfl rfl ?_
    refine op_move (nxlf rfl) rfl rfl ?_
    refine op_slice0 (nxlf rfl) se145 rfl (.some rfl (show _ = (((k : Nat)) : Int) from by omega)) (.some rfl (show _ = (((k : Nat)) : Int) from by omega)) (by omega) (by omega) (by simp) rfl ?_
    refine op_assign (nxlf rfl) rfl rfl ?_
    refine At.opsNil ?_
    refine At.norm (hk_7 ?_)
    refine At.ret (?_)
    refine At.ret1 (L1 := []) rfl (.tmp rfl .nil) (.refl _) (.refl _) ?_
    have ⟨e1, e2⟩ := trim_len (by omega) hz (.inl (by omega)); rw [e2]; exact ⟨rfl, rfl, e1, hk⟩
end Go.Proofs.YtlkjfbfenpkmhaaDoor
/- limb.From: the number of bytes. No condition. -/
namespace Go.Proofs.YtlkjfbfenpkmhaaDoor
set_option linter.unusedVariables false
set_option linter.unusedSimpArgs false
open Go Go.RowKit
end Go.Proofs.YtlkjfbfenpkmhaaDoor
