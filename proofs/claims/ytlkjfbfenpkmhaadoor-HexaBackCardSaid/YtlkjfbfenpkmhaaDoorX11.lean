/- Several texts in one: see the remarks ahead of each part. No condition but those told there. -/
import Derived.Test.YtlkjfbfenpkmhaaDoorX10
import Derived.Test.YtlkjfbfenpkmhaaDoorX4
import Derived.Test.YtlkjfbfenpkmhaaDoorX5
import Derived.Test.YtlkjfbfenpkmhaaDoorX6
import Derived.Test.YtlkjfbfenpkmhaaDoorX8
import Derived.Test.YtlkjfbfenpkmhaaDoorX3
/- Package word: all bits turned, order. No condition. -/
namespace Go.Proofs.YtlkjfbfenpkmhaaDoor
set_option linter.unusedVariables false
set_option linter.unusedSimpArgs false
open Go Go.RowKit
theorem not_round {w a : List UInt64} {k : Nat} (hw : w.length = k) (hv : v64 w + v64 (a.take k) + 1 = 2 ^ (64 * k)) :
    v64 (w ++ [~~~(a.getD k 0)]) + v64 (a.take (k + 1)) + 1 = 2 ^ (64 * (k + 1)) := by
  have h : (~~~(a.getD k 0)).toNat + (a.getD k 0).toNat + 1 = 18446744073709551616 := by
    have h1 := UInt64.toNat_not (a.getD k 0)
    have h2 := (a.getD k 0).toNat_lt
    have h3 : UInt64.size = 18446744073709551616 := rfl
    omega
  rw [v64_snoc, hw, v64_take_succD, pow64]
  have h2 := congrArg (2 ^ (64 * k) * ·) h
  simp only [Nat.mul_add, Nat.mul_one] at h2
  generalize (~~~(a.getD k 0)).toNat = s at *
  generalize (a.getD k 0).toNat = t at *
  omega
end Go.Proofs.YtlkjfbfenpkmhaaDoor
/- Plain laws on numbers in digits of 32 bits (out of those on limbs, by a program). No condition. -/
namespace Go.Proofs.YtlkjfbfenpkmhaaDoor
set_option linter.unusedVariables false
set_option linter.unusedSimpArgs false
theorem shr32_nat (x : UInt32) (s : Nat) : (shr32 x s).toNat = x.toNat / 2 ^ s := by
  rw [shr32, UInt32.toNat_ofNat', Nat.mod_eq_of_lt (Nat.lt_of_le_of_lt (Nat.div_le_self _ _) x.toNat_lt)]
theorem or_set32 {a : List UInt32} {q s w x : Nat} (hq : q < a.length) (hs : v32 a < 2 ^ (32 * q + s)) (hx : x < 2 ^ w) (hw : s + w ≤ 32) :
    v32 (a.set q (a.getD q 0 ||| UInt32.ofNat (x * 2 ^ s))) = v32 a + x * 2 ^ (32 * q + s) := by
  have hset := v32_set (a := a) (i := q) (y := a.getD q 0 ||| UInt32.ofNat (x * 2 ^ s)) hq
  have hdig := dig_v32 hq
  have hL : a[q].toNat < 2 ^ s := by
    rw [← hdig]
    refine Nat.lt_of_le_of_lt (Nat.mod_le _ _) ?_
    rw [Nat.div_lt_iff_lt_mul (Nat.pow_pos (by decide)), ← Nat.pow_add]
    rwa [Nat.add_comm s]
  have hc : x * 2 ^ s < 2 ^ 32 := by
    refine Nat.lt_of_lt_of_le (Nat.mul_lt_mul_of_pos_right hx (Nat.pow_pos (by decide))) ?_
    rw [← Nat.pow_add]
    exact Nat.pow_le_pow_right (by decide) (by omega)
  have hor : (a.getD q 0 ||| UInt32.ofNat (x * 2 ^ s)).toNat = a[q].toNat + x * 2 ^ s := by
    rw [List.getD_eq_getElem?_getD, List.getElem?_eq_getElem hq, Option.getD_some, UInt32.toNat_or, UInt32.toNat_ofNat', Nat.mod_eq_of_lt hc, Nat.or_comm, nat_join s _ _ (Nat.mul_mod_left _ _) hL, Nat.add_comm]
  rw [hor, Nat.add_mul, Nat.mul_assoc, ← Nat.pow_add, Nat.add_comm s] at hset
  omega
theorem v32_snoc (w : List UInt32) (x : UInt32) : v32 (w ++ [x]) = v32 w + 2 ^ (32 * w.length) * x.toNat := by
  rw [v32_append]
  simp only [v32, n32, val, List.map_cons, List.map_nil, Nat.mul_zero, Nat.add_zero]
theorem v32_take_all {l : List UInt32} {k : Nat} (h : l.length ≤ k) : v32 (l.take k) = v32 l := by rw [List.take_of_length_le h]
theorem v32_take_succD (l : List UInt32) (k : Nat) : v32 (l.take (k + 1)) = v32 (l.take k) + 2 ^ (32 * k) * (l.getD k 0).toNat := by
  rcases Nat.lt_or_ge k l.length with h | h
  · rw [v32_take_succ h, Nat.mul_comm]
  · rw [v32_take_all h, v32_take_all (by omega), List.getD_eq_getElem?_getD, List.getElem?_eq_none h]
    simp
theorem pow32 (k : Nat) : (2 : Nat) ^ (32 * (k + 1)) = 2 ^ (32 * k) * 4294967296 := by rw [show 32 * (k + 1) = 32 * k + 32 by omega, Nat.pow_add]
theorem v32_setD {p : List UInt32} {j : Nat} {y : UInt32} (h : j < p.length) : v32 (p.set j y) + (p.getD j 0).toNat * 2 ^ (32 * j) = v32 p + y.toNat * 2 ^ (32 * j) := by
  have := v32_set (y := y) h
  rwa [List.getD_eq_getElem?_getD, List.getElem?_eq_getElem h]
theorem digs_mono {A B : Nat} (h : A ≤ B) : (digsOf A).length ≤ (digsOf B).length := by
  rw [length_digsOf, length_digsOf]
  have := bitLen_mono h
  omega
theorem v32_split {l : List UInt32} {j : Nat} (h : j < l.length) : v32 l = v32 (l.take j) + 2 ^ (32 * j) * ((l.getD j 0).toNat + 4294967296 * v32 (l.drop (j + 1))) := by
  have e : l = l.take (j + 1) ++ l.drop (j + 1) := (List.take_append_drop _ _).symm
  conv => lhs; rw [e]
  rw [v32_append, List.length_take, Nat.min_eq_left (by omega), v32_take_succD, pow32, Nat.mul_add, Nat.mul_assoc, Nat.add_assoc]
theorem digit_at (l : List UInt32) (i : Nat) : v32 l / 2 ^ (32 * i) % 2 ^ 32 = (l.getD i 0).toNat := by
  rcases Nat.lt_or_ge i l.length with h | h
  · rw [dig_v32 h, List.getD_eq_getElem?_getD, List.getElem?_eq_getElem h]; rfl
  · rw [getD_big h, Nat.div_eq_of_lt (Nat.lt_of_lt_of_le (v32_lt l) (Nat.pow_le_pow_right (by decide) (by omega)))]; rfl
theorem bit_at32 (l : List UInt32) (i : Nat) : (shr32 (l.getD (i / 32) 0) (i % 32) &&& 1).toNat = v32 l / 2 ^ i % 2 := by
  rw [UInt32.toNat_and, shr32_nat, ← digit_at]
  have e : (2 : Nat) ^ i = 2 ^ (32 * (i / 32)) * 2 ^ (i % 32) := by rw [← Nat.pow_add]; congr 1; omega
  rw [e, ← Nat.div_div_eq_div_mul]
  generalize v32 l / 2 ^ (32 * (i / 32)) = W
  have hr : i % 32 < 32 := Nat.mod_lt _ (by decide)
  generalize i % 32 = r at *
  rw [show ((1 : UInt32).toNat) = 2 ^ 1 - 1 from rfl, Nat.and_two_pow_sub_one_eq_mod]
  rw [show (2 : Nat) ^ 32 = 2 ^ r * 2 ^ (32 - r) from by rw [← Nat.pow_add]; congr 1; omega, Nat.mod_mul_right_div_self]
  exact Nat.mod_mod_of_dvd _ (Nat.pow_dvd_pow 2 (by omega))
theorem bit_big32 {l : List UInt32} {i : Nat} (h : l.length ≤ i / 32) : v32 l / 2 ^ i % 2 = 0 := by
  rw [Nat.div_eq_of_lt (Nat.lt_of_lt_of_le (v32_lt l) (Nat.pow_le_pow_right (by decide) (by omega)))]
theorem v32_pad (a : List UInt32) (m : Nat) : v32 (a ++ List.replicate m 0) = v32 a := by rw [v32_append, v32_replicate]; simp
theorem v32_cons (x : UInt32) (l : List UInt32) : v32 (x :: l) = x.toNat + 4294967296 * v32 l := by simp [v32, n32, val]
theorem v32_top2 {u : List UInt32} {n : Nat} (hu : u.length = n + 1) (hn : 1 ≤ n) : v32 u = v32 (u.take (n - 1)) + 2 ^ (32 * (n - 1)) * ((u.getD n 0).toNat * 4294967296 + (u.getD (n - 1) 0).toNat) := by
  have h := v32_split (l := u) (j := n - 1) (by omega)
  rw [show n - 1 + 1 = n by omega] at h
  have e : v32 (u.drop n) = (u.getD n 0).toNat := by
    rw [List.drop_eq_getElem_cons (by omega), List.drop_of_length_le (by omega), List.getD_eq_getElem?_getD, List.getElem?_eq_getElem (by omega)]
    simp [v32, n32, val]
  rw [h, e]
  congr 2
  omega
theorem v32_top1 {v : List UInt32} {n : Nat} (hv : v.length = n) (hn : 1 ≤ n) : v32 v = v32 (v.take (n - 1)) + 2 ^ (32 * (n - 1)) * (v.getD (n - 1) 0).toNat := by
  have h := v32_take_succD v (n - 1)
  rw [show n - 1 + 1 = n by omega, v32_take_all (by omega)] at h
  exact h
theorem qhat_ge32 {u v : List UInt32} {n Q : Nat} (hu : u.length = n + 1) (hv : v.length = n) (hn : 1 ≤ n) (hQ : Q * v32 v ≤ v32 u) (h0 : 0 < (v.getD (n - 1) 0).toNat) :
    Q ≤ ((u.getD n 0).toNat * 4294967296 + (u.getD (n - 1) 0).toNat) / (v.getD (n - 1) 0).toNat := by
  rw [Nat.le_div_iff_mul_le h0]
  have h1 := v32_top2 hu hn
  have h2 := v32_top1 hv hn
  have h3 : v32 (u.take (n - 1)) < 2 ^ (32 * (n - 1)) := v32_take_lt _ _
  generalize (u.getD n 0).toNat * 4294967296 + (u.getD (n - 1) 0).toNat = T at *
  generalize (v.getD (n - 1) 0).toNat = y at *
  generalize 2 ^ (32 * (n - 1)) = P at *
  have h4 : P * (Q * y) ≤ Q * v32 v := by
    rw [h2, Nat.mul_add, Nat.mul_left_comm Q]; omega
  have h5 : P * (Q * y) < P * (T + 1) := by rw [Nat.mul_add P T, Nat.mul_one]; omega
  have h6 := Nat.lt_of_mul_lt_mul_left h5
  omega
theorem v32_drop_zero {G : List UInt32} {k n : Nat} (h : v32 (G.drop k) < 2 ^ (32 * n)) : v32 (G.drop (k + n)) = 0 := by
  have e : G.drop k = (G.drop k).take n ++ G.drop (k + n) := by
    conv => lhs; rw [← List.take_append_drop n (G.drop k)]
    rw [List.drop_drop]
  rcases Nat.lt_or_ge (G.drop k).length n with h1 | h1
  · rw [List.drop_of_length_le (by rw [List.length_drop] at h1; omega)]; rfl
  · rw [e, v32_append, List.length_take, Nat.min_eq_left h1] at h
    rcases Nat.eq_zero_or_pos (v32 (G.drop (k + n))) with h2 | h2
    · exact h2
    · have := Nat.mul_le_mul_left (2 ^ (32 * n)) h2
      omega
theorem v32_take_drop (G : List UInt32) {k : Nat} (h : k ≤ G.length) : v32 G = v32 (G.take k) + 2 ^ (32 * k) * v32 (G.drop k) := by
  conv => lhs; rw [← List.take_append_drop k G]
  rw [v32_append, List.length_take, Nat.min_eq_left h]
theorem win_lt32 {G : List UInt32} {j n V : Nat} (hj : j < G.length) (hV : v32 (G.drop (j + 1)) < V) (hVn : V ≤ 2 ^ (32 * n)) :
    v32 ((G.drop j).take (n + 1)) < V * 4294967296 ∧ v32 (G.drop (j + (n + 1))) = 0 ∧ v32 ((G.drop j).take (n + 1)) = v32 (G.drop j) := by
  have hz : v32 (G.drop (j + (n + 1))) = 0 := by
    rw [show j + (n + 1) = (j + 1) + n by omega]
    exact v32_drop_zero (Nat.lt_of_lt_of_le hV hVn)
  have e1 : v32 ((G.drop j).take (n + 1)) = v32 (G.drop j) := by
    have h := congrArg v32 (List.take_append_drop (n + 1) (G.drop j))
    rw [v32_append, List.drop_drop, hz, Nat.mul_zero, Nat.add_zero] at h
    exact h
  refine ⟨?_, hz, e1⟩
  have e2 : v32 (G.drop j) = (G.getD j 0).toNat + 4294967296 * v32 (G.drop (j + 1)) := by
    rw [List.drop_eq_getElem_cons hj, v32_cons, List.getD_eq_getElem?_getD, List.getElem?_eq_getElem hj]
    rfl
  have h1 := (G.getD j 0).toNat_lt
  rw [e1, e2]
  omega
theorem div_round32 {G u' qs h : List UInt32} {j n V U : Nat} {q : UInt32} (hj : j + (n + 1) ≤ G.length) (hqs : qs = List.replicate (j + 1) 0 ++ h) (hv : v32 G + v32 qs * V = U) (hw : v32 ((G.drop j).take (n + 1)) = v32 (G.drop j)) (hz : v32 (G.drop (j + (n + 1))) = 0)
    (hu : u'.length = n + 1) (hq : q.toNat = v32 ((G.drop j).take (n + 1)) / V) (hr : v32 u' = v32 ((G.drop j).take (n + 1)) % V) (hV : 0 < V) :
    v32 (G.take j ++ u' ++ G.drop (j + (n + 1))) + v32 (qs.set j q) * V = U ∧ v32 ((G.take j ++ u' ++ G.drop (j + (n + 1))).drop j) < V ∧ qs.set j q = List.replicate j 0 ++ (q :: h) := by
  have e0 : qs.set j q = List.replicate j 0 ++ (q :: h) := by
    rw [hqs, List.replicate_succ', List.append_assoc, List.cons_append, List.nil_append, set_mid (by simp)]
    simp
  have e1 : v32 (qs.set j q) = v32 qs + 2 ^ (32 * j) * q.toNat := by
    rw [e0, hqs, v32_append, v32_append, v32_replicate, v32_replicate, List.length_replicate, List.length_replicate, pow32]
    have : v32 (q :: h) = q.toNat + 4294967296 * v32 h := by simp [v32, n32, val]
    rw [this, Nat.mul_add, Nat.mul_assoc]
    omega
  have e2 : v32 (G.take j ++ u' ++ G.drop (j + (n + 1))) = v32 (G.take j) + 2 ^ (32 * j) * v32 u' := by
    rw [v32_append, hz, v32_append, List.length_take, Nat.min_eq_left (by omega)]; simp
  have e3 := v32_take_drop G (k := j) (by omega)
  rw [← hw] at e3
  have e4 := Nat.div_add_mod (v32 ((G.drop j).take (n + 1))) V
  rw [← hr, ← hq] at e4
  refine ⟨?_, ?_, e0⟩
  · rw [e2, e1, Nat.add_mul, ← hv, e3, ← e4, Nat.mul_add (2 ^ (32 * j)), Nat.mul_comm V, Nat.mul_assoc]
    omega
  · rw [List.append_assoc, List.drop_append_of_le_length (by rw [List.length_take]; omega), List.drop_of_length_le (by rw [List.length_take]; omega), List.nil_append, v32_append, hz, hr]
    simp only [Nat.mul_zero, Nat.add_zero]
    exact Nat.mod_lt _ hV
theorem digs_top {V : Nat} (h : 0 < V) : 1 ≤ (digsOf V).length ∧ 0 < ((digsOf V).getD ((digsOf V).length - 1) 0).toNat := by
  have hl := length_digsOf V
  have hb := bitLen_pos h
  have h1 : 1 ≤ (digsOf V).length := by omega
  refine ⟨h1, ?_⟩
  rcases Nat.eq_zero_or_pos ((digsOf V).getD ((digsOf V).length - 1) 0).toNat with h0 | h0
  · exfalso
    have e := v32_top1 (v := digsOf V) rfl h1
    rw [h0, Nat.mul_zero, Nat.add_zero, v32_digsOf] at e
    have hlt := v32_take_lt (digsOf V) ((digsOf V).length - 1)
    rw [← e] at hlt
    have := digLen_le.2 hlt
    omega
  · exact h0
end Go.Proofs.YtlkjfbfenpkmhaaDoor
/- Plain laws on numbers in digits of 32 bits that are reckoned in words of 64 bits. No condition. -/
namespace Go.Proofs.YtlkjfbfenpkmhaaDoor
set_option linter.unusedVariables false
set_option linter.unusedSimpArgs false
open Go Go.RowKit
theorem getD_right {α : Type} {p r : List α} {i k : Nat} {z : α} (h : p.length = i) : (p ++ r).getD (i + k) z = r.getD k z := by
  subst h
  rw [List.getD_eq_getElem?_getD, List.getD_eq_getElem?_getD, List.getElem?_append_right (by omega), Nat.add_sub_cancel_left]
/-- The lower half of a limb. -/
def lo32 (s : UInt64) : UInt32 := UInt32.ofNat s.toNat
theorem lo32_nat (s : UInt64) : (lo32 s).toNat = s.toNat % 4294967296 := by rw [lo32, UInt32.toNat_ofNat']
theorem lo_hi (s : UInt64) : (lo32 s).toNat + (shr64 s 32).toNat * 4294967296 = s.toNat := by
  rw [lo32_nat, shr64_nat]
  have := Nat.mod_add_div s.toNat 4294967296
  rw [show (2 : Nat) ^ 32 = 4294967296 from rfl, Nat.mul_comm]
  exact this
theorem of32 (x : UInt32) : (UInt64.ofNat x.toNat).toNat = x.toNat := by
  rw [UInt64.toNat_ofNat']
  exact Nat.mod_eq_of_lt (Nat.lt_trans x.toNat_lt (by decide))
theorem add64n {a b : UInt64} (h : a.toNat + b.toNat < 18446744073709551616) : (a + b).toNat = a.toNat + b.toNat := by rw [UInt64.toNat_add]; exact Nat.mod_eq_of_lt h
theorem sub64n {a b : UInt64} (h : b.toNat ≤ a.toNat) : (a - b).toNat = a.toNat - b.toNat := UInt64.toNat_sub_of_le _ _ (by rw [UInt64.le_iff_toNat_le]; exact h)
theorem mul64n {a b : UInt64} (ha : a.toNat ≤ 4294967295) (hb : b.toNat ≤ 4294967295) : (a * b).toNat = a.toNat * b.toNat ∧ a.toNat * b.toNat ≤ 18446744065119617025 := by
  have h := Nat.mul_le_mul ha hb
  exact ⟨by rw [UInt64.toNat_mul]; exact Nat.mod_eq_of_lt (Nat.lt_of_le_of_lt h (by decide)), h⟩
theorem dlt (l : List UInt32) (k : Nat) : (l.getD k 0).toNat ≤ 4294967295 := by have := (l.getD k 0).toNat_lt; omega
theorem add_round32 {w a b : List UInt32} {k : Nat} {c s : UInt64} (hw : w.length = k) (hv : v32 w + c.toNat * 2 ^ (32 * k) = v32 (a.take k) + v32 (b.take k)) (hs : s.toNat = c.toNat + (a.getD k 0).toNat + (b.getD k 0).toNat) :
    v32 (w ++ [lo32 s]) + (shr64 s 32).toNat * 2 ^ (32 * (k + 1)) = v32 (a.take (k + 1)) + v32 (b.take (k + 1)) := by
  have h := lo_hi s
  rw [hs] at h
  rw [v32_snoc, hw, v32_take_succD, v32_take_succD, pow32]
  have h2 := congrArg (2 ^ (32 * k) * ·) h
  simp only [Nat.mul_add] at h2
  have e : (shr64 s 32).toNat * (2 ^ (32 * k) * 4294967296) = 2 ^ (32 * k) * ((shr64 s 32).toNat * 4294967296) := by rw [Nat.mul_left_comm]
  rw [e]
  rw [Nat.mul_comm c.toNat] at hv
  omega
theorem sub_round32 {w a b : List UInt32} {k c c' y : Nat} {d : UInt32} (hw : w.length = k) (hv : v32 w + v32 (b.take k) = v32 (a.take k) + c * 2 ^ (32 * k)) (hd : d.toNat + y + c = (a.getD k 0).toNat + c' * 4294967296) (hy : y = (b.getD k 0).toNat) :
    v32 (w ++ [d]) + v32 (b.take (k + 1)) = v32 (a.take (k + 1)) + c' * 2 ^ (32 * (k + 1)) := by
  subst hy
  rw [v32_snoc, hw, v32_take_succD, v32_take_succD, pow32]
  have h2 := congrArg (2 ^ (32 * k) * ·) hd
  simp only [Nat.mul_add] at h2
  have e : c' * (2 ^ (32 * k) * 4294967296) = 2 ^ (32 * k) * (c' * 4294967296) := by rw [Nat.mul_left_comm]
  rw [e]
  rw [Nat.mul_comm c] at hv
  omega
theorem mul_round32 {p b : List UInt32} {i k V x : Nat} {c s : UInt64} (hj : i + k < p.length) (hv : v32 p + c.toNat * 2 ^ (32 * (i + k)) = V + 2 ^ (32 * i) * (x * v32 (b.take k))) (hs : s.toNat = x * (b.getD k 0).toNat + (p.getD (i + k) 0).toNat + c.toNat) :
    v32 (p.set (i + k) (lo32 s)) + (shr64 s 32).toNat * 2 ^ (32 * (i + (k + 1))) = V + 2 ^ (32 * i) * (x * v32 (b.take (k + 1))) := by
  have h := lo_hi s
  rw [hs] at h
  have h1 := v32_setD (y := lo32 s) hj
  have eE : 2 ^ (32 * i) * 2 ^ (32 * k) = 2 ^ (32 * (i + k)) := by rw [← Nat.pow_add, Nat.mul_add]
  rw [v32_take_succD, ← Nat.add_assoc, pow32]
  have e1 : 2 ^ (32 * i) * (x * (v32 (b.take k) + 2 ^ (32 * k) * (b.getD k 0).toNat)) = 2 ^ (32 * i) * (x * v32 (b.take k)) + 2 ^ (32 * (i + k)) * (x * (b.getD k 0).toNat) := by
    rw [← eE, Nat.mul_add, Nat.mul_add, Nat.mul_left_comm x, ← Nat.mul_assoc _ (2 ^ (32 * k))]
  rw [e1]
  generalize 2 ^ (32 * (i + k)) = T at *
  have h2 := congrArg (T * ·) h
  simp only [Nat.mul_add] at h2
  have e2 : (shr64 s 32).toNat * (T * 4294967296) = T * ((shr64 s 32).toNat * 4294967296) := by rw [Nat.mul_left_comm]
  rw [e2]
  rw [Nat.mul_comm c.toNat] at hv
  rw [Nat.mul_comm (p.getD (i + k) 0).toNat, Nat.mul_comm (lo32 s).toNat] at h1
  omega
theorem mul_outer32 {p a b : List UInt32} {i : Nat} {c : UInt64} (hp : p.length = i + b.length) (hc : c.toNat < 4294967296) (hv : v32 p + c.toNat * 2 ^ (32 * (i + b.length)) = v32 (a.take i) * v32 b + 2 ^ (32 * i) * ((a.getD i 0).toNat * v32 (b.take b.length))) :
    v32 (p ++ [lo32 c]) = v32 (a.take (i + 1)) * v32 b := by
  rw [v32_snoc, hp, v32_take_succD, Nat.add_mul, Nat.mul_assoc, Nat.mul_comm _ (lo32 c).toNat, lo32_nat, Nat.mod_eq_of_lt hc, hv, List.take_length]
theorem carry_lt {s : UInt64} : (shr64 s 32).toNat < 4294967296 := by
  rw [shr64_nat]; have := s.toNat_lt; omega
/-- Two digits side by side, shifted to the right. -/
theorem shr_digit {l : List UInt32} {j r : Nat} (hr : r < 32) {w : UInt64} (hw : w.toNat = (l.getD j 0).toNat + (l.getD (j + 1) 0).toNat * 4294967296) : UInt32.ofNat (v32 l / 2 ^ (32 * j + r)) = lo32 (shr64 w r) := by
  apply UInt32.toNat_inj.1
  rw [UInt32.toNat_ofNat', lo32_nat, shr64_nat, hw, ← digit_at, ← digit_at, Nat.pow_add, ← Nat.div_div_eq_div_mul]
  have e : v32 l / 2 ^ (32 * (j + 1)) = v32 l / 2 ^ (32 * j) / 4294967296 := by rw [pow32, Nat.div_div_eq_div_mul]
  rw [e]
  generalize v32 l / 2 ^ (32 * j) = W
  have e2 : W % 2 ^ 32 + W / 4294967296 % 2 ^ 32 * 4294967296 = W % 18446744073709551616 := by
    have := Nat.mod_mul (x := W) (a := 4294967296) (b := 4294967296)
    rw [Nat.mul_comm _ (W / 4294967296 % 4294967296)] at this
    exact this.symm
  rw [e2, show (18446744073709551616 : Nat) = 2 ^ r * 2 ^ (64 - r) from by rw [← Nat.pow_add, show r + (64 - r) = 64 by omega], Nat.mod_mul_right_div_self, show (4294967296 : Nat) = 2 ^ 32 from rfl, Nat.mod_mod_of_dvd _ (Nat.pow_dvd_pow 2 (by omega))]
theorem digsN_succ (k N : Nat) : digsN (k + 1) N = digsN k N ++ [UInt32.ofNat (N / 2 ^ (32 * k))] := by
  simp [digsN, List.range_succ]
theorem trim32d {N : Heaplet} {ao : Option Addr} {n cap : Nat} {l : List UInt32} (h : RSl N 1 ao n cap (u32s l)) (ht : l.take (digsOf (v32 l)).length = digsOf (v32 l)) (hle : (digsOf (v32 l)).length ≤ n) :
    RSl N 1 ao (digsOf (v32 l)).length cap (u32s (digsOf (v32 l))) := by
  have := h.take (hi := (digsOf (v32 l)).length) (m := cap) (Nat.le_trans hle h.2.1) (Nat.le_refl _) hle
  rwa [Nat.mul_one, u32s_take, ht] at this
/-- Digits in new memory: a number without zeros at its upper end. -/
def DigsP (V : Nat) (v : Value) (L : List Heaplet) : Prop :=
  ∃ M a c, v = .slice a (digsOf V).length c ∧ L = [M] ∧ RSl M 1 a (digsOf V).length c (u32s (digsOf V))
theorem split_mod {x P Q B : Nat} (h : B = P * Q) : x * Q % B = x % P * Q := by subst h; exact Nat.mul_mod_mul_right ..
theorem split_div {x P Q B : Nat} (h : B = P * Q) (hQ : 0 < Q) : x * Q / B = x / P := by subst h; exact Nat.mul_div_mul_right _ _ hQ
theorem shl_step {c : List UInt32} {j r x : Nat} (hj : j + 1 < c.length) (hr : r < 32) (hx : x < 4294967296) (hc : v32 c < 2 ^ (32 * j + r)) {w : UInt64} (hw : w.toNat = x * 2 ^ r) :
    v32 ((c.set j (c.getD j 0 ||| lo32 w)).set (j + 1) ((c.set j (c.getD j 0 ||| lo32 w)).getD (j + 1) 0 ||| lo32 (shr64 w 32))) = v32 c + x * 2 ^ (32 * j + r) := by
  have e32 : (4294967296 : Nat) = 2 ^ (32 - r) * 2 ^ r := by rw [← Nat.pow_add, show 32 - r + r = 32 by omega]
  have hp : 0 < 2 ^ (32 - r) := Nat.pow_pos (by decide)
  have hlt : x % 2 ^ (32 - r) * 2 ^ r < 2 ^ 32 := by
    have h := Nat.mul_lt_mul_of_pos_right (Nat.mod_lt x hp) (show 0 < 2 ^ r from Nat.pow_pos (by decide))
    rwa [← e32] at h
  have hlo : lo32 w = UInt32.ofNat (x % 2 ^ (32 - r) * 2 ^ r) := by
    apply UInt32.toNat_inj.1
    rw [lo32_nat, hw, UInt32.toNat_ofNat', Nat.mod_eq_of_lt hlt]
    exact split_mod e32
  have hhi : lo32 (shr64 w 32) = UInt32.ofNat (x / 2 ^ (32 - r) * 2 ^ 0) := by
    have e : w.toNat / 4294967296 = x / 2 ^ (32 - r) := by
      rw [hw]
      exact split_div e32 (Nat.pow_pos (by decide))
    rw [lo32, shr64_nat, show (2 : Nat) ^ 32 = 4294967296 from rfl, e, Nat.pow_zero, Nat.mul_one]
  have h1 := or_set32 (a := c) (q := j) (s := r) (w := 32 - r) (x := x % 2 ^ (32 - r)) (by omega) hc (Nat.mod_lt _ hp) (by omega)
  rw [← hlo] at h1
  have hsum : v32 c + x % 2 ^ (32 - r) * 2 ^ (32 * j + r) < 2 ^ (32 * (j + 1) + 0) := by
    have h2 : x % 2 ^ (32 - r) + 1 ≤ 2 ^ (32 - r) := Nat.mod_lt _ hp
    have h3 := Nat.mul_le_mul_right (2 ^ (32 * j + r)) h2
    rw [Nat.add_mul, Nat.one_mul, ← Nat.pow_add, show 32 - r + (32 * j + r) = 32 * (j + 1) + 0 by omega] at h3
    omega
  have hx2 : x / 2 ^ (32 - r) < 2 ^ r := by
    rw [Nat.div_lt_iff_lt_mul hp, Nat.mul_comm, ← e32]; exact hx
  have h4 := or_set32 (a := c.set j (c.getD j 0 ||| lo32 w)) (q := j + 1) (s := 0) (w := r) (x := x / 2 ^ (32 - r)) (by rw [List.length_set]; omega) (by rw [h1]; exact hsum) hx2 (by omega)
  rw [← hhi] at h4
  have e5 : (2 : Nat) ^ (32 * (j + 1) + 0) = 2 ^ (32 - r) * 2 ^ (32 * j + r) := by rw [← Nat.pow_add, show 32 * (j + 1) + 0 = 32 - r + (32 * j + r) by omega]
  have e6 : x % 2 ^ (32 - r) * 2 ^ (32 * j + r) + x / 2 ^ (32 - r) * 2 ^ (32 * (j + 1) + 0) = x * 2 ^ (32 * j + r) := by
    rw [e5, ← Nat.mul_assoc, ← Nat.add_mul, Nat.mul_comm (x / 2 ^ (32 - r)), Nat.mod_add_div]
  rw [h4, h1, Nat.add_assoc, e6]
end Go.Proofs.YtlkjfbfenpkmhaaDoor
/- The reference's Add, Sub, Mul: numbers in digits of 32 bits. Condition: numbers of at most 2^40 digits; for Sub: the second is no greater. -/
namespace Go.Proofs.YtlkjfbfenpkmhaaDoor
set_option linter.unusedVariables false
set_option linter.unusedSimpArgs false
open Go Go.RowKit
theorem rAdd_f {N M : Heaplet} {ao bo : Option Addr} {n m ca cb : Nat} {a b : List UInt32} (ha : RSl N 1 ao n ca (u32s a)) (hb : RSl M 1 bo m cb (u32s b)) (hn : n ≤ 1099511627776) (hm : m ≤ 1099511627776) :
    Fn Tryd.prog 44 #[.slice ao n ca, .slice bo m cb] [] [N, M] (DigsP (v32 a + v32 b)) := by
  have hca := ha.cap63
  have hcb := hb.cap63
  have hal := ha.len32
  have hbl := hb.len32
  refine Fn.enter (vs := [.slice ao n ca, .slice bo m cb]) Tryd.func44 rfl rfl rfl ?_
  intro E R hR
  have ha := ha.le (hR N (by simp))
  have hb := hb.le (hR M (by simp))
  change At _ _ E [R] _
  refine At.seq fun K1 hk_1 => ?_
  refine At.region ?_
  refine op_assign (nxlf rfl) rfl rfl ?_
  refine At.opsNil ?_
  refine At.norm (hk_1 ?_)
  refine At.seq fun K2 hk_2 => ?_
  refine At.region ?_
  refine op_move (nxlf rfl) rfl rfl ?_
  refine op_lenS (nxlf rfl) se85 rfl rfl ?_
  refine op_assign (nxlf rfl) rfl rfl ?_
  refine At.opsNil ?_
  refine At.norm (hk_2 ?_)
  refine At.seq fun K3 hk_3 => ?_
  refine At.meet (fun fr_ hp_ => ∃ (K : Nat), fr_ = [(0, .slice ao n ca), (1, .slice bo m cb), (5, .int .i64 (K : Int))] ∧ hp_ = [R] ∧ (n ≤ K) ∧ (m ≤ K) ∧ (K ≤ 1099511627776)) ?_ (fun K3_ jk_3 => ?_)
  rotate_left
  · skip
    refine At.seq fun K4 hk_4 => ?_
    refine At.region ?_
    refine op_move (nxlf rfl) rfl rfl ?_
    refine op_lenS (nxlf rfl) se85 rfl rfl ?_
    refine op_move (nxlf rfl) rfl rfl ?_
    refine op_gtr (nxlf rfl) rfl rfl rfl ?_
    refine At.opsNil ?_
    refine At.norm (hk_4 ?_)
    refine At.condP rfl (fun c15 => ?_) (fun c15 => ?_)
    · refine At.region ?_
      refine op_move (nxlf rfl) rfl rfl ?_
      refine op_lenS (nxlf rfl) se85 rfl rfl ?_
      refine op_assign (nxlf rfl) rfl rfl ?_
      refine At.opsNil ?_
      refine At.norm (jk_3 ?_ (.refl _) ⟨m, rfl, rfl, by omega, by omega, hm⟩)
      exact .cons (by first | exact lkI rfl (by omega) | rfl) (.cons (by first | exact lkI rfl (by omega) | rfl) (.cons (by first | exact lkI rfl (by omega) | rfl) .nil))
    · refine At.skip ?_
      refine At.norm (jk_3 ?_ (.refl _) ⟨n, rfl, rfl, by omega, by omega, hn⟩)
      exact .cons (by first | exact lkI rfl (by omega) | rfl) (.cons (by first | exact lkI rfl (by omega) | rfl) (.cons (by first | exact lkI rfl (by omega) | rfl) .nil))
  rintro _ _ ⟨K, rfl, rfl, hK1, hK2, hK3⟩
  refine hk_3 ?_
  refine At.seq fun K5 hk_5 => ?_
  refine At.region ?_
  refine op_move (nxlf rfl) rfl rfl ?_
  refine op_addI (nxlf rfl) rfl rfl (by omega) (by omega) rfl ?_
  refine op_make (nxla rfl) Tryd.underlying85 te107 rfl rfl (show _ = (((K + 1 : Nat)) : Int) from by omega) (show _ = (((K + 1 : Nat)) : Int) from by omega) (by omega) (by unfold maxLen; omega) rfl (fun N20 a20 r20 => ?_)
  rw [made_one _ _ rfl, zero_u32s] at r20
  have s20 := r20.rsl
  refine op_assign (nxlf rfl) rfl rfl ?_
  refine At.opsNil ?_
  refine At.norm (hk_5 ?_)
  refine At.seq fun K6 hk_6 => ?_
  refine At.region ?_
  refine op_assign (nxlf rfl) rfl rfl ?_
  refine At.opsNil ?_
  refine At.norm (hk_6 ?_)
  refine At.seq fun K7 hk_7 => ?_
  refine At.seq fun K8 hk_8 => ?_
  refine At.region ?_
  refine op_assign (nxlf rfl) rfl rfl ?_
  refine At.opsNil ?_
  refine At.norm (hk_8 ?_)
  refine At.block ?_
  refine At.loop (fun fr_ hp_ ms_ => ∃ (k : Nat) (c : UInt64) (w : List UInt32) (N20 : Heaplet), fr_ = [(0, .slice ao n ca), (1, .slice bo m cb), (5, .int .i64 (K : Int)), (6, .slice a20 (K + 1) (K + 1)), (7, .int .u64 (c.toNat : Int)), (8, .int .i64 (k : Int))] ∧ hp_ = [N20, R] ∧ K + 1 - k = ms_ ∧ (k ≤ K + 1) ∧ (w.length = k) ∧ (c.toNat ≤ 1) ∧ (v32 w + c.toNat * 2 ^ (32 * k) = v32 (a.take k) + v32 (b.take k)) ∧ (Row N20 107 1 a20 (K + 1) (K + 1) (u32s (w ++ List.replicate (K + 1 - k) 0)))) ?_ (.refl _) ⟨0, 0, [], N20, rfl, rfl, rfl, by omega, rfl, by decide, by simp; rfl, r20⟩ ?_
  · exact .cons (by first | exact lkI rfl (by omega) | rfl) (.cons (by first | exact lkI rfl (by omega) | rfl) (.cons (by first | exact lkI rfl (by omega) | rfl) (.cons (by first | exact lkI rfl (by omega) | rfl) (.cons (by first | exact lkI rfl (by omega) | rfl) (.cons (by first | exact lkI rfl (by omega) | rfl) .nil)))))
  rintro _ _ _ ⟨k, c, w, N20, rfl, rfl, rfl, hk, hw, hc, hv, r20⟩
  have s20 := r20.rsl
  have hak := dlt a k
  have hbk := dlt b k
  refine At.seq fun K9 hk_9 => ?_
  refine At.seq fun K10 hk_10 => ?_
  refine At.region ?_
  refine op_move (nxlf rfl) rfl rfl ?_
  refine op_move (nxlf rfl) rfl rfl ?_
  refine op_addI (nxlf rfl) rfl rfl (by omega) (by omega) rfl ?_
  refine op_lss (nxlf rfl) rfl rfl rfl ?_
  refine At.opsNil ?_
  refine At.norm (hk_10 ?_)
  refine At.condP rfl (fun c24 => ?_) (fun c24 => ?_)
  · refine At.skip ?_
    refine At.norm (hk_9 ?_)
    refine At.seq fun K11 hk_11 => ?_
    refine At.block ?_
    refine At.seq fun K12 hk_12 => ?_
    refine At.region ?_
    refine op_move (nxlf rfl) rfl rfl ?_
    refine op_assign (nxlf rfl) rfl rfl ?_
    refine At.opsNil ?_
    refine At.norm (hk_12 ?_)
    refine At.seq fun K13 hk_13 => ?_
    refine At.meet (fun fr_ hp_ => ∃ (s1 : UInt64), fr_ = [(0, .slice ao n ca), (1, .slice bo m cb), (5, .int .i64 (K : Int)), (6, .slice a20 (K + 1) (K + 1)), (8, .int .i64 (k : Int)), (9, .int .u64 (s1.toNat : Int))] ∧ hp_ = [N20, R] ∧ (s1.toNat = c.toNat + (a.getD k 0).toNat)) ?_ (fun K13_ jk_13 => ?_)
    rotate_left
    · skip
      refine At.seq fun K14 hk_14 => ?_
      refine At.region ?_
      refine op_move (nxlf rfl) rfl rfl ?_
      refine op_move (nxlf rfl) rfl rfl ?_
      refine op_lenS (nxlf rfl) se85 rfl rfl ?_
      refine op_lss (nxlf rfl) rfl rfl rfl ?_
      refine At.opsNil ?_
      refine At.norm (hk_14 ?_)
      refine At.condP rfl (fun c31 => ?_) (fun c31 => ?_)
      · refine At.region ?_
        refine op_move (nxlf rfl) rfl rfl ?_
        refine op_move (nxlf rfl) rfl rfl ?_
        refine op_move (nxlf rfl) rfl rfl ?_
        refine op_idx1 (nxlf rfl) se85 rfl rfl ha (show _ = (((k : Nat)) : Int) from by omega) (by omega) rfl ?_
        refine op_loadE (nxlf rfl) sc107 rfl ha (by first | exact get8 (by omega) | exact get64 (by omega) | exact get32 (by omega)) (by first | exact mem0 | exact mem1 | exact mem2 | exact mem3 | exact mem4 | exact mem5 | exact mem6 | exact mem7 | exact mem8 | exact mem9) rfl ?_
        refine op_conv64 (nxlf rfl) (und_some Tryd.underlying107) Tryd.underlying44 rfl (by first | rfl | exact (Int.toNat_of_nonneg (by omega)).symm) rfl ?_
        refine op_addU (nxlf rfl) rfl rfl rfl ?_
        refine op_assign (nxlf rfl) rfl rfl ?_
        refine At.opsNil ?_
        refine At.norm (jk_13 ?_ (.refl _) ⟨c + UInt64.ofNat (a.getD k 0).toNat, rfl, rfl, by rw [add64n (by rw [of32]; omega), of32]⟩)
        exact .cons (by first | exact lkI rfl (by omega) | rfl) (.cons (by first | exact lkI rfl (by omega) | rfl) (.cons (by first | exact lkI rfl (by omega) | rfl) (.cons (by first | exact lkI rfl (by omega) | rfl) (.cons (by first | exact lkI rfl (by omega) | rfl) (.cons (by first | exact lkI rfl (by omega) | rfl) .nil)))))
      · have hz : (a.getD k 0).toNat = 0 := by rw [getD_big (by omega)]; rfl
        refine At.skip ?_
        refine At.norm (jk_13 ?_ (.refl _) ⟨c, rfl, rfl, by omega⟩)
        exact .cons (by first | exact lkI rfl (by omega) | rfl) (.cons (by first | exact lkI rfl (by omega) | rfl) (.cons (by first | exact lkI rfl (by omega) | rfl) (.cons (by first | exact lkI rfl (by omega) | rfl) (.cons (by first | exact lkI rfl (by omega) | rfl) (.cons (by first | exact lkI rfl (by omega) | rfl) .nil)))))
    rintro _ _ ⟨s1, rfl, rfl, hs1⟩
    refine hk_13 ?_
    refine At.seq fun K15 hk_15 => ?_
    refine At.meet (fun fr_ hp_ => ∃ (s2 : UInt64), fr_ = [(0, .slice ao n ca), (1, .slice bo m cb), (5, .int .i64 (K : Int)), (6, .slice a20 (K + 1) (K + 1)), (8, .int .i64 (k : Int)), (9, .int .u64 (s2.toNat : Int))] ∧ hp_ = [N20, R] ∧ (s2.toNat = s1.toNat + (b.getD k 0).toNat)) ?_ (fun K15_ jk_15 => ?_)
    rotate_left
    · skip
      refine At.seq fun K16 hk_16 => ?_
      refine At.region ?_
      refine op_move (nxlf rfl) rfl rfl ?_
      refine op_move (nxlf rfl) rfl rfl ?_
      refine op_lenS (nxlf rfl) se85 rfl rfl ?_
      refine op_lss (nxlf rfl) rfl rfl rfl ?_
      refine At.opsNil ?_
      refine At.norm (hk_16 ?_)
      refine At.condP rfl (fun c42 => ?_) (fun c42 => ?_)
      · refine At.region ?_
        refine op_move (nxlf rfl) rfl rfl ?_
        refine op_move (nxlf rfl) rfl rfl ?_
        refine op_move (nxlf rfl) rfl rfl ?_
        refine op_idx1 (nxlf rfl) se85 rfl rfl hb (show _ = (((k : Nat)) : Int) from by omega) (by omega) rfl ?_
        refine op_loadE (nxlf rfl) sc107 rfl hb (by first | exact get8 (by omega) | exact get64 (by omega) | exact get32 (by omega)) (by first | exact mem0 | exact mem1 | exact mem2 | exact mem3 | exact mem4 | exact mem5 | exact mem6 | exact mem7 | exact mem8 | exact mem9) rfl ?_
        refine op_conv64 (nxlf rfl) (und_some Tryd.underlying107) Tryd.underlying44 rfl (by first | rfl | exact (Int.toNat_of_nonneg (by omega)).symm) rfl ?_
        refine op_addU (nxlf rfl) rfl rfl rfl ?_
        refine op_assign (nxlf rfl) rfl rfl ?_
        refine At.opsNil ?_
        refine At.norm (jk_15 ?_ (.refl _) ⟨s1 + UInt64.ofNat (b.getD k 0).toNat, rfl, rfl, by rw [add64n (by rw [of32]; omega), of32]⟩)
        exact .cons (by first | exact lkI rfl (by omega) | rfl) (.cons (by first | exact lkI rfl (by omega) | rfl) (.cons (by first | exact lkI rfl (by omega) | rfl) (.cons (by first | exact lkI rfl (by omega) | rfl) (.cons (by first | exact lkI rfl (by omega) | rfl) (.cons (by first | exact lkI rfl (by omega) | rfl) .nil)))))
      · have hz : (b.getD k 0).toNat = 0 := by rw [getD_big (by omega)]; rfl
        refine At.skip ?_
        refine At.norm (jk_15 ?_ (.refl _) ⟨s1, rfl, rfl, by omega⟩)
        exact .cons (by first | exact lkI rfl (by omega) | rfl) (.cons (by first | exact lkI rfl (by omega) | rfl) (.cons (by first | exact lkI rfl (by omega) | rfl) (.cons (by first | exact lkI rfl (by omega) | rfl) (.cons (by first | exact lkI rfl (by omega) | rfl) (.cons (by first | exact lkI rfl (by omega) | rfl) .nil)))))
    rintro _ _ ⟨s2, rfl, rfl, hs2⟩
    refine hk_15 ?_
    refine At.seq fun K17 hk_17 => ?_
    refine At.region ?_
    refine op_move (nxlf rfl) rfl rfl ?_
    refine op_move (nxlf rfl) rfl rfl ?_
    refine op_move (nxlf rfl) rfl rfl ?_
    refine op_conv32 (nxlf rfl) (und_some Tryd.underlying44) Tryd.underlying107 rfl (by first | rfl | exact (Int.toNat_of_nonneg (by omega)).symm) rfl ?_
    refine op_idx1 (nxlf rfl) se85 rfl rfl s20 (show _ = (((k : Nat)) : Int) from by omega) (by omega) rfl ?_
    refine op_storeE (nxl rfl) sz107 rfl rfl rfl rfl rfl r20 (by simp <;> omega) (by simp) sel0 (fun N20 r20 => ?_)
    simp only [setL] at r20
    rw [set_u32s, set_fill hw (by omega)] at r20
    change Row N20 _ 1 a20 (K + 1) (K + 1) (u32s (w ++ [lo32 s2] ++ List.replicate (K + 1 - (k + 1)) 0)) at r20
    have s20 := r20.rsl
    refine At.opsNil ?_
    refine At.norm (hk_17 ?_)
    refine At.region ?_
    refine op_move (nxlf rfl) rfl rfl ?_
    refine op_shrU (nxlf rfl) rfl rfl (show _ = ((32 : Nat) : Int) from rfl) rfl ?_
    refine op_assign (nxlf rfl) rfl rfl ?_
    refine At.opsNil ?_
    refine At.inNorm ?_
    refine At.norm (hk_11 ?_)
    refine At.region ?_
    refine op_move (nxlf rfl) rfl rfl ?_
    refine op_addI (nxlf rfl) rfl rfl (by omega) (by omega) rfl ?_
    refine op_assign (nxlf rfl) rfl rfl ?_
    refine At.opsNil ?_
    refine At.norm ?_
    refine At.back ?_ (.refl _) ⟨k + 1, shr64 s2 32, w ++ [lo32 s2], N20, rfl, rfl, rfl, by omega, by simp; omega, by rw [shr64_nat]; omega, add_round32 hw hv (by omega), r20⟩ ?_
    · exact .cons (by first | exact lkI rfl (by omega) | rfl) (.cons (by first | exact lkI rfl (by omega) | rfl) (.cons (by first | exact lkI rfl (by omega) | rfl) (.cons (by first | exact lkI rfl (by omega) | rfl) (.cons (by first | exact lkI rfl (by omega) | rfl) (.cons (by first | exact lkI rfl (by omega) | rfl) .nil)))))
    · omega
  · refine At.exit (At.thenExit (At.thenExit (At.inHit ?_)))
    refine At.norm (hk_7 ?_)
    refine At.seq fun K18 hk_18 => ?_
    refine At.region ?_
    refine op_move (nxlf rfl) rfl rfl ?_
    have s20 := r20.rsl
    have hkk : k = K + 1 := by omega
    rw [hkk, Nat.sub_self, List.replicate_zero, List.append_nil] at s20
    have hfin : v32 w = v32 a + v32 b := by
      rw [hkk, v32_take_all (by omega), v32_take_all (by omega)] at hv
      have h1 := v32_lt a
      have h2 := v32_lt b
      have h3 : (2 : Nat) ^ (32 * a.length) ≤ 2 ^ (32 * K) := Nat.pow_le_pow_right (by decide) (by omega)
      have h4 : (2 : Nat) ^ (32 * b.length) ≤ 2 ^ (32 * K) := Nat.pow_le_pow_right (by decide) (by omega)
      have h5 := pow32 K
      have hc2 : c.toNat = 0 ∨ c.toNat = 1 := by omega
      rcases hc2 with hc2 | hc2
      · rw [hc2, Nat.zero_mul] at hv; omega
      · rw [hc2, Nat.one_mul] at hv; omega
    refine op_callA (nxla rfl) (.cons rfl .nil) (trim32_f s20) Tryd.func66 rfl rfl (by simp) rfl ?_
    rintro v58 L58 ⟨rfl, rfl, t58, l58⟩
    change At _ _ _ [N20, R] _
    refine op_assign (nxlf rfl) rfl rfl ?_
    refine At.opsNil ?_
    refine At.norm (hk_18 ?_)
    refine At.ret (?_)
    refine At.ret1 (L1 := [N20]) rfl (.tmp rfl .nil) (.refl _) (.refl _) ?_
    have h := trim32d s20 t58 l58
    rw [hfin] at h ⊢
    exact ⟨N20, a20, _, rfl, rfl, h⟩
end Go.Proofs.YtlkjfbfenpkmhaaDoor
/- The reference's Shl, Shr, Bit, Len, Fill. Condition: numbers of at most 2^40 digits, shifts of at most 2^40 places. -/
namespace Go.Proofs.YtlkjfbfenpkmhaaDoor
set_option linter.unusedVariables false
set_option linter.unusedSimpArgs false
open Go Go.RowKit
theorem or_hi32 {x y : UInt32} : (UInt64.ofNat x.toNat ||| shl64 (UInt64.ofNat y.toNat) 32).toNat = x.toNat + y.toNat * 4294967296 := by
  have hx := x.toNat_lt
  have hy := y.toNat_lt
  rw [UInt64.toNat_or, of32, shl64_nat, of32, Nat.mod_eq_of_lt (show y.toNat * 2 ^ 32 < 2 ^ 64 by omega), Nat.or_comm, Nat.mul_comm, ← Nat.two_pow_add_eq_or_of_lt hx, Nat.add_comm, Nat.mul_comm]
set_option maxRecDepth 100000 in
theorem rShl_f {N : Heaplet} {ao : Option Addr} {n ca : Nat} {a : List UInt32} (ha : RSl N 1 ao n ca (u32s a)) (s : Nat) (hn : n ≤ 1099511627776) (hs : s ≤ 1099511627776) :
    Fn Tryd.prog 45 #[.slice ao n ca, .int .i64 (s : Int)] [] [N] (DigsP (v32 a * 2 ^ s)) := by
  have hca := ha.cap63
  have hal := ha.len32
  refine Fn.enter (vs := [.slice ao n ca, .int .i64 (s : Int)]) Tryd.func45 rfl rfl rfl ?_
  intro E R hR
  have ha := ha.le (hR N (by simp))
  change At _ _ E [R] _
  refine At.seq fun K1 hk_1 => ?_
  refine At.region ?_
  refine op_assign (nxlf rfl) rfl rfl ?_
  refine At.opsNil ?_
  refine At.norm (hk_1 ?_)
  refine At.seq fun K2 hk_2 => ?_
  refine At.region ?_
  refine op_move (nxlf rfl) rfl rfl ?_
  refine op_lenS (nxlf rfl) se85 rfl rfl ?_
  refine op_move (nxlf rfl) rfl rfl ?_
  refine op_quoI (nxlf rfl) rfl rfl (by omega) (by omega) (by omega) rfl ?_
  refine op_addI (nxlf rfl) rfl rfl (by omega) (by omega) rfl ?_
  refine op_addI (nxlf rfl) rfl rfl (by omega) (by omega) rfl ?_
  refine op_make (nxla rfl) Tryd.underlying85 te107 rfl rfl (show _ = (((n + s / 32 + 1 : Nat)) : Int) from by omega) (show _ = (((n + s / 32 + 1 : Nat)) : Int) from by omega) (by omega) (by unfold maxLen; omega) rfl (fun N14 a14 r14 => ?_)
  rw [made_one _ _ rfl, zero_u32s] at r14
  have s14 := r14.rsl
  refine op_assign (nxlf rfl) rfl rfl ?_
  refine At.opsNil ?_
  refine At.norm (hk_2 ?_)
  refine At.seq fun K3 hk_3 => ?_
  refine At.seq fun K4 hk_4 => ?_
  refine At.region ?_
  refine op_assign (nxlf rfl) rfl rfl ?_
  refine At.opsNil ?_
  refine At.norm (hk_4 ?_)
  refine At.block ?_
  refine At.loop (fun fr_ hp_ ms_ => ∃ (k : Nat) (c : List UInt32) (N14 : Heaplet), fr_ = [(0, .slice ao n ca), (1, .int .i64 (s : Int)), (5, .slice a14 (n + s / 32 + 1) (n + s / 32 + 1)), (6, .int .i64 (k : Int))] ∧ hp_ = [N14, R] ∧ n - k = ms_ ∧ (k ≤ n) ∧ (c.length = n + s / 32 + 1) ∧ (v32 c = v32 (a.take k) * 2 ^ s) ∧ (Row N14 107 1 a14 (n + s / 32 + 1) (n + s / 32 + 1) (u32s c))) ?_ (.refl _) ⟨0, List.replicate (n + s / 32 + 1) 0, N14, rfl, rfl, rfl, by omega, by simp, by rw [v32_replicate]; simp [v32, n32, val], r14⟩ ?_
  · exact .cons (by first | exact lkI rfl (by omega) | rfl) (.cons (by first | exact lkI rfl (by omega) | rfl) (.cons (by first | exact lkI rfl (by omega) | rfl) (.cons (by first | exact lkI rfl (by omega) | rfl) .nil)))
  rintro _ _ _ ⟨k, c, N14, rfl, rfl, rfl, hk, hcl, hv, r14⟩
  have s14 := r14.rsl
  refine At.seq fun K5 hk_5 => ?_
  refine At.seq fun K6 hk_6 => ?_
  refine At.region ?_
  refine op_move (nxlf rfl) rfl rfl ?_
  refine op_move (nxlf rfl) rfl rfl ?_
  refine op_lenS (nxlf rfl) se85 rfl rfl ?_
  refine op_lss (nxlf rfl) rfl rfl rfl ?_
  refine At.opsNil ?_
  refine At.norm (hk_6 ?_)
  refine At.condP rfl (fun c18 => ?_) (fun c18 => ?_)
  · refine At.skip ?_
    refine At.norm (hk_5 ?_)
    refine At.seq fun K7 hk_7 => ?_
    refine At.block ?_
    refine At.seq fun K8 hk_8 => ?_
    refine At.region ?_
    refine op_move (nxlf rfl) rfl rfl ?_
    refine op_move (nxlf rfl) rfl rfl ?_
    refine op_idx1 (nxlf rfl) se85 rfl rfl ha (show _ = (((k : Nat)) : Int) from by omega) (by omega) rfl ?_
    refine op_loadE (nxlf rfl) sc107 rfl ha (by first | exact get8 (by omega) | exact get64 (by omega) | exact get32 (by omega)) (by first | exact mem0 | exact mem1 | exact mem2 | exact mem3 | exact mem4 | exact mem5 | exact mem6 | exact mem7 | exact mem8 | exact mem9) rfl ?_
    refine op_conv64 (nxlf rfl) (und_some Tryd.underlying107) Tryd.underlying44 rfl (by first | rfl | exact (Int.toNat_of_nonneg (by omega)).symm) rfl ?_
    refine op_move (nxlf rfl) rfl rfl ?_
    refine op_rem (nxlf rfl) rfl rfl (by omega) (by omega) rfl ?_
    refine op_shlU (nxlf rfl) rfl rfl (show _ = (((s % 32 : Nat)) : Int) from by omega) rfl ?_
    have hak := dlt a k
    have hw : (shl64 (UInt64.ofNat (a.getD k 0).toNat) (s % 32)).toNat = (a.getD k 0).toNat * 2 ^ (s % 32) := by
      rw [shl64_nat, of32]
      refine Nat.mod_eq_of_lt ?_
      have h1 : (2 : Nat) ^ (s % 32) ≤ 2 ^ 31 := Nat.pow_le_pow_right (by decide) (by omega)
      have h2 := Nat.mul_le_mul hak h1
      exact Nat.lt_of_le_of_lt h2 (by decide)
    generalize shl64 (UInt64.ofNat (a.getD k 0).toNat) (s % 32) = w at *
    have hlim : v32 c < 2 ^ (32 * (k + s / 32) + s % 32) := by
      rw [hv, show 32 * (k + s / 32) + s % 32 = 32 * k + s by omega, Nat.pow_add]
      exact Nat.mul_lt_mul_of_pos_right (v32_take_lt a k) (Nat.pow_pos (by decide))
    have hst := shl_step (c := c) (j := k + s / 32) (r := s % 32) (x := (a.getD k 0).toNat) (by omega) (by omega) (by omega) hlim hw
    have hv' : v32 ((c.set (k + s / 32) (c.getD (k + s / 32) 0 ||| lo32 w)).set (k + s / 32 + 1) ((c.set (k + s / 32) (c.getD (k + s / 32) 0 ||| lo32 w)).getD (k + s / 32 + 1) 0 ||| lo32 (shr64 w 32))) = v32 (a.take (k + 1)) * 2 ^ s := by
      rw [hst, hv, v32_take_succD, Nat.add_mul, show 32 * (k + s / 32) + s % 32 = 32 * k + s by omega, Nat.pow_add, Nat.mul_comm (2 ^ (32 * k)) (a.getD k 0).toNat, Nat.mul_assoc]
    refine op_assign (nxlf rfl) rfl rfl ?_
    refine At.opsNil ?_
    refine At.norm (hk_8 ?_)
    refine At.seq fun K9 hk_9 => ?_
    refine At.region ?_
    refine op_move (nxlf rfl) rfl rfl ?_
    refine op_move (nxlf rfl) rfl rfl ?_
    refine op_move (nxlf rfl) rfl rfl ?_
    refine op_quoI (nxlf rfl) rfl rfl (by omega) (by omega) (by omega) rfl ?_
    refine op_addI (nxlf rfl) rfl rfl (by omega) (by omega) rfl ?_
    refine op_move (nxlf rfl) rfl rfl ?_
    refine op_move (nxlf rfl) rfl rfl ?_
    refine op_move (nxlf rfl) rfl rfl ?_
    refine op_quoI (nxlf rfl) rfl rfl (by omega) (by omega) (by omega) rfl ?_
    refine op_addI (nxlf rfl) rfl rfl (by omega) (by omega) rfl ?_
    refine op_idx1 (nxlf rfl) se85 rfl rfl s14 (show _ = (((k + s / 32 : Nat)) : Int) from by omega) (by omega) rfl ?_
    refine op_loadE (nxlf rfl) sc107 rfl s14 (by first | exact get8 (by omega) | exact get64 (by omega) | exact get32 (by omega)) (by first | exact mem0 | exact mem1 | exact mem2 | exact mem3 | exact mem4 | exact mem5 | exact mem6 | exact mem7 | exact mem8 | exact mem9) rfl ?_
    refine op_move (nxlf rfl) rfl rfl ?_
    refine op_conv32 (nxlf rfl) (und_some Tryd.underlying44) Tryd.underlying107 rfl (by first | rfl | exact (Int.toNat_of_nonneg (by omega)).symm) rfl ?_
    refine op_orU32 (nxlf rfl) rfl rfl rfl ?_
    refine op_idx1 (nxlf rfl) se85 rfl rfl s14 (show _ = (((k + s / 32 : Nat)) : Int) from by omega) (by omega) rfl ?_
    refine op_storeE (nxl rfl) sz107 rfl rfl rfl rfl rfl r14 (by simp <;> omega) (by simp) sel0 (fun N14 r14 => ?_)
    simp only [setL] at r14
    rw [set_u32s] at r14
    change Row N14 _ 1 a14 _ _ (u32s (c.set (k + s / 32) (c.getD (k + s / 32) 0 ||| lo32 w))) at r14
    have hcl1 : (c.set (k + s / 32) (c.getD (k + s / 32) 0 ||| lo32 w)).length = n + s / 32 + 1 := by rw [List.length_set]; exact hcl
    have s14 := r14.rsl
    refine At.opsNil ?_
    refine At.norm (hk_9 ?_)
    refine At.region ?_
    refine op_move (nxlf rfl) rfl rfl ?_
    refine op_move (nxlf rfl) rfl rfl ?_
    refine op_move (nxlf rfl) rfl rfl ?_
    refine op_quoI (nxlf rfl) rfl rfl (by omega) (by omega) (by omega) rfl ?_
    refine op_addI (nxlf rfl) rfl rfl (by omega) (by omega) rfl ?_
    refine op_addI (nxlf rfl) rfl rfl (by omega) (by omega) rfl ?_
    refine op_move (nxlf rfl) rfl rfl ?_
    refine op_move (nxlf rfl) rfl rfl ?_
    refine op_move (nxlf rfl) rfl rfl ?_
    refine op_quoI (nxlf rfl) rfl rfl (by omega) (by omega) (by omega) rfl ?_
    refine op_addI (nxlf rfl) rfl rfl (by omega) (by omega) rfl ?_
    refine op_addI (nxlf rfl) rfl rfl (by omega) (by omega) rfl ?_
    refine op_idx1 (nxlf rfl) se85 rfl rfl s14 (show _ = (((k + s / 32 + 1 : Nat)) : Int) from by omega) (by omega) rfl ?_
    refine op_loadE (nxlf rfl) sc107 rfl s14 (by first | exact get8 (by omega) | exact get64 (by omega) | exact get32 (by omega)) (by first | exact mem0 | exact mem1 | exact mem2 | exact mem3 | exact mem4 | exact mem5 | exact mem6 | exact mem7 | exact mem8 | exact mem9) rfl ?_
    refine op_move (nxlf rfl) rfl rfl ?_
    refine op_shrU (nxlf rfl) rfl rfl (show _ = ((32 : Nat) : Int) from rfl) rfl ?_
    refine op_conv32 (nxlf rfl) (und_some Tryd.underlying44) Tryd.underlying107 rfl (by first | rfl | exact (Int.toNat_of_nonneg (by omega)).symm) rfl ?_
    refine op_orU32 (nxlf rfl) rfl rfl rfl ?_
    refine op_idx1 (nxlf rfl) se85 rfl rfl s14 (show _ = (((k + s / 32 + 1 : Nat)) : Int) from by omega) (by omega) rfl ?_
    refine op_storeE (nxl rfl) sz107 rfl rfl rfl rfl rfl r14 (by simp <;> omega) (by simp) sel0 (fun N14 r14 => ?_)
    simp only [setL] at r14
    rw [set_u32s] at r14
    change Row N14 _ 1 a14 _ _ (u32s ((c.set (k + s / 32) (c.getD (k + s / 32) 0 ||| lo32 w)).set (k + s / 32 + 1) ((c.set (k + s / 32) (c.getD (k + s / 32) 0 ||| lo32 w)).getD (k + s / 32 + 1) 0 ||| lo32 (shr64 w 32)))) at r14
    have s14 := r14.rsl
    refine At.opsNil ?_
    refine At.inNorm ?_
    refine At.norm (hk_7 ?_)
    refine At.region ?_
    refine op_move (nxlf rfl) rfl rfl ?_
    refine op_addI (nxlf rfl) rfl rfl (by omega) (by omega) rfl ?_
    refine op_assign (nxlf rfl) rfl rfl ?_
    refine At.opsNil ?_
    refine At.norm ?_
    refine At.back ?_ (.refl _) ⟨k + 1, (c.set (k + s / 32) (c.getD (k + s / 32) 0 ||| lo32 w)).set (k + s / 32 + 1) ((c.set (k + s / 32) (c.getD (k + s / 32) 0 ||| lo32 w)).getD (k + s / 32 + 1) 0 ||| lo32 (shr64 w 32)), N14, rfl, rfl, rfl, by omega, by simp; omega, hv', r14⟩ ?_
    · exact .cons (by first | exact lkI rfl (by omega) | rfl) (.cons (by first | exact lkI rfl (by omega) | rfl) (.cons (by first | exact lkI rfl (by omega) | rfl) (.cons (by first | exact lkI rfl (by omega) | rfl) .nil)))
    · omega
  · refine At.exit (At.thenExit (At.thenExit (At.inHit ?_)))
    refine At.norm (hk_3 ?_)
    refine At.seq fun K10 hk_10 => ?_
    refine At.region ?_
    refine op_move (nxlf rfl) rfl rfl ?_
    have hkn : k = n := by omega
    rw [hkn, v32_take_all (by omega)] at hv
    refine op_callA (nxla rfl) (.cons rfl .nil) (trim32_f s14) Tryd.func66 rfl rfl (by simp) rfl ?_
    rintro v65 L65 ⟨rfl, rfl, t65, l65⟩
    change At _ _ _ [N14, R] _
    refine op_assign (nxlf rfl) rfl rfl ?_
    refine At.opsNil ?_
    refine At.norm (hk_10 ?_)
    refine At.ret (?_)
    refine At.ret1 (L1 := [N14]) rfl (.tmp rfl .nil) (.refl _) (.refl _) ?_
    have h := trim32d s14 t65 l65
    rw [hv] at h ⊢
    exact ⟨N14, a14, _, rfl, rfl, h⟩
end Go.Proofs.YtlkjfbfenpkmhaaDoor
/- The reference's less and back: the parts of a division. Condition: numbers of at most 2^40 digits. -/
namespace Go.Proofs.YtlkjfbfenpkmhaaDoor
set_option linter.unusedVariables false
set_option linter.unusedSimpArgs false
open Go Go.RowKit
theorem less_round {w u v : List UInt32} {k q cy cy' bw bw' m : Nat} {d : UInt32} (hw : w.length = k) (hv : v32 w + q * v32 (v.take k) = v32 (u.take k) + (cy + bw) * 2 ^ (32 * k)) (hm : m = cy + q * (v.getD k 0).toNat) (hcy : cy' = m / 4294967296)
    (hd : d.toNat + (m % 4294967296 + bw) = (u.getD k 0).toNat + bw' * 4294967296) : v32 (w ++ [d]) + q * v32 (v.take (k + 1)) = v32 (u.take (k + 1)) + (cy' + bw') * 2 ^ (32 * (k + 1)) := by
  have h1 : cy + q * (v.getD k 0).toNat = m % 4294967296 + cy' * 4294967296 := by rw [hcy, Nat.mul_comm (m / 4294967296), Nat.mod_add_div, hm]
  clear hm hcy
  generalize m % 4294967296 = ml at *
  have h4 := congrArg (2 ^ (32 * k) * ·) h1
  have h5 := congrArg (2 ^ (32 * k) * ·) hd
  simp only [Nat.mul_add] at h4 h5
  rw [v32_snoc, hw, v32_take_succD, v32_take_succD, pow32, Nat.mul_add, Nat.add_mul]
  have e1 : q * (2 ^ (32 * k) * (v.getD k 0).toNat) = 2 ^ (32 * k) * (q * (v.getD k 0).toNat) := Nat.mul_left_comm ..
  have e2 : cy' * (2 ^ (32 * k) * 4294967296) = 2 ^ (32 * k) * (cy' * 4294967296) := by rw [Nat.mul_left_comm]
  have e3 : bw' * (2 ^ (32 * k) * 4294967296) = 2 ^ (32 * k) * (bw' * 4294967296) := by rw [Nat.mul_left_comm]
  rw [e1, e2, e3]
  rw [Nat.add_mul, Nat.mul_comm cy, Nat.mul_comm bw] at hv
  omega
theorem and32' (z : UInt64) : (z &&& 4294967295).toNat = z.toNat % 4294967296 := and32 z
def LessP (co : Option Addr) (nc cc : Nat) (pre u v post : List UInt32) (q : Nat) (r : Value) (L : List Heaplet) : Prop :=
  ∃ M x, ∃ bw : Nat, r = .bool (decide (bw = 1)) ∧ L = [M] ∧ Row M 107 1 co nc cc (u32s (pre ++ x ++ post)) ∧ x.length = u.length ∧ bw ≤ 1 ∧ v32 x + q * v32 v = v32 u + bw * 2 ^ (32 * u.length)
def BackP (co : Option Addr) (nc cc : Nat) (pre u v post : List UInt32) (r : Value) (L : List Heaplet) : Prop :=
  ∃ M x, ∃ c : Nat, r = .tuple #[] ∧ L = [M] ∧ Row M 107 1 co nc cc (u32s (pre ++ x ++ post)) ∧ x.length = u.length ∧ c ≤ 1 ∧ v32 x + c * 2 ^ (32 * u.length) = v32 u + v32 v ∧ ((u.getD v.length 0).toNat ≤ (x.getD v.length 0).toNat ↔ c = 0)
end Go.Proofs.YtlkjfbfenpkmhaaDoor
/- The reference's DivMod. Condition: numbers of at most some 2^40 digits; the divisor is not 0. -/
namespace Go.Proofs.YtlkjfbfenpkmhaaDoor
set_option linter.unusedVariables false
set_option linter.unusedSimpArgs false
open Go Go.RowKit
theorem bitLen_shl {B s : Nat} (h : 0 < B) : bitLen (B * 2 ^ s) = bitLen B + s := by
  have h1 := lt_bitLen B
  have h3 := bitLen_pos h
  have h2 : 2 ^ (bitLen B - 1) ≤ B := by
    rcases Nat.lt_or_ge B (2 ^ (bitLen B - 1)) with h4 | h4
    · have := bitLen_le.2 h4; omega
    · exact h4
  refine bitLen_eq ?_ (.inr ?_)
  · rw [Nat.pow_add]; exact Nat.mul_lt_mul_of_pos_right h1 (Nat.pow_pos (by decide))
  · rw [show bitLen B + s - 1 = bitLen B - 1 + s by omega, Nat.pow_add]; exact Nat.mul_le_mul_right _ h2
theorem norm32 {B s : Nat} (h : 0 < B) (hs : s = 32 * (digsOf B).length - bitLen B) : s < 32 ∧ 1 ≤ (digsOf B).length ∧ (digsOf (B * 2 ^ s)).length = (digsOf B).length ∧ 2 ^ (32 * (digsOf B).length - 1) ≤ B * 2 ^ s ∧ B * 2 ^ s < 2 ^ (32 * (digsOf B).length) := by
  have hl := length_digsOf B
  have hb := bitLen_pos h
  have e := bitLen_shl (s := s) h
  have hp : 0 < B * 2 ^ s := Nat.mul_pos h (Nat.pow_pos (by decide))
  have hbs : bitLen (B * 2 ^ s) = 32 * (digsOf B).length := by omega
  refine ⟨by omega, by omega, by rw [length_digsOf (B * 2 ^ s), hbs]; omega, ?_, ?_⟩
  · rcases Nat.lt_or_ge (B * 2 ^ s) (2 ^ (32 * (digsOf B).length - 1)) with h4 | h4
    · have := bitLen_le.2 h4; omega
    · exact h4
  · rw [← hbs]; exact lt_bitLen _
theorem x_len {A s : Nat} (hs : s < 32) : (digsOf (A * 2 ^ s)).length ≤ (digsOf A).length + 1 := by
  rw [length_digsOf (A * 2 ^ s)]
  refine digLen_le.2 ?_
  have h : A < 2 ^ (32 * (digsOf A).length) := by have := v32_lt (digsOf A); rwa [v32_digsOf] at this
  have h2 : A * 2 ^ s < 2 ^ (32 * (digsOf A).length) * 2 ^ s := Nat.mul_lt_mul_of_pos_right h (Nat.pow_pos (by decide))
  rw [← Nat.pow_add] at h2
  exact Nat.lt_of_lt_of_le h2 (Nat.pow_le_pow_right (by decide) (by omega))
theorem top_small32 {C : List UInt32} {A s na nb V : Nat} (hC : C.length = na + 2) (hv : v32 C = A * 2 ^ s) (hA : A < 2 ^ (32 * na)) (hs : s < 32) (hn : 1 ≤ nb) (hna : nb ≤ na + 2) (hV : 2 ^ (32 * nb - 1) ≤ V) : v32 (C.drop (na + 2 - nb)) < V := by
  have h := v32_take_drop C (k := na + 2 - nb) (by omega)
  rw [hv] at h
  have h2 : A * 2 ^ s < 2 ^ (32 * na) * 2 ^ s := Nat.mul_lt_mul_of_pos_right hA (Nat.pow_pos (by decide))
  have h3 : 2 ^ (32 * na) * 2 ^ s ≤ 2 ^ (32 * (na + 2 - nb)) * V := by
    refine Nat.le_trans ?_ (Nat.mul_le_mul_left _ hV)
    rw [← Nat.pow_add, ← Nat.pow_add]
    exact Nat.pow_le_pow_right (by decide) (by omega)
  have h4 : 2 ^ (32 * (na + 2 - nb)) * v32 (C.drop (na + 2 - nb)) < 2 ^ (32 * (na + 2 - nb)) * V := by omega
  exact Nat.lt_of_mul_lt_mul_left h4
theorem v32_pad' (a : List UInt32) (m : Nat) : v32 (a ++ List.replicate m 0) = v32 a := by rw [v32_append, v32_replicate]; simp
theorem cmpI_lt {x y : Nat} : cmpI x y < 0 ↔ x < y := by
  unfold cmpI
  split
  · omega
  · split <;> omega
theorem take_ext {α : Type} {x : List α} {k : Nat} {z : α} (h : k < x.length) : x.take k ++ [x.getD k z] = x.take (k + 1) := by
  rw [List.take_succ_eq_append_getElem h, List.getD_eq_getElem?_getD, List.getElem?_eq_getElem h]; rfl
theorem win_getD {C : List UInt32} {j n k : Nat} (hk : k < n) : ((C.drop j).take n).getD k 0 = C.getD (j + k) 0 := by
  rw [List.getD_eq_getElem?_getD, List.getD_eq_getElem?_getD, List.getElem?_take, if_pos hk, List.getElem?_drop]
/-- Two numbers in digits, in new memory. -/
def DigsP2 (A B : Nat) (v : Value) (L : List Heaplet) : Prop :=
  ∃ M1 a1 c1 M2 a2 c2, v = .tuple #[.slice a1 (digsOf A).length c1, .slice a2 (digsOf B).length c2] ∧ L = [M1, M2] ∧ RSl M1 1 a1 (digsOf A).length c1 (u32s (digsOf A)) ∧ RSl M2 1 a2 (digsOf B).length c2 (u32s (digsOf B))
end Go.Proofs.YtlkjfbfenpkmhaaDoor
/- The reference's DivMod, Mod, ModExp in full. Condition: numbers of at most some 2^40 digits; the divisor is not 0. -/
namespace Go.Proofs.YtlkjfbfenpkmhaaDoor
set_option linter.unusedVariables false
set_option linter.unusedSimpArgs false
open Go Go.RowKit
theorem Hp.empty {E w : World} {L : List Heaplet} (h : Hp E L w) : Hp E (nilH :: L) w :=
  ⟨h.os, h.tape, h.output, fun N hN => by
    rcases List.mem_cons.1 hN with rfl | hN
    · intro k o hk; cases hk
    · exact h.sub N hN, List.pairwise_cons.2 ⟨fun N _ k => .inl rfl, h.sep⟩⟩
theorem Fn.liftR {P : Program} {f : FuncId} {args : Array Value} {L0 Lr : List Heaplet} {R : Heaplet} {Post : Value → List Heaplet → Prop} (h : Fn P f args L0 Lr Post) (hl : ∀ N ∈ Lr, N.le R) : Fn P f args L0 [R] Post := fun E w F hp hr =>
  h E w F hp fun M hM => Heaplet.le_trans (hl M hM) (hr R (by simp))
/-- A quotient in new memory, and a rest that may be what was divided. -/
def DivR (N : Heaplet) (A B : Nat) (v : Value) (L : List Heaplet) : Prop :=
  ∃ Mq aq cq Mr ar cr, v = .tuple #[.slice aq (digsOf A).length cq, .slice ar (digsOf B).length cr] ∧ L = [Mq, Mr] ∧ RSl Mq 1 aq (digsOf A).length cq (u32s (digsOf A)) ∧ (RSl Mr 1 ar (digsOf B).length cr (u32s (digsOf B)) ∨ RSl N 1 ar (digsOf B).length cr (u32s (digsOf B)))
def ModR (N : Heaplet) (V : Nat) (v : Value) (L : List Heaplet) : Prop :=
  ∃ Q p c, v = .slice p (digsOf V).length c ∧ L = [Q] ∧ (RSl Q 1 p (digsOf V).length c (u32s (digsOf V)) ∨ RSl N 1 p (digsOf V).length c (u32s (digsOf V)))
section
variable {N M : Heaplet} {ax bx : Option Addr} {na nb ca cb A B : Nat}
end
theorem digs_mul {X Y n : Nat} (hx : (digsOf X).length ≤ n) (hy : (digsOf Y).length ≤ n) : (digsOf (X * Y)).length ≤ 2 * n := by
  rw [length_digsOf]
  refine digLen_le.2 ?_
  have h1 : X < 2 ^ (32 * n) := digLen_le.1 (by rw [← length_digsOf]; exact hx)
  have h2 : Y < 2 ^ (32 * n) := digLen_le.1 (by rw [← length_digsOf]; exact hy)
  rw [show 32 * (2 * n) = 32 * n + 32 * n by omega, Nat.pow_add]
  exact Nat.mul_lt_mul'' h1 h2
section
variable {N M Nm : Heaplet} {bx ex mx : Option Addr} {nb ne nm cb ce cm B E' Mv : Nat}
end
end Go.Proofs.YtlkjfbfenpkmhaaDoor
/- The reference's words: sums, products, quotients, with signs and without. No condition. -/
namespace Go.Proofs.YtlkjfbfenpkmhaaDoor
set_option linter.unusedVariables false
set_option linter.unusedSimpArgs false
open Go Go.RowKit
theorem rW_w {N : Heaplet} {p : Option Addr} {n c X : Nat} (h : RSl N 1 p n c (u32s (digsOf X))) : Fn Tryd.prog 47 #[.slice p n c] [] [N] (fun v L => v = wo X ∧ L = []) := by
  refine (rW_f h).mono ?_
  rintro v L ⟨rfl, a, b, c, d, rfl, hv⟩
  rw [v32_digsOf] at hv
  refine ⟨?_, rfl⟩
  rw [wo, ← wl_of (w := [a, b, c, d]) rfl hv]; rfl
theorem or_W {Q N : Heaplet} {p : Option Addr} {n c X : Nat} (h : RSl Q 1 p n c (u32s (digsOf X)) ∨ RSl N 1 p n c (u32s (digsOf X))) : Fn Tryd.prog 47 #[.slice p n c] [] [Q, N] (fun v L => v = wo X ∧ L = []) := by
  rcases h with h | h
  · exact (rW_w h).more (by simp)
  · exact (rW_w h).more (by simp)
theorem dig_w {x : Nat} (hx : x < WW) : (digsOf x).length ≤ 8 := by rw [length_digsOf]; exact digLen_le.2 hx
theorem two_pow_lt (m k : Nat) (h : m + 1 < k) : 2 * 2 ^ m < 2 ^ k := by
  rw [← Nat.pow_succ']
  exact Nat.pow_lt_pow_right (by decide) h
theorem WW_lt (k : Nat) (hk : 9 ≤ k) : 2 * WW < 2 ^ (32 * k) := two_pow_lt 256 (32 * k) (by omega)
theorem dig_2top {X : Nat} (h : X ≤ 2 * WW) : (digsOf X).length ≤ 9 := by
  obtain ⟨k, hk⟩ : ∃ k : Nat, k = 9 := ⟨_, rfl⟩
  rw [← hk, length_digsOf]
  exact digLen_le.2 (Nat.lt_of_le_of_lt h (WW_lt k (by omega)))
theorem dig_top : (digsOf WW).length ≤ 9 := dig_2top (by omega)
end Go.Proofs.YtlkjfbfenpkmhaaDoor
/- The reference's words: quotients, with signs and without. No condition. -/
namespace Go.Proofs.YtlkjfbfenpkmhaaDoor
set_option linter.unusedVariables false
set_option linter.unusedSimpArgs false
open Go Go.RowKit
theorem absW_0 : absW 0 = 0 := (absW_zero WW_pos).2 rfl
theorem wo_WW : wo WW = wo 0 := wo_congr (by rw [Nat.mod_self, Nat.zero_mod])
theorem sgn_0 (m : Bool) : wo (sgn m 0) = wo 0 := by
  cases m
  · rfl
  · rw [sgn, if_pos rfl, Nat.sub_zero, wo_WW]
end Go.Proofs.YtlkjfbfenpkmhaaDoor
/- The reference's words: in and out, orders. No condition. -/
namespace Go.Proofs.YtlkjfbfenpkmhaaDoor
set_option linter.unusedVariables false
set_option linter.unusedSimpArgs false
open Go Go.RowKit
theorem wo_four {x : Nat} (hx : x < WW) : ∃ a b c d : UInt64, wo x = .agg #[.int .u64 (a.toNat : Int), .int .u64 (b.toNat : Int), .int .u64 (c.toNat : Int), .int .u64 (d.toNat : Int)] ∧ v64 [a, b, c, d] = x := by
  obtain ⟨a, b, c, d, h⟩ := four (length_wl x)
  have hv := v64_wl_lt hx
  rw [h] at hv
  exact ⟨a, b, c, d, by rw [wo, h]; rfl, hv⟩
theorem WBytes_w {x : Nat} (hx : x < WW) : Fn Tryd.prog 72 #[wo x] [] [] (fun v L => v = .agg (u8s (bytesN 32 x)).toArray ∧ L = []) := by
  obtain ⟨a, b, c, d, e, hv⟩ := wo_four hx
  have := WBytes_f a b c d
  rw [hv, ← e] at this
  exact this
theorem WShort_w {x : Nat} (hx : x < WW) : Fn Tryd.prog 54 #[wo x] [] [] (fun v L => ∃ M p k, v = .slice p (bytesOf x).length k ∧ L = [M] ∧ Row M 5 1 p (bytesOf x).length k (u8s (bytesOf x))) := by
  obtain ⟨a, b, c, d, e, hv⟩ := wo_four hx
  have := WShort_f a b c d
  rw [hv, ← e] at this
  exact this
theorem cmpI_eq (x y : Nat) : cmpI x y = cmpN x y := rfl
theorem small3 {x : Nat} (hx : x < WW) : (((wl x).getD 1 0).toNat = 0 ∧ ((wl x).getD 2 0).toNat = 0 ∧ ((wl x).getD 3 0).toNat = 0) ↔ x < 2 ^ 64 := by
  rw [← small_iff hx, ← UInt64.toNat_inj, UInt64.toNat_or, UInt64.toNat_or]
  show _ ↔ _ = 0
  rw [Nat.or_eq_zero_iff, Nat.or_eq_zero_iff, and_assoc]
theorem getD_bytesN {n N k : Nat} (h : k < n) : (bytesN n N).getD k 0 = UInt8.ofNat (N / 256 ^ (n - 1 - k)) := by
  rw [List.getD_eq_getElem?_getD, List.getElem?_eq_getElem (by rw [length_bytesN]; exact h), Option.getD_some]
  simp [bytesN]
end Go.Proofs.YtlkjfbfenpkmhaaDoor
/- strings.TrimPrefix, strings.TrimLeft of one byte; hexa.Quantity. No condition. -/
namespace Go.Proofs.YtlkjfbfenpkmhaaDoor
set_option linter.unusedVariables false
set_option linter.unusedSimpArgs false
open Go Go.RowKit
theorem FHasP_f {l p : List UInt8} (hle : p.length ≤ l.length) (ht : l.take p.length = p) : Fn Tryd.prog 85 #[str l, str p] [] [] (fun v L => v = .bool true ∧ L = []) := by
  refine Fn.enter (vs := [str l, str p]) Tryd.func85 rfl rfl rfl ?_
  intro E R hR
  change At _ _ E [R] _
  refine At.seq fun K1 hk_1 => ?_
  refine At.region ?_
  refine op_assign (nxlf rfl) rfl rfl ?_
  refine At.opsNil ?_
  refine At.norm (hk_1 ?_)
  refine At.seq fun K2 hk_2 => ?_
  refine At.region ?_
  refine op_move (nxlf rfl) rfl rfl ?_
  refine op_lenStr (nxlf rfl) Tryd.underlying9 rfl rfl ?_
  refine op_move (nxlf rfl) rfl rfl ?_
  refine op_lenStr (nxlf rfl) Tryd.underlying9 rfl rfl ?_
  refine op_geq (nxlf rfl) rfl rfl rfl ?_
  refine op_move (nxlf rfl) rfl rfl ?_
  refine At.partP (d := 10) rfl (fun g10 => ?_) (fun g10 => ?_)
  · refine op_move (nxgf rfl rfl rfl rfl) rfl rfl ?_
    refine op_move (nxgf rfl rfl rfl rfl) rfl rfl ?_
    refine op_lenStr (nxgf rfl rfl rfl rfl) Tryd.underlying9 rfl rfl ?_
    refine op_sliceStr (nxgf rfl rfl rfl rfl) Tryd.underlying9 rfl .none (.some rfl (show _ = (((p.length : Nat)) : Int) from by omega)) .none (by omega) (by omega) (by omega) (by simp) rfl ?_
    rw [List.drop_zero, Nat.sub_zero, ht]
    refine op_move (nxgf rfl rfl rfl rfl) rfl rfl ?_
    refine op_eqS (nxgf rfl rfl rfl rfl) rfl rfl rfl ?_
    refine op_pickT (nxlf rfl) rfl rfl rfl ?_
    refine op_assign (nxlf rfl) rfl rfl ?_
    refine At.opsNil ?_
    refine At.norm (hk_2 ?_)
    refine At.ret (?_)
    refine At.ret1 (L1 := []) rfl (.tmp rfl .nil) (.refl _) (.refl _) ?_
    exact ⟨by rw [decide_eq_true rfl], rfl⟩
  · exfalso; omega
theorem FTrimP_f {l p : List UInt8} (hle : p.length ≤ l.length) (ht : l.take p.length = p) : Fn Tryd.prog 53 #[str l, str p] [] [] (fun v L => v = str (l.drop p.length) ∧ L = []) := by
  have h : Fn Tryd.prog 71 #[str l, str p] [] [] (fun v L => v = str (l.drop p.length) ∧ L = []) := by
    refine Fn.enter (vs := [str l, str p]) Tryd.func71 rfl rfl rfl ?_
    intro E R hR
    change At _ _ E [R] _
    refine At.seq fun K1 hk_1 => ?_
    refine At.region ?_
    refine op_assign (nxlf rfl) rfl rfl ?_
    refine At.opsNil ?_
    refine At.norm (hk_1 ?_)
    refine At.seq fun K2 hk_2 => ?_
    refine At.seq fun K3 hk_3 => ?_
    refine At.region ?_
    refine op_move (nxlf rfl) rfl rfl ?_
    refine op_move (nxlf rfl) rfl rfl ?_
    refine op_callA (nxla rfl) (.cons rfl (.cons rfl .nil)) (FHasP_f hle ht) Tryd.func85 rfl rfl (by simp) rfl ?_
    rintro v7 L7 ⟨rfl, rfl⟩
    change At _ _ _ [R] _
    refine At.opsNil ?_
    refine At.norm (hk_3 ?_)
    refine At.condT rfl ?_
    refine At.seq fun K4 hk_4 => ?_
    refine At.region ?_
    refine op_move (nxlf rfl) rfl rfl ?_
    refine op_move (nxlf rfl) rfl rfl ?_
    refine op_lenStr (nxlf rfl) Tryd.underlying9 rfl rfl ?_
    refine op_sliceStr (nxlf rfl) Tryd.underlying9 rfl (.some rfl (show _ = (((p.length : Nat)) : Int) from by omega)) .none .none (by omega) (by omega) (by omega) (by simp) rfl ?_
    rw [show (l.drop p.length).take (l.length - p.length) = l.drop p.length from List.take_of_length_le (by rw [List.length_drop]; exact Nat.le_refl _)]
    refine op_assign (nxlf rfl) rfl rfl ?_
    refine At.opsNil ?_
    refine At.norm (hk_4 ?_)
    refine At.ret (At.thenRet (?_))
    refine At.ret1 (L1 := []) rfl (.tmp rfl .nil) (.refl _) (.refl _) ?_
    exact ⟨rfl, rfl⟩
  refine Fn.enter (vs := [str l, str p]) Tryd.func53 rfl rfl rfl ?_
  intro E R hR
  change At _ _ E [R] _
  refine At.seq fun K1 hk_1 => ?_
  refine At.region ?_
  refine op_assign (nxlf rfl) rfl rfl ?_
  refine At.opsNil ?_
  refine At.norm (hk_1 ?_)
  refine At.seq fun K2 hk_2 => ?_
  refine At.region ?_
  refine op_move (nxlf rfl) rfl rfl ?_
  refine op_move (nxlf rfl) rfl rfl ?_
  refine op_callA (nxla rfl) (.cons rfl (.cons rfl .nil)) (h) Tryd.func71 rfl rfl (by simp) rfl ?_
  rintro v7 L7 ⟨rfl, rfl⟩
  change At _ _ _ [R] _
  refine op_assign (nxlf rfl) rfl rfl ?_
  refine At.opsNil ?_
  refine At.norm (hk_2 ?_)
  refine At.ret (?_)
  refine At.ret1 (L1 := []) rfl (.tmp rfl .nil) (.refl _) (.refl _) ?_
  exact ⟨rfl, rfl⟩
/-- A text without this byte ahead. -/
def dropB (c : UInt8) (l : List UInt8) : List UInt8 := l.dropWhile (· == c)
theorem dropB_y {c : UInt8} {t : List UInt8} (h : 0 < t.length) (he : (t.getD 0 0).toNat = c.toNat) : dropB c (t.drop 1) = dropB c t := by
  cases t with
  | nil => cases h
  | cons x t =>
    have : x = c := UInt8.toNat_inj.1 he
    subst this
    simp [dropB]
theorem dropB_n {c : UInt8} {t : List UInt8} (he : ¬ (t.getD 0 0).toNat = c.toNat) : dropB c t = t := by
  cases t with
  | nil => rfl
  | cons x t =>
    have : x ≠ c := fun e => he (by rw [← e]; rfl)
    simp [dropB, this]
theorem dropB_len (c : UInt8) (l : List UInt8) : (dropB c l).length ≤ l.length := (List.dropWhile_sublist _).length_le
theorem FTrimB_f (l : List UInt8) (c : UInt8) : Fn Tryd.prog 67 #[str l, .int .u8 (c.toNat : Int)] [] [] (fun v L => v = str (dropB c l) ∧ L = []) := by
  obtain ⟨z, hz⟩ : ∃ z, dropB c l = z := ⟨_, rfl⟩
  rw [hz]
  refine Fn.enter (vs := [str l, .int .u8 (c.toNat : Int)]) Tryd.func67 rfl rfl rfl ?_
  intro E R hR
  change At _ _ E [R] _
  refine At.seq fun K1 hk_1 => ?_
  refine At.region ?_
  refine op_assign (nxlf rfl) rfl rfl ?_
  refine At.opsNil ?_
  refine At.norm (hk_1 ?_)
  refine At.seq fun K2 hk_2 => ?_
  refine At.block ?_
  refine At.loop (fun fr_ hp_ ms_ => ∃ (t : List UInt8), fr_ = [(0, str t), (1, .int .u8 (c.toNat : Int))] ∧ hp_ = [R] ∧ t.length = ms_ ∧ (dropB c t = z)) ?_ (.refl _) ⟨l, rfl, rfl, rfl, hz⟩ ?_
  · exact .cons (by first | exact lkI rfl (by omega) | rfl) (.cons (by first | exact lkI rfl (by omega) | rfl) .nil)
  rintro _ _ _ ⟨t, rfl, rfl, rfl, hd⟩
  refine At.seq fun K3 hk_3 => ?_
  refine At.seq fun K4 hk_4 => ?_
  refine At.region ?_
  refine op_move (nxlf rfl) rfl rfl ?_
  refine op_lenStr (nxlf rfl) Tryd.underlying9 rfl rfl ?_
  refine op_gtr (nxlf rfl) rfl rfl rfl ?_
  refine op_move (nxlf rfl) rfl rfl ?_
  refine At.partP (d := 8) rfl (fun g8 => ?_) (fun g8 => ?_)
  · refine op_move (nxgf rfl rfl rfl rfl) rfl rfl ?_
    refine op_idxS (nxgf rfl rfl rfl rfl) Tryd.underlying9 rfl rfl (show _ = (((0 : Nat)) : Int) from by omega) (by omega) rfl ?_
    refine op_move (nxgf rfl rfl rfl rfl) rfl rfl ?_
    refine op_eql (nxgf rfl rfl rfl rfl) rfl rfl rfl ?_
    refine op_pickT (nxlf rfl) rfl rfl rfl ?_
    refine At.opsNil ?_
    refine At.norm (hk_4 ?_)
    refine At.condP rfl (fun c13 => ?_) (fun c13 => ?_)
    · refine At.knowT (d := 13) rfl c13 ?_
      refine At.skip ?_
      refine At.norm (hk_3 ?_)
      refine At.block ?_
      refine At.region ?_
      refine op_move (nxlf rfl) rfl rfl ?_
      refine op_sliceStr (nxlf rfl) Tryd.underlying9 rfl (.some rfl (show _ = (((1 : Nat)) : Int) from by omega)) .none .none (by omega) (by omega) (by omega) (by simp) rfl ?_
      rw [show (t.drop 1).take (t.length - 1) = t.drop 1 from List.take_of_length_le (by rw [List.length_drop]; exact Nat.le_refl _)]
      refine op_assign (nxlf rfl) rfl rfl ?_
      refine At.opsNil ?_
      refine At.inNorm ?_
      refine At.norm ?_
      refine At.back ?_ (.refl _) ⟨t.drop 1, rfl, rfl, rfl, by rw [dropB_y (by omega) (by omega)]; exact hd⟩ ?_
      · exact .cons (by first | exact lkI rfl (by omega) | rfl) (.cons (by first | exact lkI rfl (by omega) | rfl) .nil)
      · (rw [List.length_drop]; omega)
    · refine At.knowF (d := 13) rfl c13 ?_
      refine At.exit (At.thenExit (At.thenExit (At.inHit ?_)))
      refine At.norm (hk_2 ?_)
      refine At.seq fun K5 hk_5 => ?_
      refine At.region ?_
      refine op_move (nxlf rfl) rfl rfl ?_
      refine op_assign (nxlf rfl) rfl rfl ?_
      refine At.opsNil ?_
      refine At.norm (hk_5 ?_)
      refine At.ret (?_)
      refine At.ret1 (L1 := []) rfl (.tmp rfl .nil) (.refl _) (.refl _) ?_
      rw [dropB_n (by omega)] at hd
      exact ⟨by rw [hd], rfl⟩
  · refine op_skip rfl rfl rfl rfl rfl rfl rfl ?_
    refine op_skip rfl rfl rfl rfl rfl rfl rfl ?_
    refine op_skip rfl rfl rfl rfl rfl rfl rfl ?_
    refine op_skip rfl rfl rfl rfl rfl rfl rfl ?_
    refine op_pickF (nxlf rfl) rfl rfl rfl ?_
    refine At.opsNil ?_
    refine At.norm (hk_4 ?_)
    refine At.condF rfl ?_
    refine At.exit (At.thenExit (At.thenExit (At.inHit ?_)))
    refine At.norm (hk_2 ?_)
    refine At.seq fun K6 hk_6 => ?_
    refine At.region ?_
    refine op_move (nxlf rfl) rfl rfl ?_
    refine op_assign (nxlf rfl) rfl rfl ?_
    refine At.opsNil ?_
    refine At.norm (hk_6 ?_)
    refine At.ret (?_)
    refine At.ret1 (L1 := []) rfl (.tmp rfl .nil) (.refl _) (.refl _) ?_
    have e : t = [] := List.eq_nil_of_length_eq_zero (by omega)
    subst e
    exact ⟨by rw [← hd]; rfl, rfl⟩
theorem FTrimL_f (l : List UInt8) : Fn Tryd.prog 52 #[str l, str [48]] [] [] (fun v L => v = str (dropB 48 l) ∧ L = []) := by
  refine Fn.enter (vs := [str l, str [48]]) Tryd.func52 rfl rfl rfl ?_
  intro E R hR
  change At _ _ E [R] _
  refine At.seq fun K1 hk_1 => ?_
  refine At.region ?_
  refine op_assign (nxlf rfl) rfl rfl ?_
  refine At.opsNil ?_
  refine At.norm (hk_1 ?_)
  refine At.seq fun K2 hk_2 => ?_
  refine At.seq fun K3 hk_3 => ?_
  refine At.region ?_
  refine op_move (nxlf rfl) rfl rfl ?_
  refine op_eqS (b := []) (nxlf rfl) rfl rfl rfl ?_
  refine op_move (nxlf rfl) rfl rfl ?_
  refine At.partP (d := 9) rfl (fun g9 => ?_) (fun g9 => ?_)
  · refine op_skip rfl rfl rfl rfl rfl rfl rfl ?_
    refine op_skip rfl rfl rfl rfl rfl rfl rfl ?_
    refine op_pickT (nxlf rfl) rfl rfl rfl ?_
    refine At.opsNil ?_
    refine At.norm (hk_3 ?_)
    refine At.condT rfl ?_
    refine At.seq fun K4 hk_4 => ?_
    refine At.region ?_
    refine op_move (nxlf rfl) rfl rfl ?_
    refine op_assign (nxlf rfl) rfl rfl ?_
    refine At.opsNil ?_
    refine At.norm (hk_4 ?_)
    refine At.ret (At.thenRet (?_))
    refine At.ret1 (L1 := []) rfl (.tmp rfl .nil) (.refl _) (.refl _) ?_
    have e : l = [] := g9
    subst e
    exact ⟨rfl, rfl⟩
  · refine op_move (nxgf rfl rfl rfl rfl) rfl rfl ?_
    refine op_eqS (b := []) (nxgf rfl rfl rfl rfl) rfl rfl rfl ?_
    refine op_pickF (nxlf rfl) rfl rfl rfl ?_
    refine At.opsNil ?_
    refine At.norm (hk_3 ?_)
    refine At.condP rfl (fun c12 => ?_) (fun c12 => ?_)
    · exact absurd c12 (by decide)
    · refine At.knowF (d := 12) rfl c12 ?_
      refine At.skip ?_
      refine At.norm (hk_2 ?_)
      refine At.seq fun K5 hk_5 => ?_
      refine At.seq fun K6 hk_6 => ?_
      refine At.region ?_
      refine op_move (nxlf rfl) rfl rfl ?_
      refine op_lenStr (nxlf rfl) Tryd.underlying9 rfl rfl ?_
      refine op_eql (nxlf rfl) rfl rfl rfl ?_
      refine op_move (nxlf rfl) rfl rfl ?_
      refine At.partP (d := 17) rfl (fun g17 => ?_) (fun g17 => ?_)
      · refine op_move (nxgf rfl rfl rfl rfl) rfl rfl ?_
        refine op_idxS (nxgf rfl rfl rfl rfl) Tryd.underlying9 rfl rfl (show _ = (((0 : Nat)) : Int) from by omega) (by omega) rfl ?_
        refine op_lss (nxgf rfl rfl rfl rfl) rfl rfl rfl ?_
        refine op_pickT (nxlf rfl) rfl rfl rfl ?_
        refine At.opsNil ?_
        refine At.norm (hk_6 ?_)
        refine At.condP rfl (fun c21 => ?_) (fun c21 => ?_)
        · refine At.knowT (d := 21) rfl c21 ?_
          refine At.seq fun K7 hk_7 => ?_
          refine At.region ?_
          refine op_move (nxlf rfl) rfl rfl ?_
          refine op_move (nxlf rfl) rfl rfl ?_
          refine op_idxS (nxlf rfl) Tryd.underlying9 rfl rfl (show _ = (((0 : Nat)) : Int) from by omega) (by omega) rfl ?_
          refine op_callA (nxla rfl) (.cons rfl (.cons rfl .nil)) (FTrimB_f l 48) Tryd.func67 rfl rfl (by simp) rfl ?_
          rintro v25 L25 ⟨rfl, rfl⟩
          change At _ _ _ [R] _
          refine op_assign (nxlf rfl) rfl rfl ?_
          refine At.opsNil ?_
          refine At.norm (hk_7 ?_)
          refine At.ret (At.thenRet (?_))
          refine At.ret1 (L1 := []) rfl (.tmp rfl .nil) (.refl _) (.refl _) ?_
          exact ⟨rfl, rfl⟩
        · exact absurd (by decide) c21
      · exact absurd rfl g17
/-- A number's text. -/
def quantT (x : Nat) : List UInt8 := 48 :: 120 :: (if dropB 48 (hexL (bytesOf x)) = [] then [48] else dropB 48 (hexL (bytesOf x)))
theorem FQuant_f {x : Nat} (hx : x < WW) : Fn Tryd.prog 25 #[wo x] [] [] (fun v L => v = str (quantT x) ∧ L = []) := by
  have hb : (bytesOf x).length ≤ 32 := by
    rw [length_bytesOf]
    have := bitLen_le.2 hx
    omega
  obtain ⟨t, ht⟩ : ∃ t, hexL (bytesOf x) = t := ⟨_, rfl⟩
  have htl := hexL_len (bytesOf x)
  rw [ht] at htl
  refine Fn.enter (vs := [wo x]) Tryd.func25 rfl rfl rfl ?_
  intro E R hR
  change At _ _ E [R] _
  refine At.seq fun K1 hk_1 => ?_
  refine At.region ?_
  refine op_box (nxla rfl) rfl rfl rfl (fun N1 b1 B1 => ?_)
  change Blk N1 b1 _ (u64s (wl x)) at B1
  refine op_assign (nxlf rfl) rfl rfl ?_
  refine At.opsNil ?_
  refine At.norm (hk_1 ?_)
  refine At.seq fun K2 hk_2 => ?_
  refine At.region ?_
  refine op_loadAggB (ds := u64s (wl x)) (nxlf rfl) ag46 rfl B1 (by first | (rw [List.drop_zero, List.take_of_length_le (by first | (simp; done) | (simp; omega))]; done) | rfl) (by first | (simp; done) | (simp; omega)) mem0 rfl ?_
  refine op_callA (nxla rfl) (.cons rfl .nil) (WShort_w hx) Tryd.func54 rfl rfl (by simp) rfl ?_
  rintro v5 L5 ⟨N5, a5, c5, rfl, rfl, r5⟩
  change At _ _ _ [N5, N1, R] _
  refine op_callA (nxla rfl) (.cons rfl .nil) (FText_f r5.rsl (by omega)) Tryd.func9 rfl rfl (by simp) rfl ?_
  rintro v6 L6 ⟨rfl, rfl⟩
  change At _ _ _ [N5, N1, R] _
  refine op_callA (nxla rfl) (.cons rfl (.cons rfl .nil)) (FTrimP_f (l := hexT (bytesOf x)) (p := [48, 120]) (by rw [hexT_len]; show 2 ≤ _; omega) rfl) Tryd.func53 rfl rfl (by simp) rfl ?_
  rintro v7 L7 ⟨rfl, rfl⟩
  change At _ _ _ [N5, N1, R] _
  rw [show (hexT (bytesOf x)).drop ([48, 120] : List UInt8).length = t from by rw [← ht]; rfl]
  refine op_callA (nxla rfl) (.cons rfl (.cons rfl .nil)) (FTrimL_f t) Tryd.func52 rfl rfl (by simp) rfl ?_
  rintro v8 L8 ⟨rfl, rfl⟩
  change At _ _ _ [N5, N1, R] _
  refine op_assign (nxlf rfl) rfl rfl ?_
  refine At.opsNil ?_
  refine At.norm (hk_2 ?_)
  refine At.seq fun K3 hk_3 => ?_
  refine At.seq fun K4 hk_4 => ?_
  refine At.region ?_
  refine op_move (nxlf rfl) rfl rfl ?_
  refine op_eqS (b := []) (nxlf rfl) rfl rfl rfl ?_
  refine At.opsNil ?_
  refine At.norm (hk_4 ?_)
  refine At.condP rfl (fun c10 => ?_) (fun c10 => ?_)
  · refine At.region ?_
    refine op_assign (nxlf rfl) rfl rfl ?_
    refine At.opsNil ?_
    refine At.norm (hk_3 ?_)
    refine At.seq fun K5 hk_5 => ?_
    refine At.region ?_
    refine op_move (nxlf rfl) rfl rfl ?_
    refine op_addS (a := [48, 120]) (nxlf rfl) rfl rfl (by (have := dropB_len 48 t; first | (simp; done) | (simp; omega))) rfl ?_
    refine op_assign (nxlf rfl) rfl rfl ?_
    refine At.opsNil ?_
    refine At.norm (hk_5 ?_)
    refine At.ret (?_)
    refine At.sub (L' := [R]) (.cons _ (.cons _ (.cons_cons _ (.slnil)))) ?_
    refine At.ret1 (L1 := []) rfl (.tmp rfl .nil) (.refl _) (.refl _) ?_
    exact ⟨by rw [quantT, ht, if_pos c10]; rfl, rfl⟩
  · refine At.skip ?_
    refine At.norm (hk_3 ?_)
    refine At.seq fun K6 hk_6 => ?_
    refine At.region ?_
    refine op_move (nxlf rfl) rfl rfl ?_
    refine op_addS (a := [48, 120]) (nxlf rfl) rfl rfl (by (have := dropB_len 48 t; first | (simp; done) | (simp; omega))) rfl ?_
    refine op_assign (nxlf rfl) rfl rfl ?_
    refine At.opsNil ?_
    refine At.norm (hk_6 ?_)
    refine At.ret (?_)
    refine At.sub (L' := [R]) (.cons _ (.cons _ (.cons_cons _ (.slnil)))) ?_
    refine At.ret1 (L1 := []) rfl (.tmp rfl .nil) (.refl _) (.refl _) ?_
    exact ⟨by rw [quantT, ht, if_neg c10]; rfl, rfl⟩
end Go.Proofs.YtlkjfbfenpkmhaaDoor
/- A text of digits and then a rune that is none: plain laws. No condition. -/
namespace Go.Proofs.YtlkjfbfenpkmhaaDoor
set_option linter.unusedVariables false
set_option linter.unusedSimpArgs false
open Go
theorem decode_low {b : UInt8} {t : List UInt8} (h : b.toNat < 128) : Lib.decodeL (b :: t) = (b.toNat, 1) := by
  rw [Lib.decodeL_N]
  rcases Lib.decodeN_shape (b :: t).length ((b :: t).getD 0 0).toNat ((b :: t).getD 1 0).toNat ((b :: t).getD 2 0).toNat ((b :: t).getD 3 0).toNat with ⟨c, e⟩ | ⟨c1, c2, c3, cv, e⟩ | ⟨c1, c2, c3, c4, cv, cs, e⟩ | ⟨c1, c2, c3, c4, c5, cv, cw, e⟩ | e
  · rw [e]; rfl
  · exfalso; change b.toNat / 32 = 6 at c1; omega
  · exfalso; change b.toNat / 16 = 14 at c1; omega
  · exfalso; change b.toNat / 8 = 30 at c1; omega
  · have h2 : Lib.decodeN (b :: t).length b.toNat ((b :: t).getD 1 0).toNat ((b :: t).getD 2 0).toNat ((b :: t).getD 3 0).toNat = (b.toNat, 1) := by
      unfold Lib.decodeN
      rw [if_pos h]
    exact h2
theorem decode_high {b : UInt8} {t : List UInt8} (h : 128 ≤ b.toNat) : 128 ≤ (Lib.decodeL (b :: t)).1 := by
  rw [Lib.decodeL_N]
  rcases Lib.decodeN_shape (b :: t).length ((b :: t).getD 0 0).toNat ((b :: t).getD 1 0).toNat ((b :: t).getD 2 0).toNat ((b :: t).getD 3 0).toNat with ⟨c, e⟩ | ⟨c1, c2, c3, cv, e⟩ | ⟨c1, c2, c3, c4, cv, cs, e⟩ | ⟨c1, c2, c3, c4, c5, cv, cw, e⟩ | e
  · exfalso; change b.toNat < 128 at c; omega
  all_goals
    rw [e]
    simp only
    omega
theorem runes_low {b : UInt8} {t : List UInt8} (h : b.toNat < 128) : runesOf (b :: t) = b.toNat :: runesOf t := by
  rw [runes_step (List.cons_ne_nil _ _), decode_low h]; rfl
theorem runes_lows : ∀ (l t : List UInt8), (∀ b ∈ l, b.toNat < 128) → runesOf (l ++ t) = l.map (·.toNat) ++ runesOf t := by
  intro l
  induction l with
  | nil => intro t _; rfl
  | cons b l ih =>
    intro t h
    rw [List.cons_append, runes_low (h b (List.mem_cons_self ..)), ih t (fun x hx => h x (List.mem_cons_of_mem _ hx))]; rfl
/-- A byte that is a hex digit, and its value. -/
def hexOk (b : UInt8) : Prop := b.toNat < 128 ∧ (hexV b.toNat).isSome = true
def hexVal (b : UInt8) : UInt8 := UInt8.ofNat ((hexV b.toNat).getD 0)
theorem read_hexs {ask : List UInt8 → Nat} : ∀ (l : List UInt8) (k : Nat) (acc : List UInt8) (t : List Nat), (∀ b ∈ l, hexOk b) → 2 ≤ k → (∀ i, i < l.length → ask (acc ++ (l.take i).map hexVal) = 0) → readF ask k acc (l.map (·.toNat) ++ t) = readF ask (k + l.length) (acc ++ l.map hexVal) t := by
  intro l
  induction l with
  | nil => intro k acc t _ _ _; simp
  | cons b l ih =>
    intro k acc t h hk ha
    obtain ⟨_, hb⟩ := h b (List.mem_cons_self ..)
    obtain ⟨v, hv⟩ := Option.isSome_iff_exists.1 hb
    have e : UInt8.ofNat v = hexVal b := by rw [hexVal, hv]; rfl
    have h0 := ha 0 (by simp)
    rw [List.take_zero, List.map_nil, List.append_nil] at h0
    rw [List.map_cons, List.cons_append, readF_some (by omega) hv h0, e, ih (k + 1) (acc ++ [hexVal b]) t (fun x hx => h x (List.mem_cons_of_mem _ hx)) (by omega) (fun i hi => ?_)]
    · rw [List.length_cons, List.map_cons, List.append_assoc, show k + 1 + l.length = k + (l.length + 1) by omega]; rfl
    · have := ha (i + 1) (by rw [List.length_cons]; omega)
      rw [List.take_succ_cons, List.map_cons] at this
      rw [List.append_assoc]; exact this
theorem hexD_ok : ∀ q, q < 16 → hexOk (hexD.getD q 0) ∧ (hexVal (hexD.getD q 0)).toNat = q := by
  have h : ∀ q, q < 16 → ((hexD.getD q 0).toNat < 128 ∧ (hexV (hexD.getD q 0).toNat).isSome = true) ∧ (hexVal (hexD.getD q 0)).toNat = q := by decide +kernel
  exact h
theorem hexL_ok : ∀ (l : List UInt8), ∀ b ∈ hexL l, hexOk b := by
  intro l b hb
  obtain ⟨x, _, hx⟩ := List.mem_flatMap.1 hb
  have hx8 := x.toNat_lt
  rcases List.mem_cons.1 hx with rfl | hx
  · exact (hexD_ok _ (by omega)).1
  · obtain rfl := List.mem_singleton.1 hx
    exact (hexD_ok _ (by omega)).1
theorem lows_of {l : List UInt8} (h : ∀ b ∈ l, hexOk b) : ∀ b ∈ (48 :: 120 :: l : List UInt8), b.toNat < 128 := by
  intro b hb
  rcases List.mem_cons.1 hb with rfl | hb
  · decide
  · rcases List.mem_cons.1 hb with rfl | hb
    · decide
    · exact (h b hb).1
/-- What is read of 0x, digits, and what comes behind them. -/
theorem read_text {ask : List UInt8 → Nat} {l t : List UInt8} (h : ∀ b ∈ l, hexOk b) (ha : ∀ i, i < l.length → ask ((l.take i).map hexVal) = 0) : readF ask 0 [] (runesOf (48 :: 120 :: l ++ t)) = readF ask (2 + l.length) (l.map hexVal) (runesOf t) := by
  rw [runes_lows _ _ (lows_of h), List.map_cons, List.map_cons, List.cons_append, List.cons_append]
  change readF ask 0 [] (ox 0 :: ox 1 :: (l.map (·.toNat) ++ runesOf t)) = _
  rw [readF_ox (by decide) rfl, readF_ox (by decide) rfl, read_hexs l 2 [] _ h (by decide) (fun i hi => ha i hi)]
  rfl
/-- Digits, and then a rune that is none: what is wrong stands just there. -/
theorem bytes_wrong {l t : List UInt8} (h : ∀ b ∈ l, hexOk b) (ht : t ≠ []) (hn : hexV (Lib.decodeL t).1 = none) : bytesR (48 :: 120 :: l ++ t) = ([], 2, 2 + l.length) := by
  unfold bytesR
  rw [read_text h (fun _ _ => rfl), runes_step ht, readF_none (by omega) hn]
  rfl
/-- Digits alone. -/
theorem bytes_text {l : List UInt8} (h : ∀ b ∈ l, hexOk b) (he : l.length % 2 = 0) : bytesR (48 :: 120 :: l) = (hexPs (l.map hexVal) (l.length / 2), 0, 0) := by
  unfold bytesR
  have := read_text (ask := fun _ => 0) (t := []) h (fun _ _ => rfl)
  rw [List.append_nil, runes_nil, readF_end1 (by omega)] at this
  rw [this]
  simp only [List.length_map]
  rw [if_neg (by decide), if_neg (by omega)]
/-- The first rune of a rune's bytes. -/
theorem enc_first (r : Int) : ∃ b t, encL r = b :: t ∧ (b.toNat < 128 → t = []) := by
  have hc : (if Utf8.valid r then r.toNat else Utf8.runeError) ≤ 1114111 := by
    split
    · rename_i h
      unfold Utf8.valid at h
      simp at h
      omega
    · decide
  unfold encL Utf8.encode
  generalize (if Utf8.valid r then r.toNat else Utf8.runeError) = c at hc ⊢
  simp only
  by_cases h1 : c < 128
  · rw [if_pos h1]; exact ⟨_, [], rfl, fun _ => rfl⟩
  · rw [if_neg h1]
    by_cases h2 : c < 2048
    · rw [if_pos h2]
      refine ⟨_, _, rfl, fun hb => ?_⟩
      rw [UInt8.toNat_ofNat'] at hb; omega
    · rw [if_neg h2]
      by_cases h3 : c < 65536
      · rw [if_pos h3]
        refine ⟨_, _, rfl, fun hb => ?_⟩
        rw [UInt8.toNat_ofNat'] at hb; omega
      · rw [if_neg h3]
        refine ⟨_, _, rfl, fun hb => ?_⟩
        rw [UInt8.toNat_ofNat'] at hb; omega
theorem first_same {r : Int} (t : List UInt8) (h : hexV (Lib.decodeL (encL r)).1 = none) : hexV (Lib.decodeL (encL r ++ t)).1 = none := by
  obtain ⟨b, u, e, hu⟩ := enc_first r
  rw [e] at h ⊢
  by_cases hb : b.toNat < 128
  · rw [hu hb] at h ⊢
    rw [decode_low hb] at h
    rw [List.cons_append, decode_low hb]; exact h
  · rw [List.cons_append]
    exact hexV_high (decode_high (by omega))
end Go.Proofs.YtlkjfbfenpkmhaaDoor
/- Keccak-256 in plain words: lanes, rounds, blocks. No condition. -/
namespace Go.Proofs.YtlkjfbfenpkmhaaDoor
set_option linter.unusedVariables false
set_option linter.unusedSimpArgs false
open Go Go.RowKit
/-- Turned to the left. -/
def rolN (v : UInt64) (n : Nat) : UInt64 := if n = 0 then v else shl64 v n ||| shr64 v (64 - n)
theorem rol_go {v : UInt64} {n : Nat} (h : n < 64) : shl64 v n ||| shr64 v (64 - n) = rolN v n := by
  unfold rolN
  split
  · rename_i h0
    subst h0
    apply UInt64.toNat_inj.1
    rw [UInt64.toNat_or, shl64_nat, shr64_nat, Nat.pow_zero, Nat.mul_one, Nat.mod_eq_of_lt v.toNat_lt, Nat.div_eq_of_lt v.toNat_lt, Nat.or_zero]
  · rfl
/-! The constants of the rounds. -/
def rI : Nat → Int
  | 0 => 1
  | n + 1 => bits .xor .u8 (IntKind.u8.wrap (rI n * 2 ^ (min (1 : Int).toNat IntKind.u8.bits))) (IntKind.u8.wrap (rI n / 2 ^ (min (7 : Int).toNat IntKind.u8.bits) * 113))
def cStep (l : List UInt64) (n : Nat) : List UInt64 := l.set (n / 7) (l.getD (n / 7) 0 ||| shl64 (UInt64.ofNat (bits .and .u8 (rI n) 1).toNat) (shl64 1 (n % 7) - 1).toNat)
def cN : Nat → List UInt64
  | 0 => List.replicate 24 0
  | n + 1 => cStep (cN n) n
theorem cN_len : ∀ n, (cN n).length = 24
  | 0 => rfl
  | n + 1 => by rw [cN, cStep, List.length_set, cN_len n]
def rcL : List UInt64 := cN 168
def rJ : Nat → Int
  | 0 => 1
  | n + 1 => if rJ n * 2 ≥ 256 then bits .xor .i64 (rJ n * 2 - 256) 113 else rJ n * 2
def wJ (r : Nat) : Nat → UInt64
  | 0 => 0
  | n + 1 => if 7 * r ≤ n ∧ bits .and .i64 (rJ n) 1 = 1 then wJ r n ||| shl64 1 (shl64 1 (n - 7 * r) - 1).toNat else wJ r n
set_option maxRecDepth 100000 in
theorem rI_ok : ∀ n : Fin 169, 0 ≤ rI n.1 ∧ rI n.1 ≤ 255 ∧ 0 ≤ bits .and .u8 (rI n.1) 1 := by decide +kernel
set_option maxRecDepth 100000 in
theorem rJ_ok : ∀ n : Fin 169, 0 ≤ rJ n.1 ∧ rJ n.1 ≤ 255 := by decide +kernel
set_option maxRecDepth 100000 in
theorem wJ_ok : ∀ r : Fin 24, wJ r.1 (7 * r.1 + 7) = rcL.getD r.1 0 := by decide +kernel
/-! Theta. -/
def thC (a : List UInt64) : Nat → List UInt64
  | 0 => [0, 0, 0, 0, 0]
  | i + 1 => (thC a i).set (i % 5) ((thC a i).getD (i % 5) 0 ^^^ a.getD i 0)
theorem thC_len (a : List UInt64) : ∀ i, (thC a i).length = 5
  | 0 => rfl
  | i + 1 => by rw [thC, List.length_set, thC_len a i]
def thA (c a : List UInt64) : Nat → List UInt64
  | 0 => a
  | i + 1 => (thA c a i).set i ((thA c a i).getD i 0 ^^^ (c.getD ((i % 5 + 4) % 5) 0 ^^^ rolN (c.getD ((i % 5 + 1) % 5) 0) 1))
theorem thA_len (c a : List UInt64) : ∀ i, (thA c a i).length = a.length
  | 0 => rfl
  | i + 1 => by rw [thA, List.length_set, thA_len c a i]
def theta (a : List UInt64) : List UInt64 := thA (thC a 25) a 25
theorem theta_len (a : List UInt64) : (theta a).length = a.length := thA_len ..
/-! Rho and pi. -/
def pX : Nat → Nat × Nat
  | 0 => (1, 0)
  | t + 1 => ((pX t).2, (2 * (pX t).1 + 3 * (pX t).2) % 5)
theorem pX_lt : ∀ t, (pX t).1 < 5 ∧ (pX t).2 < 5
  | 0 => ⟨by decide, by decide⟩
  | t + 1 => ⟨(pX_lt t).2, Nat.mod_lt _ (by decide)⟩
def pos (t : Nat) : Nat := (pX t).1 + 5 * (pX t).2
theorem pos_lt (t : Nat) : pos t < 25 := by
  have := pX_lt t
  unfold pos; omega
def rot (t : Nat) : Nat := (t + 1) * (t + 2) / 2 % 64
def tuP (a : List UInt64) : Nat → List UInt64 × UInt64
  | 0 => (a, a.getD 1 0)
  | t + 1 => ((tuP a t).1.set (pos (t + 1)) (rolN (tuP a t).2 (rot t)), (tuP a t).1.getD (pos (t + 1)) 0)
theorem tuP_len (a : List UInt64) : ∀ t, (tuP a t).1.length = a.length
  | 0 => rfl
  | t + 1 => by rw [tuP]; simp only [List.length_set]; exact tuP_len a t
def tuR (a : List UInt64) : Nat → List UInt64
  | 0 => (List.replicate 25 0).set 0 (a.getD 0 0)
  | t + 1 => (tuR a t).set (pos (t + 1)) (rolN (a.getD (pos t) 0) (rot t))
theorem tuR_len (a : List UInt64) : ∀ t, (tuR a t).length = 25
  | 0 => by rw [tuR, List.length_set, List.length_replicate]
  | t + 1 => by rw [tuR, List.length_set, tuR_len a t]
theorem pos_apart : ∀ s : Fin 25, ∀ t : Fin 25, pos s.1 = pos t.1 → (s.1 % 24 = t.1 % 24) := by decide +kernel
theorem pos_full : ∀ j : Fin 25, j.1 = 0 ∨ ∃ s : Fin 24, pos (s.1 + 1) = j.1 := by decide +kernel
theorem pos_pos : ∀ s : Fin 25, 0 < pos s.1 := by decide +kernel
theorem kgetD_ne {l : List UInt64} {i j : Nat} {x : UInt64} (h : i ≠ j) : (l.set i x).getD j 0 = l.getD j 0 := by
  rw [List.getD_eq_getElem?_getD, List.getD_eq_getElem?_getD, List.getElem?_set_ne h]
theorem kgetD_eq {l : List UInt64} {i : Nat} {x : UInt64} (h : i < l.length) : (l.set i x).getD i 0 = x := by
  rw [List.getD_eq_getElem?_getD, List.getElem?_set_self h]; rfl
/-- What stands where t steps have gone. -/
theorem tuP_at {a : List UInt64} (ha : a.length = 25) : ∀ t, t ≤ 24 → (∀ s, s < t → (tuP a t).1.getD (pos (s + 1)) 0 = rolN (a.getD (pos s) 0) (rot s)) ∧ (∀ j, (∀ s, s < t → pos (s + 1) ≠ j) → (tuP a t).1.getD j 0 = a.getD j 0) ∧ (tuP a t).2 = a.getD (pos t) 0
  | 0, _ => ⟨fun s h => absurd h (Nat.not_lt_zero _), fun j _ => rfl, rfl⟩
  | t + 1, ht => by
    obtain ⟨h1, h2, h3⟩ := tuP_at ha t (by omega)
    have hl : (tuP a t).1.length = 25 := (tuP_len a t).trans ha
    refine ⟨fun s hs => ?_, fun j hj => ?_, ?_⟩
    · rw [tuP]
      by_cases e : s = t
      · subst e
        show ((tuP a s).1.set (pos (s + 1)) _).getD (pos (s + 1)) 0 = _
        rw [kgetD_eq (by rw [hl]; exact pos_lt _), h3]
      · have hne : pos (t + 1) ≠ pos (s + 1) := fun e2 => by
          have := pos_apart ⟨t + 1, by omega⟩ ⟨s + 1, by omega⟩ e2
          simp only at this
          omega
        show ((tuP a t).1.set (pos (t + 1)) _).getD (pos (s + 1)) 0 = _
        rw [kgetD_ne hne, h1 s (by omega)]
    · rw [tuP]
      show ((tuP a t).1.set (pos (t + 1)) _).getD j 0 = _
      rw [kgetD_ne (hj t (by omega)), h2 j fun s hs => hj s (by omega)]
    · rw [tuP]
      show (tuP a t).1.getD (pos (t + 1)) 0 = _
      refine h2 _ fun s hs e2 => ?_
      have := pos_apart ⟨s + 1, by omega⟩ ⟨t + 1, by omega⟩ e2
      simp only at this
      omega
theorem tuR_at (a : List UInt64) : ∀ t, t ≤ 24 → (∀ s, s < t → (tuR a t).getD (pos (s + 1)) 0 = rolN (a.getD (pos s) 0) (rot s)) ∧ (tuR a t).getD 0 0 = a.getD 0 0
  | 0, _ => ⟨fun s h => absurd h (Nat.not_lt_zero _), by rw [tuR, kgetD_eq (by rw [List.length_replicate]; decide)]⟩
  | t + 1, ht => by
    obtain ⟨h1, h2⟩ := tuR_at a t (by omega)
    refine ⟨fun s hs => ?_, ?_⟩
    · rw [tuR]
      by_cases e : s = t
      · subst e
        rw [kgetD_eq (by rw [tuR_len]; exact pos_lt _)]
      · have hne : pos (t + 1) ≠ pos (s + 1) := fun e2 => by
          have := pos_apart ⟨t + 1, by omega⟩ ⟨s + 1, by omega⟩ e2
          simp only at this
          omega
        rw [kgetD_ne hne, h1 s (by omega)]
    · rw [tuR, kgetD_ne (by have := pos_pos ⟨t + 1, by omega⟩; simp only at this; omega), h2]
theorem ext_getD {a b : List UInt64} (hl : a.length = b.length) (h : ∀ j, j < a.length → a.getD j 0 = b.getD j 0) : a = b := by
  apply List.ext_getElem hl
  intro i h1 h2
  have := h i h1
  rwa [List.getD_eq_getElem?_getD, List.getD_eq_getElem?_getD, List.getElem?_eq_getElem h1, List.getElem?_eq_getElem h2] at this
theorem tu_eq {a : List UInt64} (ha : a.length = 25) : (tuP a 24).1 = tuR a 24 := by
  have hl : (tuP a 24).1.length = 25 := (tuP_len a 24).trans ha
  refine ext_getD (by rw [hl, tuR_len]) fun j hj => ?_
  obtain ⟨h1, h2, _⟩ := tuP_at ha 24 (Nat.le_refl _)
  obtain ⟨k1, k2⟩ := tuR_at a 24 (Nat.le_refl _)
  rcases pos_full ⟨j, by omega⟩ with e | ⟨s, e⟩
  · have e0 : j = 0 := e
    subst e0
    rw [k2, h2 0 fun s hs => by have := pos_pos ⟨s + 1, by omega⟩; simp only at this; omega]
  · have e1 : pos (s.1 + 1) = j := e
    rw [← e1, h1 s.1 s.2, k1 s.1 s.2]
/-! Chi. -/
def chL (b : List UInt64) (y x : Nat) : UInt64 := b.getD (y + x) 0 ^^^ (~~~(b.getD (y + (x + 1) % 5) 0) &&& b.getD (y + (x + 2) % 5) 0)
def chI (row p : List UInt64) (y : Nat) : Nat → List UInt64
  | 0 => p
  | x + 1 => (chI row p y x).set (y + x) (row.getD x 0 ^^^ (~~~(row.getD ((x + 1) % 5) 0) &&& row.getD ((x + 2) % 5) 0))
theorem chI_len (row p : List UInt64) (y : Nat) : ∀ x, (chI row p y x).length = p.length
  | 0 => rfl
  | x + 1 => by rw [chI, List.length_set, chI_len row p y x]
def chP (a : List UInt64) : Nat → List UInt64
  | 0 => a
  | k + 1 => chI (((chP a k).drop (5 * k)).take 5) (chP a k) (5 * k) 5
theorem chP_len (a : List UInt64) : ∀ k, (chP a k).length = a.length
  | 0 => rfl
  | k + 1 => by rw [chP, chI_len, chP_len a k]
def chR (b a : List UInt64) : Nat → List UInt64
  | 0 => a
  | i + 1 => (chR b a i).set i (b.getD i 0 ^^^ (~~~(b.getD (i - i % 5 + (i + 1) % 5) 0) &&& b.getD (i - i % 5 + (i + 2) % 5) 0))
theorem chR_len (b a : List UInt64) : ∀ i, (chR b a i).length = a.length
  | 0 => rfl
  | i + 1 => by rw [chR, List.length_set, chR_len b a i]
theorem chR_at {b a : List UInt64} (ha : a.length = 25) : ∀ i, i ≤ 25 → ∀ j, j < i → (chR b a i).getD j 0 = chL b (j - j % 5) (j % 5)
  | 0, _, j, h => absurd h (Nat.not_lt_zero _)
  | i + 1, hi, j, h => by
    rw [chR]
    by_cases e : j = i
    · subst e
      rw [kgetD_eq (by rw [chR_len, ha]; omega), chL, show j - j % 5 + j % 5 = j by omega, show (j % 5 + 1) % 5 = (j + 1) % 5 by omega, show (j % 5 + 2) % 5 = (j + 2) % 5 by omega]
    · rw [kgetD_ne (by omega), chR_at ha i (by omega) j (by omega)]
theorem row_at {l : List UInt64} {y x : Nat} (hx : x < 5) : ((l.drop y).take 5).getD x 0 = l.getD (y + x) 0 := by
  rw [List.getD_eq_getElem?_getD, List.getElem?_take, if_pos hx, List.getElem?_drop, ← List.getD_eq_getElem?_getD]
theorem chI_at {row p : List UInt64} {y : Nat} (hp : y + 5 ≤ p.length) : ∀ x, x ≤ 5 → (∀ s, s < x → (chI row p y x).getD (y + s) 0 = row.getD s 0 ^^^ (~~~(row.getD ((s + 1) % 5) 0) &&& row.getD ((s + 2) % 5) 0)) ∧ (∀ j, j < y ∨ y + x ≤ j → (chI row p y x).getD j 0 = p.getD j 0)
  | 0, _ => ⟨fun s h => absurd h (Nat.not_lt_zero _), fun j _ => rfl⟩
  | x + 1, hx => by
    obtain ⟨h1, h2⟩ := chI_at hp x (by omega)
    refine ⟨fun s hs => ?_, fun j hj => ?_⟩
    · rw [chI]
      by_cases e : s = x
      · subst e
        rw [kgetD_eq (by rw [chI_len]; omega)]
      · rw [kgetD_ne (by omega), h1 s (by omega)]
    · rw [chI, kgetD_ne (by omega), h2 j (by omega)]
theorem chP_at {b : List UInt64} (hb : b.length = 25) : ∀ k, k ≤ 5 → (∀ j, j < 5 * k → (chP b k).getD j 0 = chL b (j - j % 5) (j % 5)) ∧ (∀ j, 5 * k ≤ j → (chP b k).getD j 0 = b.getD j 0)
  | 0, _ => ⟨fun j h => absurd h (by omega), fun j _ => rfl⟩
  | k + 1, hk => by
    obtain ⟨h1, h2⟩ := chP_at hb k (by omega)
    have hl : (chP b k).length = 25 := (chP_len b k).trans hb
    obtain ⟨c1, c2⟩ := chI_at (row := ((chP b k).drop (5 * k)).take 5) (p := chP b k) (y := 5 * k) (by omega) 5 (Nat.le_refl _)
    refine ⟨fun j hj => ?_, fun j hj => ?_⟩
    · rw [chP]
      by_cases e : j < 5 * k
      · rw [c2 j (.inl e), h1 j e]
      · obtain ⟨s, rfl⟩ : ∃ s, j = 5 * k + s := ⟨j - 5 * k, by omega⟩
        rw [c1 s (by omega), row_at (by omega), row_at (Nat.mod_lt _ (by decide)), row_at (Nat.mod_lt _ (by decide)), h2 _ (by omega), h2 _ (by omega), h2 _ (by omega), chL, show 5 * k + s - (5 * k + s) % 5 = 5 * k by omega, show (5 * k + s) % 5 = s by omega]
    · rw [chP, c2 j (.inr (by omega)), h2 j (by omega)]
theorem ch_eq {b a : List UInt64} (hb : b.length = 25) (ha : a.length = 25) : chP b 5 = chR b a 25 := by
  have hl : (chP b 5).length = 25 := (chP_len b 5).trans hb
  refine ext_getD (by rw [hl, chR_len, ha]) fun j hj => ?_
  rw [(chP_at hb 5 (Nat.le_refl _)).1 j (by omega), chR_at ha 25 (Nat.le_refl _) j (by omega)]
/-! The permutation. -/
def kRound (a : List UInt64) (k : Nat) : List UInt64 := (chP (tuP (theta a) 24).1 5).set 0 ((chP (tuP (theta a) 24).1 5).getD 0 0 ^^^ rcL.getD k 0)
theorem kRound_len (a : List UInt64) (k : Nat) : (kRound a k).length = a.length := by rw [kRound, List.length_set, chP_len, tuP_len, theta_len]
def prm (a : List UInt64) : Nat → List UInt64
  | 0 => a
  | k + 1 => kRound (prm a k) k
theorem prm_len (a : List UInt64) : ∀ k, (prm a k).length = a.length
  | 0 => rfl
  | k + 1 => by rw [prm, kRound_len, prm_len a k]
/-! Blocks. -/
def abI (a : List UInt64) (l : List UInt8) : Nat → List UInt64
  | 0 => a
  | i + 1 => (abI a l i).set (i / 8) ((abI a l i).getD (i / 8) 0 ^^^ shl64 (UInt64.ofNat (l.getD i 0).toNat) (i % 8 * 8))
theorem abI_len (a : List UInt64) (l : List UInt8) : ∀ i, (abI a l i).length = a.length
  | 0 => rfl
  | i + 1 => by rw [abI, List.length_set, abI_len a l i]
def absorb (a : List UInt64) (l : List UInt8) : List UInt64 := prm (abI a l 136) 24
theorem absorb_len (a : List UInt64) (l : List UInt8) : (absorb a l).length = a.length := by rw [absorb, prm_len, abI_len]
def absN (l : List UInt8) : Nat → List UInt64
  | 0 => List.replicate 25 0
  | k + 1 => absorb (absN l k) ((l.drop (136 * k)).take 136)
theorem absN_len (l : List UInt8) : ∀ k, (absN l k).length = 25
  | 0 => List.length_replicate
  | k + 1 => by rw [absN, absorb_len, absN_len l k]
/-- The last block: what is left, a one, naughts, a one. -/
def padL (r : List UInt8) : List UInt8 :=
  let z := (r ++ List.replicate (136 - r.length) 0).set r.length 1
  z.set 135 (z.getD 135 0 ||| 128)
def ouI (a : List UInt64) : Nat → List UInt8
  | 0 => List.replicate 32 0
  | i + 1 => (ouI a i).set i (UInt8.ofNat (shr64 (a.getD (i / 8) 0) (i % 8 * 8)).toNat)
theorem ouI_len (a : List UInt64) : ∀ i, (ouI a i).length = 32
  | 0 => List.length_replicate
  | i + 1 => by rw [ouI, List.length_set, ouI_len a i]
/-- Keccak-256. -/
def kec (l : List UInt8) : List UInt8 := ouI (absorb (absN l (l.length / 136)) (padL (l.drop (136 * (l.length / 136))))) 32
theorem kec_len (l : List UInt8) : (kec l).length = 32 := ouI_len ..
end Go.Proofs.YtlkjfbfenpkmhaaDoor
