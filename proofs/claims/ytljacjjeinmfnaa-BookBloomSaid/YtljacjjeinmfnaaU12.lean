/- Several texts in one: see the remarks ahead of each part. No condition but those told there. -/
import Derived.Test.YtljacjjeinmfnaaU11
import Derived.Test.YtljacjjeinmfnaaU6
import Derived.Test.YtljacjjeinmfnaaU7
import Derived.Test.YtljacjjeinmfnaaU9
import Derived.Test.YtljacjjeinmfnaaU10
import Derived.Test.YtljacjjeinmfnaaU8
/- Plain laws on numbers in digits of 32 bits (out of those on limbs, by a program). No condition. -/
namespace Go.Proofs.Ytljacjjeinmfnaa
set_option linter.unusedVariables false
set_option linter.unusedSimpArgs false
theorem shr32_nat (x : UInt32) (s : Nat) : (shr32 x s).toNat = x.toNat / 2 ^ s := by
  rw [shr32, UInt32.toNat_ofNat', Nat.mod_eq_of_lt (Nat.lt_of_le_of_lt (Nat.div_le_self _ _) x.toNat_lt)]
theorem or_set32 {a : List UInt32} {q s w x : Nat} (hq : q < a.length) (hs : v32 a < 2 ^ (32 * q + s)) (hx : x < 2 ^ w) (hw : s + w ≤ 32) :
    v32 (a.set q (a.getD q 0 ||| UInt32.ofNat (x * 2 ^ s))) = v32 a + x * 2 ^ (32 * q + s) := by
  have hset := v32_set (a := a) (i := q) (y := a.getD q 0 ||| UInt32.ofNat (x * 2 ^ s)) hq
  have hdig := dig_v32 hq
  have hL : a[q].toNat < 2 ^ s := by
    rw [← hdig]
    refine Nat.lt_of_le_of_lt (Nat.mod_le _ _) ?_
    rw [Nat.div_lt_iff_lt_mul (Nat.pow_pos (by decide)), ← Nat.pow_add]
    rwa [Nat.add_comm s]
  have hc : x * 2 ^ s < 2 ^ 32 := by
    refine Nat.lt_of_lt_of_le (Nat.mul_lt_mul_of_pos_right hx (Nat.pow_pos (by decide))) ?_
    rw [← Nat.pow_add]
    exact Nat.pow_le_pow_right (by decide) (by omega)
  have hor : (a.getD q 0 ||| UInt32.ofNat (x * 2 ^ s)).toNat = a[q].toNat + x * 2 ^ s := by
    rw [List.getD_eq_getElem?_getD, List.getElem?_eq_getElem hq, Option.getD_some, UInt32.toNat_or, UInt32.toNat_ofNat', Nat.mod_eq_of_lt hc, Nat.or_comm, nat_join s _ _ (Nat.mul_mod_left _ _) hL, Nat.add_comm]
  rw [hor, Nat.add_mul, Nat.mul_assoc, ← Nat.pow_add, Nat.add_comm s] at hset
  omega
theorem v32_snoc (w : List UInt32) (x : UInt32) : v32 (w ++ [x]) = v32 w + 2 ^ (32 * w.length) * x.toNat := by
  rw [v32_append]
  simp only [v32, n32, val, List.map_cons, List.map_nil, Nat.mul_zero, Nat.add_zero]
theorem v32_take_all {l : List UInt32} {k : Nat} (h : l.length ≤ k) : v32 (l.take k) = v32 l := by rw [List.take_of_length_le h]
theorem v32_take_succD (l : List UInt32) (k : Nat) : v32 (l.take (k + 1)) = v32 (l.take k) + 2 ^ (32 * k) * (l.getD k 0).toNat := by
  rcases Nat.lt_or_ge k l.length with h | h
  · rw [v32_take_succ h, Nat.mul_comm]
  · rw [v32_take_all h, v32_take_all (by omega), List.getD_eq_getElem?_getD, List.getElem?_eq_none h]
    simp
theorem pow32 (k : Nat) : (2 : Nat) ^ (32 * (k + 1)) = 2 ^ (32 * k) * 4294967296 := by rw [show 32 * (k + 1) = 32 * k + 32 by omega, Nat.pow_add]
theorem v32_setD {p : List UInt32} {j : Nat} {y : UInt32} (h : j < p.length) : v32 (p.set j y) + (p.getD j 0).toNat * 2 ^ (32 * j) = v32 p + y.toNat * 2 ^ (32 * j) := by
  have := v32_set (y := y) h
  rwa [List.getD_eq_getElem?_getD, List.getElem?_eq_getElem h]
theorem digs_mono {A B : Nat} (h : A ≤ B) : (digsOf A).length ≤ (digsOf B).length := by
  rw [length_digsOf, length_digsOf]
  have := bitLen_mono h
  omega
theorem v32_split {l : List UInt32} {j : Nat} (h : j < l.length) : v32 l = v32 (l.take j) + 2 ^ (32 * j) * ((l.getD j 0).toNat + 4294967296 * v32 (l.drop (j + 1))) := by
  have e : l = l.take (j + 1) ++ l.drop (j + 1) := (List.take_append_drop _ _).symm
  conv => lhs; rw [e]
  rw [v32_append, List.length_take, Nat.min_eq_left (by omega), v32_take_succD, pow32, Nat.mul_add, Nat.mul_assoc, Nat.add_assoc]
theorem digit_at (l : List UInt32) (i : Nat) : v32 l / 2 ^ (32 * i) % 2 ^ 32 = (l.getD i 0).toNat := by
  rcases Nat.lt_or_ge i l.length with h | h
  · rw [dig_v32 h, List.getD_eq_getElem?_getD, List.getElem?_eq_getElem h]; rfl
  · rw [getD_big h, Nat.div_eq_of_lt (Nat.lt_of_lt_of_le (v32_lt l) (Nat.pow_le_pow_right (by decide) (by omega)))]; rfl
theorem bit_at32 (l : List UInt32) (i : Nat) : (shr32 (l.getD (i / 32) 0) (i % 32) &&& 1).toNat = v32 l / 2 ^ i % 2 := by
  rw [UInt32.toNat_and, shr32_nat, ← digit_at]
  have e : (2 : Nat) ^ i = 2 ^ (32 * (i / 32)) * 2 ^ (i % 32) := by rw [← Nat.pow_add]; congr 1; omega
  rw [e, ← Nat.div_div_eq_div_mul]
  generalize v32 l / 2 ^ (32 * (i / 32)) = W
  have hr : i % 32 < 32 := Nat.mod_lt _ (by decide)
  generalize i % 32 = r at *
  rw [show ((1 : UInt32).toNat) = 2 ^ 1 - 1 from rfl, Nat.and_two_pow_sub_one_eq_mod]
  rw [show (2 : Nat) ^ 32 = 2 ^ r * 2 ^ (32 - r) from by rw [← Nat.pow_add]; congr 1; omega, Nat.mod_mul_right_div_self]
  exact Nat.mod_mod_of_dvd _ (Nat.pow_dvd_pow 2 (by omega))
theorem bit_big32 {l : List UInt32} {i : Nat} (h : l.length ≤ i / 32) : v32 l / 2 ^ i % 2 = 0 := by
  rw [Nat.div_eq_of_lt (Nat.lt_of_lt_of_le (v32_lt l) (Nat.pow_le_pow_right (by decide) (by omega)))]
theorem v32_pad (a : List UInt32) (m : Nat) : v32 (a ++ List.replicate m 0) = v32 a := by rw [v32_append, v32_replicate]; simp
theorem v32_cons (x : UInt32) (l : List UInt32) : v32 (x :: l) = x.toNat + 4294967296 * v32 l := by simp [v32, n32, val]
theorem v32_top2 {u : List UInt32} {n : Nat} (hu : u.length = n + 1) (hn : 1 ≤ n) : v32 u = v32 (u.take (n - 1)) + 2 ^ (32 * (n - 1)) * ((u.getD n 0).toNat * 4294967296 + (u.getD (n - 1) 0).toNat) := by
  have h := v32_split (l := u) (j := n - 1) (by omega)
  rw [show n - 1 + 1 = n by omega] at h
  have e : v32 (u.drop n) = (u.getD n 0).toNat := by
    rw [List.drop_eq_getElem_cons (by omega), List.drop_of_length_le (by omega), List.getD_eq_getElem?_getD, List.getElem?_eq_getElem (by omega)]
    simp [v32, n32, val]
  rw [h, e]
  congr 2
  omega
theorem v32_top1 {v : List UInt32} {n : Nat} (hv : v.length = n) (hn : 1 ≤ n) : v32 v = v32 (v.take (n - 1)) + 2 ^ (32 * (n - 1)) * (v.getD (n - 1) 0).toNat := by
  have h := v32_take_succD v (n - 1)
  rw [show n - 1 + 1 = n by omega, v32_take_all (by omega)] at h
  exact h
theorem qhat_ge32 {u v : List UInt32} {n Q : Nat} (hu : u.length = n + 1) (hv : v.length = n) (hn : 1 ≤ n) (hQ : Q * v32 v ≤ v32 u) (h0 : 0 < (v.getD (n - 1) 0).toNat) :
    Q ≤ ((u.getD n 0).toNat * 4294967296 + (u.getD (n - 1) 0).toNat) / (v.getD (n - 1) 0).toNat := by
  rw [Nat.le_div_iff_mul_le h0]
  have h1 := v32_top2 hu hn
  have h2 := v32_top1 hv hn
  have h3 : v32 (u.take (n - 1)) < 2 ^ (32 * (n - 1)) := v32_take_lt _ _
  generalize (u.getD n 0).toNat * 4294967296 + (u.getD (n - 1) 0).toNat = T at *
  generalize (v.getD (n - 1) 0).toNat = y at *
  generalize 2 ^ (32 * (n - 1)) = P at *
  have h4 : P * (Q * y) ≤ Q * v32 v := by
    rw [h2, Nat.mul_add, Nat.mul_left_comm Q]; omega
  have h5 : P * (Q * y) < P * (T + 1) := by rw [Nat.mul_add P T, Nat.mul_one]; omega
  have h6 := Nat.lt_of_mul_lt_mul_left h5
  omega
theorem v32_drop_zero {G : List UInt32} {k n : Nat} (h : v32 (G.drop k) < 2 ^ (32 * n)) : v32 (G.drop (k + n)) = 0 := by
  have e : G.drop k = (G.drop k).take n ++ G.drop (k + n) := by
    conv => lhs; rw [← List.take_append_drop n (G.drop k)]
    rw [List.drop_drop]
  rcases Nat.lt_or_ge (G.drop k).length n with h1 | h1
  · rw [List.drop_of_length_le (by rw [List.length_drop] at h1; omega)]; rfl
  · rw [e, v32_append, List.length_take, Nat.min_eq_left h1] at h
    rcases Nat.eq_zero_or_pos (v32 (G.drop (k + n))) with h2 | h2
    · exact h2
    · have := Nat.mul_le_mul_left (2 ^ (32 * n)) h2
      omega
theorem v32_take_drop (G : List UInt32) {k : Nat} (h : k ≤ G.length) : v32 G = v32 (G.take k) + 2 ^ (32 * k) * v32 (G.drop k) := by
  conv => lhs; rw [← List.take_append_drop k G]
  rw [v32_append, List.length_take, Nat.min_eq_left h]
theorem win_lt32 {G : List UInt32} {j n V : Nat} (hj : j < G.length) (hV : v32 (G.drop (j + 1)) < V) (hVn : V ≤ 2 ^ (32 * n)) :
    v32 ((G.drop j).take (n + 1)) < V * 4294967296 ∧ v32 (G.drop (j + (n + 1))) = 0 ∧ v32 ((G.drop j).take (n + 1)) = v32 (G.drop j) := by
  have hz : v32 (G.drop (j + (n + 1))) = 0 := by
    rw [show j + (n + 1) = (j + 1) + n by omega]
    exact v32_drop_zero (Nat.lt_of_lt_of_le hV hVn)
  have e1 : v32 ((G.drop j).take (n + 1)) = v32 (G.drop j) := by
    have h := congrArg v32 (List.take_append_drop (n + 1) (G.drop j))
    rw [v32_append, List.drop_drop, hz, Nat.mul_zero, Nat.add_zero] at h
    exact h
  refine ⟨?_, hz, e1⟩
  have e2 : v32 (G.drop j) = (G.getD j 0).toNat + 4294967296 * v32 (G.drop (j + 1)) := by
    rw [List.drop_eq_getElem_cons hj, v32_cons, List.getD_eq_getElem?_getD, List.getElem?_eq_getElem hj]
    rfl
  have h1 := (G.getD j 0).toNat_lt
  rw [e1, e2]
  omega
theorem div_round32 {G u' qs h : List UInt32} {j n V U : Nat} {q : UInt32} (hj : j + (n + 1) ≤ G.length) (hqs : qs = List.replicate (j + 1) 0 ++ h) (hv : v32 G + v32 qs * V = U) (hw : v32 ((G.drop j).take (n + 1)) = v32 (G.drop j)) (hz : v32 (G.drop (j + (n + 1))) = 0)
    (hu : u'.length = n + 1) (hq : q.toNat = v32 ((G.drop j).take (n + 1)) / V) (hr : v32 u' = v32 ((G.drop j).take (n + 1)) % V) (hV : 0 < V) :
    v32 (G.take j ++ u' ++ G.drop (j + (n + 1))) + v32 (qs.set j q) * V = U ∧ v32 ((G.take j ++ u' ++ G.drop (j + (n + 1))).drop j) < V ∧ qs.set j q = List.replicate j 0 ++ (q :: h) := by
  have e0 : qs.set j q = List.replicate j 0 ++ (q :: h) := by
    rw [hqs, List.replicate_succ', List.append_assoc, List.cons_append, List.nil_append, set_mid (by simp)]
    simp
  have e1 : v32 (qs.set j q) = v32 qs + 2 ^ (32 * j) * q.toNat := by
    rw [e0, hqs, v32_append, v32_append, v32_replicate, v32_replicate, List.length_replicate, List.length_replicate, pow32]
    have : v32 (q :: h) = q.toNat + 4294967296 * v32 h := by simp [v32, n32, val]
    rw [this, Nat.mul_add, Nat.mul_assoc]
    omega
  have e2 : v32 (G.take j ++ u' ++ G.drop (j + (n + 1))) = v32 (G.take j) + 2 ^ (32 * j) * v32 u' := by
    rw [v32_append, hz, v32_append, List.length_take, Nat.min_eq_left (by omega)]; simp
  have e3 := v32_take_drop G (k := j) (by omega)
  rw [← hw] at e3
  have e4 := Nat.div_add_mod (v32 ((G.drop j).take (n + 1))) V
  rw [← hr, ← hq] at e4
  refine ⟨?_, ?_, e0⟩
  · rw [e2, e1, Nat.add_mul, ← hv, e3, ← e4, Nat.mul_add (2 ^ (32 * j)), Nat.mul_comm V, Nat.mul_assoc]
    omega
  · rw [List.append_assoc, List.drop_append_of_le_length (by rw [List.length_take]; omega), List.drop_of_length_le (by rw [List.length_take]; omega), List.nil_append, v32_append, hz, hr]
    simp only [Nat.mul_zero, Nat.add_zero]
    exact Nat.mod_lt _ hV
theorem digs_top {V : Nat} (h : 0 < V) : 1 ≤ (digsOf V).length ∧ 0 < ((digsOf V).getD ((digsOf V).length - 1) 0).toNat := by
  have hl := length_digsOf V
  have hb := bitLen_pos h
  have h1 : 1 ≤ (digsOf V).length := by omega
  refine ⟨h1, ?_⟩
  rcases Nat.eq_zero_or_pos ((digsOf V).getD ((digsOf V).length - 1) 0).toNat with h0 | h0
  · exfalso
    have e := v32_top1 (v := digsOf V) rfl h1
    rw [h0, Nat.mul_zero, Nat.add_zero, v32_digsOf] at e
    have hlt := v32_take_lt (digsOf V) ((digsOf V).length - 1)
    rw [← e] at hlt
    have := digLen_le.2 hlt
    omega
  · exact h0
end Go.Proofs.Ytljacjjeinmfnaa
/- Plain laws on numbers in digits of 32 bits that are reckoned in words of 64 bits. No condition. -/
namespace Go.Proofs.Ytljacjjeinmfnaa
set_option linter.unusedVariables false
set_option linter.unusedSimpArgs false
open Go Go.RowKit
theorem getD_right {α : Type} {p r : List α} {i k : Nat} {z : α} (h : p.length = i) : (p ++ r).getD (i + k) z = r.getD k z := by
  subst h
  rw [List.getD_eq_getElem?_getD, List.getD_eq_getElem?_getD, List.getElem?_append_right (by omega), Nat.add_sub_cancel_left]
/-- The lower half of a limb. -/
def lo32 (s : UInt64) : UInt32 := UInt32.ofNat s.toNat
theorem lo32_nat (s : UInt64) : (lo32 s).toNat = s.toNat % 4294967296 := by rw [lo32, UInt32.toNat_ofNat']
theorem lo_hi (s : UInt64) : (lo32 s).toNat + (shr64 s 32).toNat * 4294967296 = s.toNat := by
  rw [lo32_nat, shr64_nat]
  have := Nat.mod_add_div s.toNat 4294967296
  rw [show (2 : Nat) ^ 32 = 4294967296 from rfl, Nat.mul_comm]
  exact this
theorem of32 (x : UInt32) : (UInt64.ofNat x.toNat).toNat = x.toNat := by
  rw [UInt64.toNat_ofNat']
  exact Nat.mod_eq_of_lt (Nat.lt_trans x.toNat_lt (by decide))
theorem add64n {a b : UInt64} (h : a.toNat + b.toNat < 18446744073709551616) : (a + b).toNat = a.toNat + b.toNat := by rw [UInt64.toNat_add]; exact Nat.mod_eq_of_lt h
theorem sub64n {a b : UInt64} (h : b.toNat ≤ a.toNat) : (a - b).toNat = a.toNat - b.toNat := UInt64.toNat_sub_of_le _ _ (by rw [UInt64.le_iff_toNat_le]; exact h)
theorem mul64n {a b : UInt64} (ha : a.toNat ≤ 4294967295) (hb : b.toNat ≤ 4294967295) : (a * b).toNat = a.toNat * b.toNat ∧ a.toNat * b.toNat ≤ 18446744065119617025 := by
  have h := Nat.mul_le_mul ha hb
  exact ⟨by rw [UInt64.toNat_mul]; exact Nat.mod_eq_of_lt (Nat.lt_of_le_of_lt h (by decide)), h⟩
theorem dlt (l : List UInt32) (k : Nat) : (l.getD k 0).toNat ≤ 4294967295 := by have := (l.getD k 0).toNat_lt; omega
theorem add_round32 {w a b : List UInt32} {k : Nat} {c s : UInt64} (hw : w.length = k) (hv : v32 w + c.toNat * 2 ^ (32 * k) = v32 (a.take k) + v32 (b.take k)) (hs : s.toNat = c.toNat + (a.getD k 0).toNat + (b.getD k 0).toNat) :
    v32 (w ++ [lo32 s]) + (shr64 s 32).toNat * 2 ^ (32 * (k + 1)) = v32 (a.take (k + 1)) + v32 (b.take (k + 1)) := by
  have h := lo_hi s
  rw [hs] at h
  rw [v32_snoc, hw, v32_take_succD, v32_take_succD, pow32]
  have h2 := congrArg (2 ^ (32 * k) * ·) h
  simp only [Nat.mul_add] at h2
  have e : (shr64 s 32).toNat * (2 ^ (32 * k) * 4294967296) = 2 ^ (32 * k) * ((shr64 s 32).toNat * 4294967296) := by rw [Nat.mul_left_comm]
  rw [e]
  rw [Nat.mul_comm c.toNat] at hv
  omega
theorem sub_round32 {w a b : List UInt32} {k c c' y : Nat} {d : UInt32} (hw : w.length = k) (hv : v32 w + v32 (b.take k) = v32 (a.take k) + c * 2 ^ (32 * k)) (hd : d.toNat + y + c = (a.getD k 0).toNat + c' * 4294967296) (hy : y = (b.getD k 0).toNat) :
    v32 (w ++ [d]) + v32 (b.take (k + 1)) = v32 (a.take (k + 1)) + c' * 2 ^ (32 * (k + 1)) := by
  subst hy
  rw [v32_snoc, hw, v32_take_succD, v32_take_succD, pow32]
  have h2 := congrArg (2 ^ (32 * k) * ·) hd
  simp only [Nat.mul_add] at h2
  have e : c' * (2 ^ (32 * k) * 4294967296) = 2 ^ (32 * k) * (c' * 4294967296) := by rw [Nat.mul_left_comm]
  rw [e]
  rw [Nat.mul_comm c] at hv
  omega
theorem mul_round32 {p b : List UInt32} {i k V x : Nat} {c s : UInt64} (hj : i + k < p.length) (hv : v32 p + c.toNat * 2 ^ (32 * (i + k)) = V + 2 ^ (32 * i) * (x * v32 (b.take k))) (hs : s.toNat = x * (b.getD k 0).toNat + (p.getD (i + k) 0).toNat + c.toNat) :
    v32 (p.set (i + k) (lo32 s)) + (shr64 s 32).toNat * 2 ^ (32 * (i + (k + 1))) = V + 2 ^ (32 * i) * (x * v32 (b.take (k + 1))) := by
  have h := lo_hi s
  rw [hs] at h
  have h1 := v32_setD (y := lo32 s) hj
  have eE : 2 ^ (32 * i) * 2 ^ (32 * k) = 2 ^ (32 * (i + k)) := by rw [← Nat.pow_add, Nat.mul_add]
  rw [v32_take_succD, ← Nat.add_assoc, pow32]
  have e1 : 2 ^ (32 * i) * (x * (v32 (b.take k) + 2 ^ (32 * k) * (b.getD k 0).toNat)) = 2 ^ (32 * i) * (x * v32 (b.take k)) + 2 ^ (32 * (i + k)) * (x * (b.getD k 0).toNat) := by
    rw [← eE, Nat.mul_add, Nat.mul_add, Nat.mul_left_comm x, ← Nat.mul_assoc _ (2 ^ (32 * k))]
  rw [e1]
  generalize 2 ^ (32 * (i + k)) = T at *
  have h2 := congrArg (T * ·) h
  simp only [Nat.mul_add] at h2
  have e2 : (shr64 s 32).toNat * (T * 4294967296) = T * ((shr64 s 32).toNat * 4294967296) := by rw [Nat.mul_left_comm]
  rw [e2]
  rw [Nat.mul_comm c.toNat] at hv
  rw [Nat.mul_comm (p.getD (i + k) 0).toNat, Nat.mul_comm (lo32 s).toNat] at h1
  omega
theorem mul_outer32 {p a b : List UInt32} {i : Nat} {c : UInt64} (hp : p.length = i + b.length) (hc : c.toNat < 4294967296) (hv : v32 p + c.toNat * 2 ^ (32 * (i + b.length)) = v32 (a.take i) * v32 b + 2 ^ (32 * i) * ((a.getD i 0).toNat * v32 (b.take b.length))) :
    v32 (p ++ [lo32 c]) = v32 (a.take (i + 1)) * v32 b := by
  rw [v32_snoc, hp, v32_take_succD, Nat.add_mul, Nat.mul_assoc, Nat.mul_comm _ (lo32 c).toNat, lo32_nat, Nat.mod_eq_of_lt hc, hv, List.take_length]
theorem carry_lt {s : UInt64} : (shr64 s 32).toNat < 4294967296 := by
  rw [shr64_nat]; have := s.toNat_lt; omega
/-- Two digits side by side, shifted to the right. -/
theorem shr_digit {l : List UInt32} {j r : Nat} (hr : r < 32) {w : UInt64} (hw : w.toNat = (l.getD j 0).toNat + (l.getD (j + 1) 0).toNat * 4294967296) : UInt32.ofNat (v32 l / 2 ^ (32 * j + r)) = lo32 (shr64 w r) := by
  apply UInt32.toNat_inj.1
  rw [UInt32.toNat_ofNat', lo32_nat, shr64_nat, hw, ← digit_at, ← digit_at, Nat.pow_add, ← Nat.div_div_eq_div_mul]
  have e : v32 l / 2 ^ (32 * (j + 1)) = v32 l / 2 ^ (32 * j) / 4294967296 := by rw [pow32, Nat.div_div_eq_div_mul]
  rw [e]
  generalize v32 l / 2 ^ (32 * j) = W
  have e2 : W % 2 ^ 32 + W / 4294967296 % 2 ^ 32 * 4294967296 = W % 18446744073709551616 := by
    have := Nat.mod_mul (x := W) (a := 4294967296) (b := 4294967296)
    rw [Nat.mul_comm _ (W / 4294967296 % 4294967296)] at this
    exact this.symm
  rw [e2, show (18446744073709551616 : Nat) = 2 ^ r * 2 ^ (64 - r) from by rw [← Nat.pow_add, show r + (64 - r) = 64 by omega], Nat.mod_mul_right_div_self, show (4294967296 : Nat) = 2 ^ 32 from rfl, Nat.mod_mod_of_dvd _ (Nat.pow_dvd_pow 2 (by omega))]
theorem digsN_succ (k N : Nat) : digsN (k + 1) N = digsN k N ++ [UInt32.ofNat (N / 2 ^ (32 * k))] := by
  simp [digsN, List.range_succ]
theorem trim32d {N : Heaplet} {ao : Option Addr} {n cap : Nat} {l : List UInt32} (h : RSl N 1 ao n cap (u32s l)) (ht : l.take (digsOf (v32 l)).length = digsOf (v32 l)) (hle : (digsOf (v32 l)).length ≤ n) :
    RSl N 1 ao (digsOf (v32 l)).length cap (u32s (digsOf (v32 l))) := by
  have := h.take (hi := (digsOf (v32 l)).length) (m := cap) (Nat.le_trans hle h.2.1) (Nat.le_refl _) hle
  rwa [Nat.mul_one, u32s_take, ht] at this
/-- Digits in new memory: a number without zeros at its upper end. -/
def DigsP (V : Nat) (v : Value) (L : List Heaplet) : Prop :=
  ∃ M a c, v = .slice a (digsOf V).length c ∧ L = [M] ∧ RSl M 1 a (digsOf V).length c (u32s (digsOf V))
theorem split_mod {x P Q B : Nat} (h : B = P * Q) : x * Q % B = x % P * Q := by subst h; exact Nat.mul_mod_mul_right ..
theorem split_div {x P Q B : Nat} (h : B = P * Q) (hQ : 0 < Q) : x * Q / B = x / P := by subst h; exact Nat.mul_div_mul_right _ _ hQ
theorem shl_step {c : List UInt32} {j r x : Nat} (hj : j + 1 < c.length) (hr : r < 32) (hx : x < 4294967296) (hc : v32 c < 2 ^ (32 * j + r)) {w : UInt64} (hw : w.toNat = x * 2 ^ r) :
    v32 ((c.set j (c.getD j 0 ||| lo32 w)).set (j + 1) ((c.set j (c.getD j 0 ||| lo32 w)).getD (j + 1) 0 ||| lo32 (shr64 w 32))) = v32 c + x * 2 ^ (32 * j + r) := by
  have e32 : (4294967296 : Nat) = 2 ^ (32 - r) * 2 ^ r := by rw [← Nat.pow_add, show 32 - r + r = 32 by omega]
  have hp : 0 < 2 ^ (32 - r) := Nat.pow_pos (by decide)
  have hlt : x % 2 ^ (32 - r) * 2 ^ r < 2 ^ 32 := by
    have h := Nat.mul_lt_mul_of_pos_right (Nat.mod_lt x hp) (show 0 < 2 ^ r from Nat.pow_pos (by decide))
    rwa [← e32] at h
  have hlo : lo32 w = UInt32.ofNat (x % 2 ^ (32 - r) * 2 ^ r) := by
    apply UInt32.toNat_inj.1
    rw [lo32_nat, hw, UInt32.toNat_ofNat', Nat.mod_eq_of_lt hlt]
    exact split_mod e32
  have hhi : lo32 (shr64 w 32) = UInt32.ofNat (x / 2 ^ (32 - r) * 2 ^ 0) := by
    have e : w.toNat / 4294967296 = x / 2 ^ (32 - r) := by
      rw [hw]
      exact split_div e32 (Nat.pow_pos (by decide))
    rw [lo32, shr64_nat, show (2 : Nat) ^ 32 = 4294967296 from rfl, e, Nat.pow_zero, Nat.mul_one]
  have h1 := or_set32 (a := c) (q := j) (s := r) (w := 32 - r) (x := x % 2 ^ (32 - r)) (by omega) hc (Nat.mod_lt _ hp) (by omega)
  rw [← hlo] at h1
  have hsum : v32 c + x % 2 ^ (32 - r) * 2 ^ (32 * j + r) < 2 ^ (32 * (j + 1) + 0) := by
    have h2 : x % 2 ^ (32 - r) + 1 ≤ 2 ^ (32 - r) := Nat.mod_lt _ hp
    have h3 := Nat.mul_le_mul_right (2 ^ (32 * j + r)) h2
    rw [Nat.add_mul, Nat.one_mul, ← Nat.pow_add, show 32 - r + (32 * j + r) = 32 * (j + 1) + 0 by omega] at h3
    omega
  have hx2 : x / 2 ^ (32 - r) < 2 ^ r := by
    rw [Nat.div_lt_iff_lt_mul hp, Nat.mul_comm, ← e32]; exact hx
  have h4 := or_set32 (a := c.set j (c.getD j 0 ||| lo32 w)) (q := j + 1) (s := 0) (w := r) (x := x / 2 ^ (32 - r)) (by rw [List.length_set]; omega) (by rw [h1]; exact hsum) hx2 (by omega)
  rw [← hhi] at h4
  have e5 : (2 : Nat) ^ (32 * (j + 1) + 0) = 2 ^ (32 - r) * 2 ^ (32 * j + r) := by rw [← Nat.pow_add, show 32 * (j + 1) + 0 = 32 - r + (32 * j + r) by omega]
  have e6 : x % 2 ^ (32 - r) * 2 ^ (32 * j + r) + x / 2 ^ (32 - r) * 2 ^ (32 * (j + 1) + 0) = x * 2 ^ (32 * j + r) := by
    rw [e5, ← Nat.mul_assoc, ← Nat.add_mul, Nat.mul_comm (x / 2 ^ (32 - r)), Nat.mod_add_div]
  rw [h4, h1, Nat.add_assoc, e6]
end Go.Proofs.Ytljacjjeinmfnaa
/- The reference's Add, Sub, Mul: numbers in digits of 32 bits. Condition: numbers of at most 2^40 digits; for Sub: the second is no greater. -/
namespace Go.Proofs.Ytljacjjeinmfnaa
set_option linter.unusedVariables false
set_option linter.unusedSimpArgs false
open Go Go.RowKit
end Go.Proofs.Ytljacjjeinmfnaa
/- The reference's Shl, Shr, Bit, Len, Fill. Condition: numbers of at most 2^40 digits, shifts of at most 2^40 places. -/
namespace Go.Proofs.Ytljacjjeinmfnaa
set_option linter.unusedVariables false
set_option linter.unusedSimpArgs false
open Go Go.RowKit
theorem or_hi32 {x y : UInt32} : (UInt64.ofNat x.toNat ||| shl64 (UInt64.ofNat y.toNat) 32).toNat = x.toNat + y.toNat * 4294967296 := by
  have hx := x.toNat_lt
  have hy := y.toNat_lt
  rw [UInt64.toNat_or, of32, shl64_nat, of32, Nat.mod_eq_of_lt (show y.toNat * 2 ^ 32 < 2 ^ 64 by omega), Nat.or_comm, Nat.mul_comm, ← Nat.two_pow_add_eq_or_of_lt hx, Nat.add_comm, Nat.mul_comm]
theorem rFill_f {N : Heaplet} {ao : Option Addr} {n cap : Nat} {l : List UInt32} (h : RSl N 1 ao n cap (u32s l)) (hn : n ≤ 1099511627776) (w : Nat) (hw : w ≤ 1099511627776) (hV : v32 l < 256 ^ w) :
    Fn Try.prog 95 #[.slice ao n cap, .int .i64 (w : Int)] [] [N] (fun v L => ∃ M a c, v = .slice a w c ∧ L = [M] ∧ Row M 5 1 a w c (u8s (bytesN w (v32 l)))) := by
  have hl := length_bytesOf (v32 l)
  have h1 := byteLen_le.2 hV
  refine Fn.enter (vs := [.slice ao n cap, .int .i64 (w : Int)]) Try.func95 rfl rfl rfl ?_
  intro E R hR
  have h := h.le (hR N (by simp))
  change At _ _ E [R] _
  refine At.seq fun K1 hk_1 => ?_
  refine At.region ?_
  refine op_assign (nxlf rfl) rfl rfl ?_
  refine At.opsNil ?_
  refine At.norm (hk_1 ?_)
  refine At.seq fun K2 hk_2 => ?_
  refine At.region ?_
  refine op_move (nxlf rfl) rfl rfl ?_
  refine op_callA (nxla rfl) (.cons rfl .nil) (Bytes32_f h (by omega)) Try.func119 rfl rfl (by simp) rfl ?_
  rintro v8 L8 ⟨M8, a8, c8, rfl, rfl, r8⟩
  change At _ _ _ [M8, R] _
  have s8 := r8.rsl
  refine op_assign (nxlf rfl) rfl rfl ?_
  refine At.opsNil ?_
  refine At.norm (hk_2 ?_)
  refine At.seq fun K3 hk_3 => ?_
  refine At.region ?_
  refine op_move (nxlf rfl) rfl rfl ?_
  refine op_move (nxlf rfl) rfl rfl ?_
  refine op_lenS (nxlf rfl) se27 rfl rfl ?_
  refine op_subI (nxlf rfl) rfl rfl (by omega) (by omega) rfl ?_
  refine op_make (nxla rfl) Try.underlying27 te5 rfl rfl (show _ = (((w - (bytesOf (v32 l)).length : Nat)) : Int) from by omega) (show _ = (((w - (bytesOf (v32 l)).length : Nat)) : Int) from by omega) (by omega) (by unfold maxLen; omega) rfl (fun N13 a13 r13 => ?_)
  rw [made_one _ _ rfl, zero_u8s] at r13
  have s13 := r13.rsl
  refine op_assign (nxlf rfl) rfl rfl ?_
  refine At.opsNil ?_
  refine At.norm (hk_3 ?_)
  refine At.seq fun K4 hk_4 => ?_
  refine At.region ?_
  refine op_move (nxlf rfl) rfl rfl ?_
  refine op_move (nxlf rfl) rfl rfl ?_
  refine op_append (nxl rfl) Try.underlying27 Try.underlying27 te5 rfl rfl r13 s8 (by first | exact mem0 | exact mem1 | exact mem2 | exact mem3 | exact mem4 | exact mem5 | exact mem6 | exact mem7 | exact mem8 | exact mem9) (by first | exact one_u8s _ | exact one_u64s _ | exact one_u32s _ | (intro u hu; simp at hu; subst hu; rfl)) (by omega) (by omega) sel0 rfl (fun N16 a16 p16 r16 => ?_)
  have s16 := r16.rsl
  refine op_assign (nxlf rfl) rfl rfl ?_
  refine At.opsNil ?_
  refine At.norm (hk_4 ?_)
  refine At.ret (?_)
  refine At.sub (L' := [N16, R]) (.cons_cons _ (.cons _ (.cons_cons _ (.slnil)))) ?_
  refine At.ret1 (L1 := [N16]) rfl (.tmp rfl .nil) (.refl _) (.refl _) ?_
  rw [show u8s (List.replicate (w - (bytesOf (v32 l)).length) 0) ++ u8s (bytesOf (v32 l)) = u8s (List.replicate (w - (bytesOf (v32 l)).length) 0 ++ bytesOf (v32 l)) by simp [u8s], bytesN_pad hV, show w - (bytesOf (v32 l)).length + (bytesOf (v32 l)).length = w by omega] at r16
  rw [show w - (bytesOf (v32 l)).length + (bytesOf (v32 l)).length = w by omega]
  exact ⟨N16, _, _, rfl, rfl, r16⟩
end Go.Proofs.Ytljacjjeinmfnaa
/- The reference's less and back: the parts of a division. Condition: numbers of at most 2^40 digits. -/
namespace Go.Proofs.Ytljacjjeinmfnaa
set_option linter.unusedVariables false
set_option linter.unusedSimpArgs false
open Go Go.RowKit
theorem less_round {w u v : List UInt32} {k q cy cy' bw bw' m : Nat} {d : UInt32} (hw : w.length = k) (hv : v32 w + q * v32 (v.take k) = v32 (u.take k) + (cy + bw) * 2 ^ (32 * k)) (hm : m = cy + q * (v.getD k 0).toNat) (hcy : cy' = m / 4294967296)
    (hd : d.toNat + (m % 4294967296 + bw) = (u.getD k 0).toNat + bw' * 4294967296) : v32 (w ++ [d]) + q * v32 (v.take (k + 1)) = v32 (u.take (k + 1)) + (cy' + bw') * 2 ^ (32 * (k + 1)) := by
  have h1 : cy + q * (v.getD k 0).toNat = m % 4294967296 + cy' * 4294967296 := by rw [hcy, Nat.mul_comm (m / 4294967296), Nat.mod_add_div, hm]
  clear hm hcy
  generalize m % 4294967296 = ml at *
  have h4 := congrArg (2 ^ (32 * k) * ·) h1
  have h5 := congrArg (2 ^ (32 * k) * ·) hd
  simp only [Nat.mul_add] at h4 h5
  rw [v32_snoc, hw, v32_take_succD, v32_take_succD, pow32, Nat.mul_add, Nat.add_mul]
  have e1 : q * (2 ^ (32 * k) * (v.getD k 0).toNat) = 2 ^ (32 * k) * (q * (v.getD k 0).toNat) := Nat.mul_left_comm ..
  have e2 : cy' * (2 ^ (32 * k) * 4294967296) = 2 ^ (32 * k) * (cy' * 4294967296) := by rw [Nat.mul_left_comm]
  have e3 : bw' * (2 ^ (32 * k) * 4294967296) = 2 ^ (32 * k) * (bw' * 4294967296) := by rw [Nat.mul_left_comm]
  rw [e1, e2, e3]
  rw [Nat.add_mul, Nat.mul_comm cy, Nat.mul_comm bw] at hv
  omega
theorem and32' (z : UInt64) : (z &&& 4294967295).toNat = z.toNat % 4294967296 := and32 z
def LessP (co : Option Addr) (nc cc : Nat) (pre u v post : List UInt32) (q : Nat) (r : Value) (L : List Heaplet) : Prop :=
  ∃ M x, ∃ bw : Nat, r = .bool (decide (bw = 1)) ∧ L = [M] ∧ Row M 193 1 co nc cc (u32s (pre ++ x ++ post)) ∧ x.length = u.length ∧ bw ≤ 1 ∧ v32 x + q * v32 v = v32 u + bw * 2 ^ (32 * u.length)
def BackP (co : Option Addr) (nc cc : Nat) (pre u v post : List UInt32) (r : Value) (L : List Heaplet) : Prop :=
  ∃ M x, ∃ c : Nat, r = .tuple #[] ∧ L = [M] ∧ Row M 193 1 co nc cc (u32s (pre ++ x ++ post)) ∧ x.length = u.length ∧ c ≤ 1 ∧ v32 x + c * 2 ^ (32 * u.length) = v32 u + v32 v ∧ ((u.getD v.length 0).toNat ≤ (x.getD v.length 0).toNat ↔ c = 0)
end Go.Proofs.Ytljacjjeinmfnaa
/- The reference's DivMod. Condition: numbers of at most some 2^40 digits; the divisor is not 0. -/
namespace Go.Proofs.Ytljacjjeinmfnaa
set_option linter.unusedVariables false
set_option linter.unusedSimpArgs false
open Go Go.RowKit
theorem bitLen_shl {B s : Nat} (h : 0 < B) : bitLen (B * 2 ^ s) = bitLen B + s := by
  have h1 := lt_bitLen B
  have h3 := bitLen_pos h
  have h2 : 2 ^ (bitLen B - 1) ≤ B := by
    rcases Nat.lt_or_ge B (2 ^ (bitLen B - 1)) with h4 | h4
    · have := bitLen_le.2 h4; omega
    · exact h4
  refine bitLen_eq ?_ (.inr ?_)
  · rw [Nat.pow_add]; exact Nat.mul_lt_mul_of_pos_right h1 (Nat.pow_pos (by decide))
  · rw [show bitLen B + s - 1 = bitLen B - 1 + s by omega, Nat.pow_add]; exact Nat.mul_le_mul_right _ h2
theorem norm32 {B s : Nat} (h : 0 < B) (hs : s = 32 * (digsOf B).length - bitLen B) : s < 32 ∧ 1 ≤ (digsOf B).length ∧ (digsOf (B * 2 ^ s)).length = (digsOf B).length ∧ 2 ^ (32 * (digsOf B).length - 1) ≤ B * 2 ^ s ∧ B * 2 ^ s < 2 ^ (32 * (digsOf B).length) := by
  have hl := length_digsOf B
  have hb := bitLen_pos h
  have e := bitLen_shl (s := s) h
  have hp : 0 < B * 2 ^ s := Nat.mul_pos h (Nat.pow_pos (by decide))
  have hbs : bitLen (B * 2 ^ s) = 32 * (digsOf B).length := by omega
  refine ⟨by omega, by omega, by rw [length_digsOf (B * 2 ^ s), hbs]; omega, ?_, ?_⟩
  · rcases Nat.lt_or_ge (B * 2 ^ s) (2 ^ (32 * (digsOf B).length - 1)) with h4 | h4
    · have := bitLen_le.2 h4; omega
    · exact h4
  · rw [← hbs]; exact lt_bitLen _
theorem x_len {A s : Nat} (hs : s < 32) : (digsOf (A * 2 ^ s)).length ≤ (digsOf A).length + 1 := by
  rw [length_digsOf (A * 2 ^ s)]
  refine digLen_le.2 ?_
  have h : A < 2 ^ (32 * (digsOf A).length) := by have := v32_lt (digsOf A); rwa [v32_digsOf] at this
  have h2 : A * 2 ^ s < 2 ^ (32 * (digsOf A).length) * 2 ^ s := Nat.mul_lt_mul_of_pos_right h (Nat.pow_pos (by decide))
  rw [← Nat.pow_add] at h2
  exact Nat.lt_of_lt_of_le h2 (Nat.pow_le_pow_right (by decide) (by omega))
theorem top_small32 {C : List UInt32} {A s na nb V : Nat} (hC : C.length = na + 2) (hv : v32 C = A * 2 ^ s) (hA : A < 2 ^ (32 * na)) (hs : s < 32) (hn : 1 ≤ nb) (hna : nb ≤ na + 2) (hV : 2 ^ (32 * nb - 1) ≤ V) : v32 (C.drop (na + 2 - nb)) < V := by
  have h := v32_take_drop C (k := na + 2 - nb) (by omega)
  rw [hv] at h
  have h2 : A * 2 ^ s < 2 ^ (32 * na) * 2 ^ s := Nat.mul_lt_mul_of_pos_right hA (Nat.pow_pos (by decide))
  have h3 : 2 ^ (32 * na) * 2 ^ s ≤ 2 ^ (32 * (na + 2 - nb)) * V := by
    refine Nat.le_trans ?_ (Nat.mul_le_mul_left _ hV)
    rw [← Nat.pow_add, ← Nat.pow_add]
    exact Nat.pow_le_pow_right (by decide) (by omega)
  have h4 : 2 ^ (32 * (na + 2 - nb)) * v32 (C.drop (na + 2 - nb)) < 2 ^ (32 * (na + 2 - nb)) * V := by omega
  exact Nat.lt_of_mul_lt_mul_left h4
theorem v32_pad' (a : List UInt32) (m : Nat) : v32 (a ++ List.replicate m 0) = v32 a := by rw [v32_append, v32_replicate]; simp
theorem cmpI_lt {x y : Nat} : cmpI x y < 0 ↔ x < y := by
  unfold cmpI
  split
  · omega
  · split <;> omega
theorem take_ext {α : Type} {x : List α} {k : Nat} {z : α} (h : k < x.length) : x.take k ++ [x.getD k z] = x.take (k + 1) := by
  rw [List.take_succ_eq_append_getElem h, List.getD_eq_getElem?_getD, List.getElem?_eq_getElem h]; rfl
theorem win_getD {C : List UInt32} {j n k : Nat} (hk : k < n) : ((C.drop j).take n).getD k 0 = C.getD (j + k) 0 := by
  rw [List.getD_eq_getElem?_getD, List.getD_eq_getElem?_getD, List.getElem?_take, if_pos hk, List.getElem?_drop]
/-- Two numbers in digits, in new memory. -/
def DigsP2 (A B : Nat) (v : Value) (L : List Heaplet) : Prop :=
  ∃ M1 a1 c1 M2 a2 c2, v = .tuple #[.slice a1 (digsOf A).length c1, .slice a2 (digsOf B).length c2] ∧ L = [M1, M2] ∧ RSl M1 1 a1 (digsOf A).length c1 (u32s (digsOf A)) ∧ RSl M2 1 a2 (digsOf B).length c2 (u32s (digsOf B))
end Go.Proofs.Ytljacjjeinmfnaa
/- The reference's DivMod, Mod, ModExp in full. Condition: numbers of at most some 2^40 digits; the divisor is not 0. -/
namespace Go.Proofs.Ytljacjjeinmfnaa
set_option linter.unusedVariables false
set_option linter.unusedSimpArgs false
open Go Go.RowKit
theorem Hp.empty {E w : World} {L : List Heaplet} (h : Hp E L w) : Hp E (nilH :: L) w :=
  ⟨h.os, h.tape, h.output, fun N hN => by
    rcases List.mem_cons.1 hN with rfl | hN
    · intro k o hk; cases hk
    · exact h.sub N hN, List.pairwise_cons.2 ⟨fun N _ k => .inl rfl, h.sep⟩⟩
theorem Fn.liftR {P : Program} {f : FuncId} {args : Array Value} {L0 Lr : List Heaplet} {R : Heaplet} {Post : Value → List Heaplet → Prop} (h : Fn P f args L0 Lr Post) (hl : ∀ N ∈ Lr, N.le R) : Fn P f args L0 [R] Post := fun E w F hp hr =>
  h E w F hp fun M hM => Heaplet.le_trans (hl M hM) (hr R (by simp))
/-- A quotient in new memory, and a rest that may be what was divided. -/
def DivR (N : Heaplet) (A B : Nat) (v : Value) (L : List Heaplet) : Prop :=
  ∃ Mq aq cq Mr ar cr, v = .tuple #[.slice aq (digsOf A).length cq, .slice ar (digsOf B).length cr] ∧ L = [Mq, Mr] ∧ RSl Mq 1 aq (digsOf A).length cq (u32s (digsOf A)) ∧ (RSl Mr 1 ar (digsOf B).length cr (u32s (digsOf B)) ∨ RSl N 1 ar (digsOf B).length cr (u32s (digsOf B)))
def ModR (N : Heaplet) (V : Nat) (v : Value) (L : List Heaplet) : Prop :=
  ∃ Q p c, v = .slice p (digsOf V).length c ∧ L = [Q] ∧ (RSl Q 1 p (digsOf V).length c (u32s (digsOf V)) ∨ RSl N 1 p (digsOf V).length c (u32s (digsOf V)))
section
variable {N M : Heaplet} {ax bx : Option Addr} {na nb ca cb A B : Nat}
end
theorem digs_mul {X Y n : Nat} (hx : (digsOf X).length ≤ n) (hy : (digsOf Y).length ≤ n) : (digsOf (X * Y)).length ≤ 2 * n := by
  rw [length_digsOf]
  refine digLen_le.2 ?_
  have h1 : X < 2 ^ (32 * n) := digLen_le.1 (by rw [← length_digsOf]; exact hx)
  have h2 : Y < 2 ^ (32 * n) := digLen_le.1 (by rw [← length_digsOf]; exact hy)
  rw [show 32 * (2 * n) = 32 * n + 32 * n by omega, Nat.pow_add]
  exact Nat.mul_lt_mul'' h1 h2
section
variable {N M Nm : Heaplet} {bx ex mx : Option Addr} {nb ne nm cb ce cm B E' Mv : Nat}
end
end Go.Proofs.Ytljacjjeinmfnaa
/- The reference's words: sums, products, quotients, with signs and without. No condition. -/
namespace Go.Proofs.Ytljacjjeinmfnaa
set_option linter.unusedVariables false
set_option linter.unusedSimpArgs false
open Go Go.RowKit
theorem rN_w {x : Nat} (hx : x < WW) : Fn Try.prog 96 #[wo x] [] [] (DigsP x) := by
  obtain ⟨a, b, c, d, h⟩ := four (length_wl x)
  have hv := v64_wl_lt hx
  rw [h] at hv
  have := rN_f a b c d
  rw [hv] at this
  have e : wo x = .agg #[.int .u64 (a.toNat : Int), .int .u64 (b.toNat : Int), .int .u64 (c.toNat : Int), .int .u64 (d.toNat : Int)] := by rw [wo, h]; rfl
  rw [e]
  exact this
theorem dig_w {x : Nat} (hx : x < WW) : (digsOf x).length ≤ 8 := by rw [length_digsOf]; exact digLen_le.2 hx
theorem two_pow_lt (m k : Nat) (h : m + 1 < k) : 2 * 2 ^ m < 2 ^ k := by
  rw [← Nat.pow_succ']
  exact Nat.pow_lt_pow_right (by decide) h
theorem WW_lt (k : Nat) (hk : 9 ≤ k) : 2 * WW < 2 ^ (32 * k) := two_pow_lt 256 (32 * k) (by omega)
theorem dig_2top {X : Nat} (h : X ≤ 2 * WW) : (digsOf X).length ≤ 9 := by
  obtain ⟨k, hk⟩ : ∃ k : Nat, k = 9 := ⟨_, rfl⟩
  rw [← hk, length_digsOf]
  exact digLen_le.2 (Nat.lt_of_le_of_lt h (WW_lt k (by omega)))
theorem dig_top : (digsOf WW).length ≤ 9 := dig_2top (by omega)
end Go.Proofs.Ytljacjjeinmfnaa
/- The reference's words: quotients, with signs and without. No condition. -/
namespace Go.Proofs.Ytljacjjeinmfnaa
set_option linter.unusedVariables false
set_option linter.unusedSimpArgs false
open Go Go.RowKit
theorem absW_0 : absW 0 = 0 := (absW_zero WW_pos).2 rfl
theorem wo_WW : wo WW = wo 0 := wo_congr (by rw [Nat.mod_self, Nat.zero_mod])
theorem sgn_0 (m : Bool) : wo (sgn m 0) = wo 0 := by
  cases m
  · rfl
  · rw [sgn, if_pos rfl, Nat.sub_zero, wo_WW]
end Go.Proofs.Ytljacjjeinmfnaa
/- The reference's words: in and out, orders. No condition. -/
namespace Go.Proofs.Ytljacjjeinmfnaa
set_option linter.unusedVariables false
set_option linter.unusedSimpArgs false
open Go Go.RowKit
theorem wo_four {x : Nat} (hx : x < WW) : ∃ a b c d : UInt64, wo x = .agg #[.int .u64 (a.toNat : Int), .int .u64 (b.toNat : Int), .int .u64 (c.toNat : Int), .int .u64 (d.toNat : Int)] ∧ v64 [a, b, c, d] = x := by
  obtain ⟨a, b, c, d, h⟩ := four (length_wl x)
  have hv := v64_wl_lt hx
  rw [h] at hv
  exact ⟨a, b, c, d, by rw [wo, h]; rfl, hv⟩
theorem WBytes_w {x : Nat} (hx : x < WW) : Fn Try.prog 44 #[wo x] [] [] (fun v L => v = .agg (u8s (bytesN 32 x)).toArray ∧ L = []) := by
  obtain ⟨a, b, c, d, e, hv⟩ := wo_four hx
  have := WBytes_f a b c d
  rw [hv, ← e] at this
  exact this
theorem WShort_w {x : Nat} (hx : x < WW) : Fn Try.prog 101 #[wo x] [] [] (fun v L => ∃ M p k, v = .slice p (bytesOf x).length k ∧ L = [M] ∧ Row M 5 1 p (bytesOf x).length k (u8s (bytesOf x))) := by
  obtain ⟨a, b, c, d, e, hv⟩ := wo_four hx
  have := WShort_f a b c d
  rw [hv, ← e] at this
  exact this
theorem rShort_w {x : Nat} (hx : x < WW) : Fn Try.prog 117 #[wo x] [] [] (fun v L => ∃ M p k, v = .slice p (bytesOf x).length k ∧ L = [M] ∧ Row M 5 1 p (bytesOf x).length k (u8s (bytesOf x))) := by
  obtain ⟨a, b, c, d, e, hv⟩ := wo_four hx
  have := rShort_f a b c d
  rw [hv, ← e] at this
  exact this
theorem WFrom_w {N : Heaplet} {ao : Option Addr} {n cap : Nat} {l : List UInt8} (h : RSl N 1 ao n cap (u8s l)) : Fn Try.prog 142 #[.slice ao n cap] [] [N] (fun v L => v = .tuple #[wo (if n ≤ 32 then be l else 0), .bool (decide (n ≤ 32))] ∧ L = []) := by
  rcases Nat.lt_or_ge 32 n with hn | hn
  · rw [if_neg (by omega), decide_eq_false (by omega), wo_zero]
    exact WFrom_long h hn
  · rw [if_pos hn, decide_eq_true hn]
    refine (WFrom_f h hn).mono ?_
    rintro v L ⟨a, b, c, d, rfl, rfl, hv⟩
    refine ⟨?_, rfl⟩
    have e := wo_list (w := [a, b, c, d]) rfl
    rw [hv] at e
    rw [← e]; rfl
theorem rOf_w (n : UInt64) : Fn Try.prog 91 #[.int .u64 (n.toNat : Int)] [] [] (fun v L => v = wo n.toNat ∧ L = []) := by
  have e := wl_small n
  refine Fn.enter (vs := [.int .u64 (n.toNat : Int)]) Try.func91 rfl rfl rfl ?_
  intro E R hR
  change At _ _ E [R] _
  refine At.seq fun K1 hk_1 => ?_
  refine At.region ?_
  refine op_alloc (nxla rfl) ze26 rfl (fun N2 b2 B2 => ?_)
  change Blk N2 b2 _ [.int .u64 0, .int .u64 0, .int .u64 0, .int .u64 0] at B2
  refine At.opsNil ?_
  refine At.norm (hk_1 ?_)
  refine At.seq fun K2 hk_2 => ?_
  refine At.region ?_
  refine op_move (nxlf rfl) rfl rfl ?_
  refine op_buildA (out := [_, .int .u64 0, .int .u64 0, .int .u64 0]) (nxlf rfl) ze26 ae26 (.cons rfl .nil) rfl rfl ?_
  refine op_store (nxl rfl) sz26 rfl rfl rfl rfl rfl B2 (by simp) sel0 (fun N2 B2 => ?_)
  rw [setL_whole (by simp)] at B2
  refine At.opsNil ?_
  refine At.norm (hk_2 ?_)
  refine At.ret (?_)
  refine At.ret1 (L1 := []) rfl (.cell rfl (res_agg (ds := [_, _, _, _]) ag26 B2 rfl rfl mem0) .nil) (.cons _ (.refl _)) (.refl _) ?_
  exact ⟨by rw [wo_small], rfl⟩
theorem cmpI_eq (x y : Nat) : cmpI x y = cmpN x y := rfl
theorem small3 {x : Nat} (hx : x < WW) : (((wl x).getD 1 0).toNat = 0 ∧ ((wl x).getD 2 0).toNat = 0 ∧ ((wl x).getD 3 0).toNat = 0) ↔ x < 2 ^ 64 := by
  rw [← small_iff hx, ← UInt64.toNat_inj, UInt64.toNat_or, UInt64.toNat_or]
  show _ ↔ _ = 0
  rw [Nat.or_eq_zero_iff, Nat.or_eq_zero_iff, and_assoc]
theorem getD_bytesN {n N k : Nat} (h : k < n) : (bytesN n N).getD k 0 = UInt8.ofNat (N / 256 ^ (n - 1 - k)) := by
  rw [List.getD_eq_getElem?_getD, List.getElem?_eq_getElem (by rw [length_bytesN]; exact h), Option.getD_some]
  simp [bytesN]
set_option maxRecDepth 100000 in
theorem rBytes_w {x : Nat} (hx : x < WW) : Fn Try.prog 46 #[wo x] [] [] (fun v L => v = .agg (u8s (bytesN 32 x)).toArray ∧ L = []) := by
  have hdx := dig_w hx
  have hxp : x < 256 ^ 32 := hx
  have hbl : (bytesN 32 x).length = 32 := length_bytesN 32 x
  refine Fn.enter (vs := [wo x]) Try.func46 rfl rfl rfl ?_
  intro E R hR
  change At _ _ E [R] _
  refine At.seq fun K1 hk_1 => ?_
  refine At.region ?_
  refine op_box (nxla rfl) rfl rfl rfl (fun N1 b1 B1 => ?_)
  change Blk N1 b1 _ (u64s (wl x)) at B1
  refine op_alloc (nxla rfl) ze39 rfl (fun N2 b2 B2 => ?_)
  change Blk N2 b2 _ [.int .u8 0, .int .u8 0, .int .u8 0, .int .u8 0, .int .u8 0, .int .u8 0, .int .u8 0, .int .u8 0, .int .u8 0, .int .u8 0, .int .u8 0, .int .u8 0, .int .u8 0, .int .u8 0, .int .u8 0, .int .u8 0, .int .u8 0, .int .u8 0, .int .u8 0, .int .u8 0, .int .u8 0, .int .u8 0, .int .u8 0, .int .u8 0, .int .u8 0, .int .u8 0, .int .u8 0, .int .u8 0, .int .u8 0, .int .u8 0, .int .u8 0, .int .u8 0] at B2
  refine At.opsNil ?_
  refine At.norm (hk_1 ?_)
  refine At.seq fun K2 hk_2 => ?_
  refine At.region ?_
  refine op_alloc (nxla rfl) ze39 rfl (fun N3 b3 B3 => ?_)
  change Blk N3 b3 _ [.int .u8 0, .int .u8 0, .int .u8 0, .int .u8 0, .int .u8 0, .int .u8 0, .int .u8 0, .int .u8 0, .int .u8 0, .int .u8 0, .int .u8 0, .int .u8 0, .int .u8 0, .int .u8 0, .int .u8 0, .int .u8 0, .int .u8 0, .int .u8 0, .int .u8 0, .int .u8 0, .int .u8 0, .int .u8 0, .int .u8 0, .int .u8 0, .int .u8 0, .int .u8 0, .int .u8 0, .int .u8 0, .int .u8 0, .int .u8 0, .int .u8 0, .int .u8 0] at B3
  change Blk N3 b3 _ (u8s (List.replicate 32 0)) at B3
  rw [← bytesSt_zero 32 x] at B3
  refine At.opsNil ?_
  refine At.norm (hk_2 ?_)
  refine At.seq fun K3 hk_3 => ?_
  refine At.region ?_
  refine op_loadAggB (ds := u64s (wl x)) (nxlf rfl) ag26 rfl B1 (by first | (rw [List.drop_zero, List.take_of_length_le (by first | (simp; done) | (simp; omega))]; done) | rfl) (by first | (simp; done) | (simp; omega)) mem2 rfl ?_
  refine op_callA (nxla rfl) (.cons rfl .nil) (rN_w hx) Try.func96 rfl rfl (by simp) rfl ?_
  rintro v7 L7 ⟨M7, p7, c7, rfl, rfl, s7⟩
  change At _ _ _ [M7, N3, N2, N1, R] _
  refine op_callA (nxla rfl) (.cons rfl (.cons rfl .nil)) (rFill_f s7 (by omega) 32 (by omega) (by rw [v32_digsOf]; exact hxp)) Try.func95 rfl rfl (by simp) rfl ?_
  rintro v8 L8 ⟨M8, p8, c8, rfl, rfl, r8⟩
  change At _ _ _ [M8, M7, N3, N2, N1, R] _
  rw [v32_digsOf] at r8
  have s8 := r8.rsl
  refine op_assign (nxlf rfl) rfl rfl ?_
  refine At.opsNil ?_
  refine At.norm (hk_3 ?_)
  refine At.seq fun K4 hk_4 => ?_
  refine At.seq fun K5 hk_5 => ?_
  refine At.region ?_
  refine op_assign (nxlf rfl) rfl rfl ?_
  refine At.opsNil ?_
  refine At.norm (hk_5 ?_)
  refine At.block ?_
  refine At.sub (L' := [M8, N3, N2, R]) (.cons_cons _ (.cons _ (.cons_cons _ (.cons_cons _ (.cons _ (.cons_cons _ (.slnil))))))) ?_
  refine At.perm sel3 ?_
  refine At.perm sel1 ?_
  refine At.perm sel2 ?_
  refine At.perm sel3 ?_
  refine At.loop (fun fr_ hp_ ms_ => ∃ (k : Nat) (N3 : Heaplet), fr_ = [(2, .pointer (some ⟨b2, 0, none⟩)), (3, .pointer (some ⟨b3, 0, none⟩)), (4, .slice p8 32 c8), (5, .int .i64 (k : Int))] ∧ hp_ = [N2, N3, M8, R] ∧ 32 - k = ms_ ∧ (k ≤ 32) ∧ (Blk N3 b3 39 (u8s (bytesSt 32 x k)))) ?_ (.refl _) ⟨0, N3, rfl, rfl, rfl, by omega, B3⟩ ?_
  · exact .cons (by first | exact lkI rfl (by omega) | rfl) (.cons (by first | exact lkI rfl (by omega) | rfl) (.cons (by first | exact lkI rfl (by omega) | rfl) (.cons (by first | exact lkI rfl (by omega) | rfl) .nil)))
  rintro _ _ _ ⟨k, N3, rfl, rfl, rfl, hk, B3⟩
  have hbt := length_bytesSt (m := 32) (N := x) hk
  refine At.seq fun K6 hk_6 => ?_
  refine At.seq fun K7 hk_7 => ?_
  refine At.region ?_
  refine op_move (nxlf rfl) rfl rfl ?_
  refine op_lss (nxlf rfl) rfl rfl rfl ?_
  refine At.opsNil ?_
  refine At.norm (hk_7 ?_)
  refine At.condP rfl (fun c10 => ?_) (fun c10 => ?_)
  · refine At.skip ?_
    refine At.norm (hk_6 ?_)
    refine At.seq fun K8 hk_8 => ?_
    refine At.block ?_
    refine At.region ?_
    refine op_move (nxlf rfl) rfl rfl ?_
    refine op_move (nxlf rfl) rfl rfl ?_
    refine op_move (nxlf rfl) rfl rfl ?_
    refine op_idx1 (nxlf rfl) se27 rfl rfl (by assumption) (show _ = (((k : Nat)) : Int) from by omega) (by omega) rfl ?_
    refine op_loadE (nxlf rfl) sc5 rfl (by assumption) (by first | exact get8 (by omega) | exact get64 (by omega) | exact get32 (by omega)) (by first | exact mem0 | exact mem1 | exact mem2 | exact mem3 | exact mem4 | exact mem5 | exact mem6 | exact mem7 | exact mem8 | exact mem9) rfl ?_
    refine op_idxA (nxlf rfl) ae39 rfl rfl (show _ = (((k : Nat)) : Int) from by omega) (by omega) rfl ?_
    refine op_store (nxl rfl) sz5 rfl rfl rfl rfl rfl B3 (by simp <;> omega) sel1 (fun N3 B3 => ?_)
    rw [set8A] at B3
    refine At.opsNil ?_
    refine At.inNorm ?_
    refine At.norm (hk_8 ?_)
    refine At.region ?_
    refine op_move (nxlf rfl) rfl rfl ?_
    refine op_addI (nxlf rfl) rfl rfl (by omega) (by omega) rfl ?_
    refine op_assign (nxlf rfl) rfl rfl ?_
    refine At.opsNil ?_
    refine At.norm ?_
    refine At.perm sel3 ?_
    refine At.perm sel3 ?_
    refine At.perm sel2 ?_
    refine At.perm sel3 ?_
    refine At.back ?_ (.refl _) ⟨k + 1, N3, rfl, rfl, rfl, by omega, by rw [bytesSt_succ (by omega), ← getD_bytesN (by omega)]; exact B3⟩ ?_
    · exact .cons (by first | exact lkI rfl (by omega) | rfl) (.cons (by first | exact lkI rfl (by omega) | rfl) (.cons (by first | exact lkI rfl (by omega) | rfl) (.cons (by first | exact lkI rfl (by omega) | rfl) .nil)))
    · omega
  · refine At.exit (At.thenExit (At.thenExit (At.inHit ?_)))
    refine At.norm (hk_4 ?_)
    refine At.seq fun K9 hk_9 => ?_
    refine At.region ?_
    have hk32 : k = 32 := by omega
    rw [hk32, bytesSt_all] at B3
    refine op_loadAggB (ds := u8s (bytesN 32 x)) (nxlf rfl) ag39 rfl B3 (by first | (rw [List.drop_zero, List.take_of_length_le (by first | (simp; done) | (simp; omega))]; done) | rfl) (by first | (simp; done) | (simp; omega)) mem1 rfl ?_
    refine op_store (nxl rfl) sz39 rfl rfl rfl rfl rfl B2 (by simp) sel0 (fun N2 B2 => ?_)
    rw [setL_whole (by simp)] at B2
    refine At.opsNil ?_
    refine At.norm (hk_9 ?_)
    refine At.ret (?_)
    refine At.sub (L' := [N2, R]) (.cons_cons _ (.cons _ (.cons _ (.cons_cons _ (.slnil))))) ?_
    refine At.ret1 (L1 := []) rfl (.cell rfl (res_agg (ds := u8s (bytesN 32 x)) ag39 B2 (by first | (rw [List.drop_zero, List.take_of_length_le (by first | (simp; done) | (simp; omega))]; done) | rfl) (by first | (simp; done) | (simp; omega)) mem0) .nil) (.cons _ (.refl _)) (.refl _) ?_
    exact ⟨rfl, rfl⟩
end Go.Proofs.Ytljacjjeinmfnaa
/- Layer 14: items of texts, numbers, lists and their forms; the last bytes of a hash. No condition. -/
namespace Go.Proofs.Ytljacjjeinmfnaa
set_option linter.unusedVariables false
set_option linter.unusedSimpArgs false
open Go Go.RowKit
set_option maxRecDepth 100000
theorem Fn.overJ {P : Program} {f : FuncId} {args : Array Value} {Ns : List Heaplet} {Post : Value → List Heaplet → Prop} (h : ∀ J, (∀ N ∈ Ns, N.le J) → Fn P f args [] [J] Post) : Fn P f args [] Ns Post :=
  fun E w R hw hr => h R hr E w R hw fun N hN => by rw [List.mem_singleton.1 hN]; exact Heaplet.le_refl _
theorem Fn.liftB {P : Program} {f : FuncId} {args : Array Value} {L0 : List Heaplet} {N R : Heaplet} {Post : Value → List Heaplet → Prop} (h : Fn P f args L0 [N] Post) (hl : N.le R) : Fn P f args L0 [R] Post := fun E w F hp hr =>
  h E w F hp fun M hM => by rw [List.mem_singleton.1 hM]; exact Heaplet.le_trans hl (hr R (by simp))
theorem all8x2 (l : List UInt8) : (u8s l).all (·.oneCell') = true := List.all_eq_true.2 (one_u8s l)
def itS (b : List UInt8) : It := .mk false b []
def itL (l : List It) : It := .mk true [] l
/-- The cells of an item of bytes, of a list. -/
def ivS (a : Option Addr) (n c : Nat) : IV := ⟨false, a, n, c, none, 0, 0⟩
def ivL (a : Option Addr) (n c : Nat) : IV := ⟨true, none, 0, 0, a, n, c⟩
section
variable {J N : Heaplet} {a : Option Addr} {n c : Nat}
theorem ItN_S {b : List UInt8} (h : RSl J 1 a n c (u8s b)) : ItN J (itS b) (ivS a n c) := by
  simp only [itS, ItN]
  exact ⟨rfl, h, [], RSl.nil J 3, rfl⟩
theorem ItN_L {its : List It} {xs : List IV} (h : RSl J 3 a n c (cellsI xs)) (hx : ItsN J its xs) : ItN J (itL its) (ivL a n c) := by
  simp only [itL, ItN]
  exact ⟨rfl, RSl.nil J 1, xs, h, hx⟩
theorem ItsN_nil : ItsN J [] [] := rfl
theorem ItsN_cons {t : It} {ts : List It} {x : IV} {xs : List IV} (h : ItN J t x) (k : ItsN J ts xs) : ItsN J (t :: ts) (x :: xs) := ⟨x, xs, rfl, h, k⟩
theorem FText_b : Fn Try.prog 37 #[.slice a n c] [] [] (fun v L => v = .agg #[.bool false, .slice a n c, .slice none 0 0] ∧ L = []) := by
  refine Fn.enter (vs := [.slice a n c]) Try.func37 rfl rfl rfl ?_
  intro E R hR
  change At _ _ E [R] _
  refine At.seq fun K1 hk_1 => ?_
  refine At.region ?_
  refine op_alloc (nxla rfl) ze92 rfl (fun N2 b2 B2 => ?_)
  change Blk N2 b2 _ [.bool false, .slice none 0 0, .slice none 0 0] at B2
  refine At.opsNil ?_
  refine At.norm (hk_1 ?_)
  refine At.seq fun K2 hk_2 => ?_
  refine At.region ?_
  refine op_move (nxlf rfl) rfl rfl ?_
  refine op_build (out := [.bool false, _, .slice none 0 0]) (nxlf rfl) ze92 pl92 (.cons rfl .nil) rfl rfl ?_
  refine op_store (nxl rfl) sz92 rfl rfl rfl rfl rfl B2 (by simp) sel0 (fun N2 B2 => ?_)
  simp only [setL, List.set] at B2
  refine At.opsNil ?_
  refine At.norm (hk_2 ?_)
  refine At.ret (?_)
  refine At.ret1 (L1 := []) rfl (.cell rfl (res_agg (ds := [_, _, _]) ag92 B2 rfl rfl mem0) .nil) (.cons _ (.refl _)) (.refl _) ?_
  exact ⟨rfl, rfl⟩
theorem FList_b : Fn Try.prog 36 #[.slice a n c] [] [] (fun v L => v = .agg #[.bool true, .slice none 0 0, .slice a n c] ∧ L = []) := by
  refine Fn.enter (vs := [.slice a n c]) Try.func36 rfl rfl rfl ?_
  intro E R hR
  change At _ _ E [R] _
  refine At.seq fun K1 hk_1 => ?_
  refine At.region ?_
  refine op_alloc (nxla rfl) ze92 rfl (fun N2 b2 B2 => ?_)
  change Blk N2 b2 _ [.bool false, .slice none 0 0, .slice none 0 0] at B2
  refine At.opsNil ?_
  refine At.norm (hk_1 ?_)
  refine At.seq fun K2 hk_2 => ?_
  refine At.region ?_
  refine op_move (nxlf rfl) rfl rfl ?_
  refine op_build (out := [_, .slice none 0 0, _]) (nxlf rfl) ze92 pl92 (.cons rfl (.cons rfl .nil)) rfl rfl ?_
  refine op_store (nxl rfl) sz92 rfl rfl rfl rfl rfl B2 (by simp) sel0 (fun N2 B2 => ?_)
  simp only [setL, List.set] at B2
  refine At.opsNil ?_
  refine At.norm (hk_2 ?_)
  refine At.ret (?_)
  refine At.ret1 (L1 := []) rfl (.cell rfl (res_agg (ds := [_, _, _]) ag92 B2 rfl rfl mem0) .nil) (.cons _ (.refl _)) (.refl _) ?_
  exact ⟨rfl, rfl⟩
theorem rList_b : Fn Try.prog 41 #[.slice a n c] [] [] (fun v L => v = .agg #[.bool true, .slice none 0 0, .slice a n c] ∧ L = []) := by
  refine Fn.enter (vs := [.slice a n c]) Try.func41 rfl rfl rfl ?_
  intro E R hR
  change At _ _ E [R] _
  refine At.seq fun K1 hk_1 => ?_
  refine At.region ?_
  refine op_alloc (nxla rfl) ze92 rfl (fun N2 b2 B2 => ?_)
  change Blk N2 b2 _ [.bool false, .slice none 0 0, .slice none 0 0] at B2
  refine At.opsNil ?_
  refine At.norm (hk_1 ?_)
  refine At.seq fun K2 hk_2 => ?_
  refine At.region ?_
  refine op_move (nxlf rfl) rfl rfl ?_
  refine op_build (out := [_, .slice none 0 0, _]) (nxlf rfl) ze92 pl92 (.cons rfl (.cons rfl .nil)) rfl rfl ?_
  refine op_store (nxl rfl) sz92 rfl rfl rfl rfl rfl B2 (by simp) sel0 (fun N2 B2 => ?_)
  simp only [setL, List.set] at B2
  refine At.opsNil ?_
  refine At.norm (hk_2 ?_)
  refine At.ret (?_)
  refine At.ret1 (L1 := []) rfl (.cell rfl (res_agg (ds := [_, _, _]) ag92 B2 rfl rfl mem0) .nil) (.cons _ (.refl _)) (.refl _) ?_
  exact ⟨rfl, rfl⟩
/-- An item of a number, in new memory. -/
def NumI (x : Nat) (v : Value) (L : List Heaplet) : Prop := ∃ M p k, v = .agg #[.bool false, .slice p (bytesOf x).length k, .slice none 0 0] ∧ L = [M] ∧ RSl M 1 p (bytesOf x).length k (u8s (bytesOf x))
theorem FOf_b {x : Nat} (hx : x < WW) : Fn Try.prog 59 #[wo x] [] [] (NumI x) := by
  obtain ⟨a, b, c, d, e, hv⟩ := wo_four hx
  have := Of_f a b c d
  rw [← e] at this
  refine this.mono fun v L h => ?_
  unfold OfP at h
  rw [hv] at h
  obtain ⟨M, p, k, h1, h2, h3⟩ := h
  exact ⟨M, p, k, h1, h2, h3.rsl⟩
theorem rOf_b {x : Nat} (hx : x < WW) : Fn Try.prog 90 #[wo x] [] [] (NumI x) := by
  obtain ⟨a, b, c, d, e, hv⟩ := wo_four hx
  have := rOf_f a b c d
  rw [← e] at this
  refine this.mono fun v L h => ?_
  unfold OfP at h
  rw [hv] at h
  obtain ⟨M, p, k, h1, h2, h3⟩ := h
  exact ⟨M, p, k, h1, h2, h3.rsl⟩
theorem u64_ww (u : UInt64) : u.toNat < WW := Nat.lt_of_lt_of_le u.toNat_lt (by decide)
theorem FNumber_b (u : UInt64) : Fn Try.prog 38 #[.int .u64 (u.toNat : Int)] [] [] (NumI u.toNat) := by
  refine Fn.enter (vs := [.int .u64 (u.toNat : Int)]) Try.func38 rfl rfl rfl ?_
  intro E R hR
  change At _ _ E [R] _
  refine At.seq fun K1 hk_1 => ?_
  refine At.region ?_
  refine op_alloc (nxla rfl) ze92 rfl (fun N2 b2 B2 => ?_)
  change Blk N2 b2 _ [.bool false, .slice none 0 0, .slice none 0 0] at B2
  refine At.opsNil ?_
  refine At.norm (hk_1 ?_)
  refine At.seq fun K2 hk_2 => ?_
  refine At.region ?_
  refine op_move (nxlf rfl) rfl rfl ?_
  refine op_callA (nxla rfl) (.cons rfl .nil) (WOf_f u) Try.func87 rfl rfl (by simp) rfl ?_
  rintro v4 L4 ⟨rfl, rfl⟩
  change At _ _ _ [N2, R] _
  refine op_callA (nxla rfl) (.cons rfl .nil) (FOf_b (u64_ww u)) Try.func59 rfl rfl (by simp) rfl ?_
  rintro v5 L5 ⟨M5, p5, k5, rfl, rfl, s5⟩
  change At _ _ _ [M5, N2, R] _
  refine op_store (nxl rfl) sz92 rfl rfl rfl rfl rfl B2 (by simp) sel1 (fun N2 B2 => ?_)
  simp only [setL, List.set] at B2
  refine At.opsNil ?_
  refine At.norm (hk_2 ?_)
  refine At.ret (?_)
  refine At.ret1 (L1 := [M5]) rfl (.cell rfl (res_agg (ds := [_, _, _]) ag92 B2 rfl rfl mem0) .nil) (.cons _ (.refl _)) (.refl _) ?_
  exact ⟨M5, p5, k5, rfl, rfl, s5⟩
theorem rNum_b (u : UInt64) : Fn Try.prog 43 #[.int .u64 (u.toNat : Int)] [] [] (NumI u.toNat) := by
  refine Fn.enter (vs := [.int .u64 (u.toNat : Int)]) Try.func43 rfl rfl rfl ?_
  intro E R hR
  change At _ _ E [R] _
  refine At.seq fun K1 hk_1 => ?_
  refine At.region ?_
  refine op_alloc (nxla rfl) ze92 rfl (fun N2 b2 B2 => ?_)
  change Blk N2 b2 _ [.bool false, .slice none 0 0, .slice none 0 0] at B2
  refine At.opsNil ?_
  refine At.norm (hk_1 ?_)
  refine At.seq fun K2 hk_2 => ?_
  refine At.region ?_
  refine op_move (nxlf rfl) rfl rfl ?_
  refine op_callA (nxla rfl) (.cons rfl .nil) (rOf_w u) Try.func91 rfl rfl (by simp) rfl ?_
  rintro v4 L4 ⟨rfl, rfl⟩
  change At _ _ _ [N2, R] _
  refine op_callA (nxla rfl) (.cons rfl .nil) (rOf_b (u64_ww u)) Try.func90 rfl rfl (by simp) rfl ?_
  rintro v5 L5 ⟨M5, p5, k5, rfl, rfl, s5⟩
  change At _ _ _ [M5, N2, R] _
  refine op_store (nxl rfl) sz92 rfl rfl rfl rfl rfl B2 (by simp) sel1 (fun N2 B2 => ?_)
  simp only [setL, List.set] at B2
  refine At.opsNil ?_
  refine At.norm (hk_2 ?_)
  refine At.ret (?_)
  refine At.ret1 (L1 := [M5]) rfl (.cell rfl (res_agg (ds := [_, _, _]) ag92 B2 rfl rfl mem0) .nil) (.cons _ (.refl _)) (.refl _) ?_
  exact ⟨M5, p5, k5, rfl, rfl, s5⟩
/-- An item of bytes that are copied. -/
def StrI (b : List UInt8) (v : Value) (L : List Heaplet) : Prop := ∃ M p k, v = .agg #[.bool false, .slice p b.length k, .slice none 0 0] ∧ L = [M] ∧ RSl M 1 p b.length k (u8s b)
theorem rStr_b {b : List UInt8} (h : RSl N 1 a n c (u8s b)) (hn : n ≤ 1099511627776) : Fn Try.prog 89 #[.slice a n c] [] [N] (StrI b) := by
  have hlen := h.len8
  refine Fn.enter (vs := [.slice a n c]) Try.func89 rfl rfl rfl ?_
  intro E R hR
  have h := h.le (hR N (by simp))
  change At _ _ E [R] _
  refine At.seq fun K1 hk_1 => ?_
  refine At.region ?_
  refine op_alloc (nxla rfl) ze92 rfl (fun N2 b2 B2 => ?_)
  change Blk N2 b2 _ [.bool false, .slice none 0 0, .slice none 0 0] at B2
  refine At.opsNil ?_
  refine At.norm (hk_1 ?_)
  refine At.seq fun K2 hk_2 => ?_
  refine At.region ?_
  refine op_lit (nxla rfl) Try.underlying27 ze5 sz5 .nil rfl rfl (by simp [Value.cells]) rfl rfl rfl (fun N3 a3 r3 => ?_)
  simp only [flatV, List.flatMap_cons, List.flatMap_nil, Value.cells, List.append_nil, List.cons_append, List.nil_append] at r3
  have s3 := r3.rsl
  refine op_move (nxlf rfl) rfl rfl ?_
  refine op_append (nxl rfl) Try.underlying27 Try.underlying27 te5 rfl rfl r3 h (by first | exact mem0 | exact mem1 | exact mem2 | exact mem3 | exact mem4 | exact mem5 | exact mem6 | exact mem7 | exact mem8 | exact mem9) (by first | exact one_u8s _ | exact one_u64s _ | exact one_u32s _ | (intro u hu; simp at hu; subst hu; rfl)) (by omega) (by omega) sel0 rfl (fun N5 a5 p5 r5 => ?_)
  have s5 := r5.rsl
  rw [Nat.zero_add] at s5
  refine op_build (out := [.bool false, _, .slice none 0 0]) (nxlf rfl) ze92 pl92 (.cons rfl .nil) rfl rfl ?_
  refine op_store (nxl rfl) sz92 rfl rfl rfl rfl rfl B2 (by simp) sel1 (fun N2 B2 => ?_)
  simp only [setL, List.set] at B2
  refine At.opsNil ?_
  refine At.norm (hk_2 ?_)
  refine At.ret (?_)
  refine At.ret1 (L1 := [N5]) rfl (.cell rfl (res_agg (ds := [_, _, _]) ag92 B2 rfl rfl mem0) .nil) (.cons _ (.refl _)) (.refl _) ?_
  exact ⟨N5, a5, p5, by rw [hlen, Nat.zero_add], rfl, by rw [hlen]; exact s5⟩
theorem rBytes_b {b : List UInt8} (h : RSl N 1 a n c (u8s b)) (hn : n ≤ 1099511627776) : Fn Try.prog 42 #[.slice a n c] [] [N] (StrI b) := by
  refine Fn.enter (vs := [.slice a n c]) Try.func42 rfl rfl rfl ?_
  intro E R hR
  have h := h.le (hR N (by simp))
  change At _ _ E [R] _
  refine At.seq fun K1 hk_1 => ?_
  refine At.region ?_
  refine op_alloc (nxla rfl) ze92 rfl (fun N2 b2 B2 => ?_)
  change Blk N2 b2 _ [.bool false, .slice none 0 0, .slice none 0 0] at B2
  refine At.opsNil ?_
  refine At.norm (hk_1 ?_)
  refine At.seq fun K2 hk_2 => ?_
  refine At.region ?_
  refine op_move (nxlf rfl) rfl rfl ?_
  refine op_callA (nxla rfl) (.cons rfl .nil) (rStr_b h hn) Try.func89 rfl rfl (by simp) rfl ?_
  rintro v4 L4 ⟨M4, p4, k4, rfl, rfl, s4⟩
  change At _ _ _ [M4, N2, R] _
  refine op_store (nxl rfl) sz92 rfl rfl rfl rfl rfl B2 (by simp) sel1 (fun N2 B2 => ?_)
  simp only [setL, List.set] at B2
  refine At.opsNil ?_
  refine At.norm (hk_2 ?_)
  refine At.ret (?_)
  refine At.ret1 (L1 := [M4]) rfl (.cell rfl (res_agg (ds := [_, _, _]) ag92 B2 rfl rfl mem0) .nil) (.cons _ (.refl _)) (.refl _) ?_
  exact ⟨M4, p4, k4, rfl, rfl, s4⟩
/-- The form, in new memory. -/
def FormP (t : It) (v : Value) (L : List Heaplet) : Prop := ∃ M p k, v = .slice p t.form.length k ∧ L = [M] ∧ Row M 5 1 p t.form.length k (u8s t.form)
def IV.val (x : IV) : Value := .agg #[.bool x.l, .slice x.ab x.nb x.cb, .slice x.ai x.ni x.ci]
theorem FForm_b {t : It} {x : IV} (h : ItN N t x) (hlen : t.form.length ≤ 1099511627776) (hd : t.depth ≤ 1024) : Fn Try.prog 35 #[.agg #[.bool x.l, .slice x.ab x.nb x.cb, .slice x.ai x.ni x.ci]] [] [N] (FormP t) := by
  have hE : Fn Try.prog 86 #[.agg #[.bool x.l, .slice x.ab x.nb x.cb, .slice x.ai x.ni x.ci]] [] [N] (fun v L => ∃ M p k, v = .tuple #[.slice p t.form.length k, .int .i64 0] ∧ L = [M] ∧ Row M 5 1 p t.form.length k (u8s t.form)) :=
    (Encode_f h hlen).mono fun v L hp => by
      rcases hp with ⟨M, p, k, h1, h2, h3, _⟩ | ⟨_, _, h3⟩
      · exact ⟨M, p, k, h1, h2, h3⟩
      · omega
  refine Fn.enter (vs := [.agg #[.bool x.l, .slice x.ab x.nb x.cb, .slice x.ai x.ni x.ci]]) Try.func35 rfl rfl rfl ?_
  intro E R hR
  have hE := hE.liftB (hR N (by simp))
  change At _ _ E [R] _
  refine At.seq fun K1 hk_1 => ?_
  refine At.region ?_
  refine op_box (nxla rfl) rfl rfl rfl (fun N1 b1 B1 => ?_)
  refine op_assign (nxlf rfl) rfl rfl ?_
  refine At.opsNil ?_
  refine At.norm (hk_1 ?_)
  refine At.seq fun K2 hk_2 => ?_
  refine At.region ?_
  refine op_loadAggB (ds := [_, _, _]) (nxlf rfl) ag92 rfl B1 rfl rfl mem0 rfl ?_
  refine op_callA (nxla rfl) (.cons rfl .nil) (hE) Try.func86 rfl rfl (by simp) rfl ?_
  rintro v7 L7 ⟨M7, p7, k7, rfl, rfl, r7⟩
  change At _ _ _ [M7, N1, R] _
  refine op_move (nxlf rfl) rfl rfl ?_
  refine op_extract (nxlf rfl) rfl rfl rfl ?_
  refine op_extract (nxlf rfl) rfl rfl rfl ?_
  refine op_assign (nxlf rfl) rfl rfl ?_
  refine op_assign (nxlf rfl) rfl rfl ?_
  refine At.opsNil ?_
  refine At.norm (hk_2 ?_)
  refine At.seq fun K3 hk_3 => ?_
  refine At.region ?_
  refine op_move (nxlf rfl) rfl rfl ?_
  refine op_assign (nxlf rfl) rfl rfl ?_
  refine At.opsNil ?_
  refine At.norm (hk_3 ?_)
  refine At.ret (?_)
  refine At.sub (L' := [M7, R]) (.cons_cons _ (.cons _ (.cons_cons _ (.slnil)))) ?_
  refine At.ret1 (L1 := [M7]) rfl (.tmp rfl .nil) (.refl _) (.refl _) ?_
  exact ⟨M7, p7, k7, rfl, rfl, r7⟩
theorem rForm_b {t : It} {x : IV} (h : ItN N t x) (hlen : t.form.length ≤ 1099511627776) : Fn Try.prog 40 #[.agg #[.bool x.l, .slice x.ab x.nb x.cb, .slice x.ai x.ni x.ci]] [] [N] (FormP t) := by
  have hE := form_f t N x h hlen
  refine Fn.enter (vs := [.agg #[.bool x.l, .slice x.ab x.nb x.cb, .slice x.ai x.ni x.ci]]) Try.func40 rfl rfl rfl ?_
  intro E R hR
  have hE := hE.liftB (hR N (by simp))
  change At _ _ E [R] _
  refine At.seq fun K1 hk_1 => ?_
  refine At.region ?_
  refine op_box (nxla rfl) rfl rfl rfl (fun N1 b1 B1 => ?_)
  refine op_assign (nxlf rfl) rfl rfl ?_
  refine At.opsNil ?_
  refine At.norm (hk_1 ?_)
  refine At.seq fun K2 hk_2 => ?_
  refine At.region ?_
  refine op_loadAggB (ds := [_, _, _]) (nxlf rfl) ag92 rfl B1 rfl rfl mem0 rfl ?_
  refine op_callA (nxla rfl) (.cons rfl .nil) (hE) Try.func88 rfl rfl (by simp) rfl ?_
  rintro v4 L4 ⟨M4, p4, k4, rfl, rfl, r4⟩
  change At _ _ _ [M4, N1, R] _
  refine op_assign (nxlf rfl) rfl rfl ?_
  refine At.opsNil ?_
  refine At.norm (hk_2 ?_)
  refine At.ret (?_)
  refine At.sub (L' := [M4, R]) (.cons_cons _ (.cons _ (.cons_cons _ (.slnil)))) ?_
  refine At.ret1 (L1 := [M4]) rfl (.tmp rfl .nil) (.refl _) (.refl _) ?_
  exact ⟨M4, p4, k4, rfl, rfl, r4⟩
/-- The address that a hash ends with. -/
def lastA (l : List UInt8) : List UInt8 := (kec l).drop 12
theorem lastA_len (l : List UInt8) : (lastA l).length = 20 := by rw [lastA, List.length_drop, kec_len]
theorem u8s_part {l m : List UInt8} {o k : Nat} (h : (l.drop o).take k = m) : ((u8s l).drop o).take k = u8s m := by rw [← h, u8s, u8s, List.map_take, List.map_drop]
theorem FLast_b {l : List UInt8} (h : RSl N 1 a n c (u8s l)) (hn : n ≤ 1099511627776) : Fn Try.prog 34 #[.slice a n c] [] [N] (fun v L => v = .agg (u8s (lastA l)).toArray ∧ L = []) := by
  have hk := kec_len l
  have hll := lastA_len l
  refine Fn.enter (vs := [.slice a n c]) Try.func34 rfl rfl rfl ?_
  intro E R hR
  have h := h.le (hR N (by simp))
  change At _ _ E [R] _
  refine At.seq fun K1 hk_1 => ?_
  refine At.region ?_
  refine op_alloc (nxla rfl) ze23 rfl (fun N2 b2 B2 => ?_)
  change Blk N2 b2 _ [.int .u8 0, .int .u8 0, .int .u8 0, .int .u8 0, .int .u8 0, .int .u8 0, .int .u8 0, .int .u8 0, .int .u8 0, .int .u8 0, .int .u8 0, .int .u8 0, .int .u8 0, .int .u8 0, .int .u8 0, .int .u8 0, .int .u8 0, .int .u8 0, .int .u8 0, .int .u8 0] at B2
  refine At.opsNil ?_
  refine At.norm (hk_1 ?_)
  refine At.seq fun K2 hk_2 => ?_
  refine At.region ?_
  refine op_move (nxlf rfl) rfl rfl ?_
  refine op_callA (nxla rfl) (.cons rfl .nil) (FKeccak_f h hn) Try.func45 rfl rfl (by simp) rfl ?_
  rintro v5 L5 ⟨rfl, rfl⟩
  change At _ _ _ [N2, R] _
  refine op_alloc (nxla rfl) ze39 rfl (fun N3 b3 B3 => ?_)
  change Blk N3 b3 _ [.int .u8 0, .int .u8 0, .int .u8 0, .int .u8 0, .int .u8 0, .int .u8 0, .int .u8 0, .int .u8 0, .int .u8 0, .int .u8 0, .int .u8 0, .int .u8 0, .int .u8 0, .int .u8 0, .int .u8 0, .int .u8 0, .int .u8 0, .int .u8 0, .int .u8 0, .int .u8 0, .int .u8 0, .int .u8 0, .int .u8 0, .int .u8 0, .int .u8 0, .int .u8 0, .int .u8 0, .int .u8 0, .int .u8 0, .int .u8 0, .int .u8 0, .int .u8 0] at B3
  refine op_store (nxl rfl) sz39 rfl rfl rfl (by simp [u8s, hk]) (all8x2 _) B3 (by simp [u8s, hk]) sel0 (fun N3 B3 => ?_)
  rw [setL_whole (by simp [u8s, hk])] at B3
  refine At.opsNil ?_
  refine At.norm (hk_2 ?_)
  refine At.seq fun K3 hk_3 => ?_
  refine At.region ?_
  refine op_sliceA (nxlf rfl) ae39 rfl (.some rfl (show _ = (((12 : Nat)) : Int) from by omega)) .none .none (by omega) (by omega) (by omega) (by simp) rfl ?_
  rw [if_neg (by decide)]
  refine op_toArr (nxlf rfl) ae23 rfl (by omega) rfl ?_
  refine op_loadAggB (ds := u8s (lastA l)) (nxlf rfl) ag23 rfl B3 (by exact u8s_part (by rw [lastA, List.take_of_length_le (by rw [List.length_drop]; omega)])) (by simp [u8s, hll]) mem0 rfl ?_
  refine op_store (nxl rfl) sz23 rfl rfl rfl (by simp [u8s, hll]) (all8x2 _) B2 (by simp [u8s, hll]) sel1 (fun N2 B2 => ?_)
  rw [setL_whole (by simp [u8s, hll])] at B2
  refine At.opsNil ?_
  refine At.norm (hk_3 ?_)
  refine At.ret (?_)
  refine At.sub (L' := [N2, R]) (.cons_cons _ (.cons _ (.cons_cons _ (.slnil)))) ?_
  refine At.ret1 (L1 := []) rfl (.cell rfl (res_agg (ds := u8s (lastA l)) ag23 B2 (tk_all (by simp [u8s, hll])) (by simp [u8s, hll]) mem0) .nil) (.cons _ (.refl _)) (.refl _) ?_
  exact ⟨rfl, rfl⟩
end
end Go.Proofs.Ytljacjjeinmfnaa
/- Layer 14: the addresses of contracts, in the program and in the reference. No condition. -/
namespace Go.Proofs.Ytljacjjeinmfnaa
set_option linter.unusedVariables false
set_option linter.unusedSimpArgs false
open Go Go.RowKit
set_option maxRecDepth 100000
theorem formS_len (b : List UInt8) (h : b.length ≤ 4294967296) : (itS b).form.length ≤ b.length + 9 := by
  have := rlpHead_le 128 b.length (Nat.lt_of_le_of_lt h (by decide))
  rw [itS, form_false]
  split
  · omega
  · rw [List.length_append]; omega
theorem formL_len (l : List It) (h : (It.forms l).length ≤ 4294967296) : (itL l).form.length ≤ (It.forms l).length + 9 := by
  have := rlpHead_le 192 (It.forms l).length (Nat.lt_of_le_of_lt h (by decide))
  rw [itL, form_true, List.length_append]; omega
theorem forms_nil : It.forms [] = [] := by simp [It.forms]
theorem forms_cons (t : It) (l : List It) : It.forms (t :: l) = t.form ++ It.forms l := by simp [It.forms]
theorem depthS (b : List UInt8) : (itS b).depth = 0 := by simp [itS, It.depth]
theorem depthL (l : List It) : (itL l).depth = It.depths l + 1 := by simp [itL, It.depth]
theorem depths_nil : It.depths [] = 0 := by simp [It.depths]
theorem depths_cons (t : It) (l : List It) : It.depths (t :: l) = max t.depth (It.depths l) := by simp [It.depths]
theorem bytes8 (n : UInt64) : (bytesOf n.toNat).length ≤ 8 := byteLen8 n.toNat_lt
def mkT (a : List UInt8) (n : Nat) : It := itL [itS a, itS (bytesOf n)]
theorem mkT_len {a : List UInt8} (ha : a.length = 20) (n : UInt64) : (mkT a n.toNat).form.length ≤ 100 := by
  have h1 := formS_len a (by omega)
  have h2 := formS_len (bytesOf n.toNat) (by have := bytes8 n; omega)
  have h3 := bytes8 n
  have h4 : (It.forms [itS a, itS (bytesOf n.toNat)]).length ≤ 60 := by
    rw [forms_cons, forms_cons, forms_nil, List.length_append, List.length_append, List.length_nil]; omega
  have := formL_len [itS a, itS (bytesOf n.toNat)] (by omega)
  unfold mkT; omega
theorem mkT_dep (a : List UInt8) (n : Nat) : (mkT a n).depth ≤ 1024 := by
  rw [mkT, depthL, depths_cons, depths_cons, depths_nil, depthS, depthS]; decide
/-- A contract's address by its maker's nonce; by a salt. -/
def madeA (a : List UInt8) (n : Nat) : List UInt8 := lastA (mkT a n).form
def saltA (a : List UInt8) (x : Nat) (code : List UInt8) : List UInt8 := lastA (255 :: (a ++ bytesN 32 x ++ kec code))
section
variable {N : Heaplet} {ao : Option Addr} {n cap : Nat} {a l : List UInt8}
theorem FMade_b (ha : a.length = 20) (n : UInt64) : Fn Try.prog 9 #[.agg (u8s a).toArray, .int .u64 (n.toNat : Int)] [] [] (fun v L => v = .agg (u8s (madeA a n.toNat)).toArray ∧ L = []) := by
  have hm := mkT_len ha n
  have hd := mkT_dep a n.toNat
  have hll := lastA_len (mkT a n.toNat).form
  refine Fn.enter (vs := [.agg (u8s a).toArray, .int .u64 (n.toNat : Int)]) Try.func9 rfl rfl rfl ?_
  intro E R hR
  change At _ _ E [R] _
  refine At.seq fun K1 hk_1 => ?_
  refine At.region ?_
  refine op_box (nxla rfl) rfl rfl rfl (fun N2 b2 B2 => ?_)
  have s2 := blk8 B2 ha (by decide)
  refine op_alloc (nxla rfl) ze23 rfl (fun N4 b4 B4 => ?_)
  change Blk N4 b4 _ [.int .u8 0, .int .u8 0, .int .u8 0, .int .u8 0, .int .u8 0, .int .u8 0, .int .u8 0, .int .u8 0, .int .u8 0, .int .u8 0, .int .u8 0, .int .u8 0, .int .u8 0, .int .u8 0, .int .u8 0, .int .u8 0, .int .u8 0, .int .u8 0, .int .u8 0, .int .u8 0] at B4
  refine At.opsNil ?_
  refine At.norm (hk_1 ?_)
  refine At.seq fun K2 hk_2 => ?_
  refine At.region ?_
  refine op_sliceA (nxlf rfl) ae23 rfl .none .none .none (by omega) (by omega) (by omega) (by simp) rfl ?_
  refine op_callA (nxla rfl) (.cons rfl .nil) (FText_b) Try.func37 rfl rfl (by simp) rfl ?_
  rintro v6 L6 ⟨rfl, rfl⟩
  change At _ _ _ [N4, N2, R] _
  refine op_move (nxlf rfl) rfl rfl ?_
  refine op_callA (nxla rfl) (.cons rfl .nil) (FNumber_b n) Try.func38 rfl rfl (by simp) rfl ?_
  rintro v8 L8 ⟨M8, p8, k8, rfl, rfl, s8⟩
  change At _ _ _ [M8, N4, N2, R] _
  refine op_lit (nxla rfl) Try.underlying90 ze92 sz92 (.cons rfl (.cons rfl .nil)) rfl rfl (by simp [Value.cells]) rfl rfl rfl (fun N9 a9 r9 => ?_)
  simp only [flatV, List.flatMap_cons, List.flatMap_nil, Value.cells, List.append_nil, List.cons_append, List.nil_append] at r9
  have s9 := r9.rsl
  refine op_callA (nxla rfl) (.cons rfl .nil) (FList_b) Try.func36 rfl rfl (by simp) rfl ?_
  rintro v10 L10 ⟨rfl, rfl⟩
  change At _ _ _ [N9, M8, N4, N2, R] _
  refine op_callA (nxla rfl) (.cons rfl .nil) (Fn.overJ (Ns := [N9, M8, N2]) fun J hJ => FForm_b (t := mkT a n.toNat) (x := ivL a9 2 2) (ItN_L (xs := [ivS _ _ _, ivS _ _ _]) (s9.le (hJ _ (by simp))) (ItsN_cons (ItN_S (s2.le (hJ _ (by simp)))) (ItsN_cons (ItN_S (s8.le (hJ _ (by simp)))) ItsN_nil))) (by omega) hd) Try.func35 rfl rfl (by simp) rfl ?_
  rintro v11 L11 ⟨N11, a11, k11, rfl, rfl, r11⟩
  change At _ _ _ [N11, N9, M8, N4, N2, R] _
  refine op_callA (nxla rfl) (.cons rfl .nil) (FLast_b r11.rsl (by omega)) Try.func34 rfl rfl (by simp) rfl ?_
  rintro v12 L12 ⟨rfl, rfl⟩
  change At _ _ _ [N11, N9, M8, N4, N2, R] _
  refine op_store (nxl rfl) sz23 rfl rfl rfl (by simp [u8s, hll]) (all8x2 _) B4 (by simp [u8s, hll]) sel3 (fun N4 B4 => ?_)
  rw [setL_whole (by simp [u8s, hll])] at B4
  refine At.opsNil ?_
  refine At.norm (hk_2 ?_)
  refine At.ret (?_)
  refine At.sub (L' := [N4, R]) (.cons_cons _ (.cons _ (.cons _ (.cons _ (.cons _ (.cons_cons _ (.slnil))))))) ?_
  refine At.ret1 (L1 := []) rfl (.cell rfl (res_agg (ds := u8s (madeA a n.toNat)) ag23 B4 (tk_all (by simp [u8s, madeA, hll])) (by simp [u8s, madeA, hll]) mem0) .nil) (.cons _ (.refl _)) (.refl _) ?_
  exact ⟨rfl, rfl⟩
theorem u8s_app (a b : List UInt8) : u8s (a ++ b) = u8s a ++ u8s b := by simp [u8s]
theorem FSalted_b (ha : a.length = 20) {x : Nat} (hx : x < WW) (h : RSl N 1 ao n cap (u8s l)) (hn : n ≤ 1099511627776) : Fn Try.prog 11 #[.agg (u8s a).toArray, wo x, .slice ao n cap] [] [N] (fun v L => v = .agg (u8s (saltA a x l)).toArray ∧ L = []) := by
  have hbl : (bytesN 32 x).length = 32 := length_bytesN 32 x
  have hkl := kec_len l
  have hll : (saltA a x l).length = 20 := lastA_len _
  refine Fn.enter (vs := [.agg (u8s a).toArray, wo x, .slice ao n cap]) Try.func11 rfl rfl rfl ?_
  intro E R hR
  have h := h.le (hR N (by simp))
  change At _ _ E [R] _
  refine At.seq fun K1 hk_1 => ?_
  refine At.region ?_
  refine op_box (nxla rfl) rfl rfl rfl (fun N3 b3 B3 => ?_)
  have s3 := blk8 B3 ha (by decide)
  refine op_box (nxla rfl) rfl rfl rfl (fun N4 b4 B4 => ?_)
  change Blk N4 b4 _ (u64s (wl x)) at B4
  refine op_alloc (nxla rfl) ze23 rfl (fun N6 b6 B6 => ?_)
  change Blk N6 b6 _ [.int .u8 0, .int .u8 0, .int .u8 0, .int .u8 0, .int .u8 0, .int .u8 0, .int .u8 0, .int .u8 0, .int .u8 0, .int .u8 0, .int .u8 0, .int .u8 0, .int .u8 0, .int .u8 0, .int .u8 0, .int .u8 0, .int .u8 0, .int .u8 0, .int .u8 0, .int .u8 0] at B6
  refine At.opsNil ?_
  refine At.norm (hk_1 ?_)
  refine At.seq fun K2 hk_2 => ?_
  refine At.region ?_
  refine op_loadAggB (ds := u64s (wl x)) (nxlf rfl) ag26 rfl B4 (by first | (rw [List.drop_zero, List.take_of_length_le (by first | (simp; done) | (simp; omega))]; done) | rfl) (by first | (simp; done) | (simp; omega)) mem1 rfl ?_
  refine op_callA (nxla rfl) (.cons rfl .nil) (WBytes_w hx) Try.func44 rfl rfl (by simp) rfl ?_
  rintro v11 L11 ⟨rfl, rfl⟩
  change At _ _ _ [N6, N4, N3, R] _
  refine op_move (nxlf rfl) rfl rfl ?_
  refine op_callA (nxla rfl) (.cons rfl .nil) (FKeccak_f h hn) Try.func45 rfl rfl (by simp) rfl ?_
  rintro v13 L13 ⟨rfl, rfl⟩
  change At _ _ _ [N6, N4, N3, R] _
  refine op_alloc (nxla rfl) ze39 rfl (fun N7 b7 B7 => ?_)
  change Blk N7 b7 _ [.int .u8 0, .int .u8 0, .int .u8 0, .int .u8 0, .int .u8 0, .int .u8 0, .int .u8 0, .int .u8 0, .int .u8 0, .int .u8 0, .int .u8 0, .int .u8 0, .int .u8 0, .int .u8 0, .int .u8 0, .int .u8 0, .int .u8 0, .int .u8 0, .int .u8 0, .int .u8 0, .int .u8 0, .int .u8 0, .int .u8 0, .int .u8 0, .int .u8 0, .int .u8 0, .int .u8 0, .int .u8 0, .int .u8 0, .int .u8 0, .int .u8 0, .int .u8 0] at B7
  refine op_alloc (nxla rfl) ze39 rfl (fun N8 b8 B8 => ?_)
  change Blk N8 b8 _ [.int .u8 0, .int .u8 0, .int .u8 0, .int .u8 0, .int .u8 0, .int .u8 0, .int .u8 0, .int .u8 0, .int .u8 0, .int .u8 0, .int .u8 0, .int .u8 0, .int .u8 0, .int .u8 0, .int .u8 0, .int .u8 0, .int .u8 0, .int .u8 0, .int .u8 0, .int .u8 0, .int .u8 0, .int .u8 0, .int .u8 0, .int .u8 0, .int .u8 0, .int .u8 0, .int .u8 0, .int .u8 0, .int .u8 0, .int .u8 0, .int .u8 0, .int .u8 0] at B8
  refine op_store (nxl rfl) sz39 rfl rfl rfl (by simp [u8s, hbl]) (all8x2 _) B7 (by simp [u8s, hbl]) sel1 (fun N7 B7 => ?_)
  rw [setL_whole (by simp [u8s, hbl])] at B7
  refine op_store (nxl rfl) sz39 rfl rfl rfl (by simp [u8s, hkl]) (all8x2 _) B8 (by simp [u8s, hkl]) sel1 (fun N8 B8 => ?_)
  rw [setL_whole (by simp [u8s, hkl])] at B8
  refine At.opsNil ?_
  refine At.norm (hk_2 ?_)
  refine At.seq fun K3 hk_3 => ?_
  refine At.region ?_
  refine op_lit (nxla rfl) Try.underlying27 ze5 sz5 (.cons rfl .nil) rfl rfl (by simp [Value.cells]) rfl rfl rfl (fun N14 a14 r14 => ?_)
  simp only [flatV, List.flatMap_cons, List.flatMap_nil, Value.cells, List.append_nil, List.cons_append, List.nil_append] at r14
  have s14 := r14.rsl
  refine op_sliceA (nxlf rfl) ae23 rfl .none .none .none (by omega) (by omega) (by omega) (by simp) rfl ?_
  change Row N14 _ 1 a14 1 1 (u8s [255]) at r14
  refine op_append (nxl rfl) Try.underlying27 Try.underlying27 te5 rfl rfl r14 s3 (by first | exact mem0 | exact mem1 | exact mem2 | exact mem3 | exact mem4 | exact mem5 | exact mem6 | exact mem7 | exact mem8 | exact mem9) (by first | exact one_u8s _ | exact one_u64s _ | exact one_u32s _ | (intro u hu; simp at hu; subst hu; rfl)) (by omega) (by omega) sel0 rfl (fun N16 a16 p16 r16 => ?_)
  have s16 := r16.rsl
  rw [← u8s_app] at r16
  refine op_assign (nxlf rfl) rfl rfl ?_
  refine At.opsNil ?_
  refine At.norm (hk_3 ?_)
  refine At.seq fun K4 hk_4 => ?_
  have s7 := blk8 B7 hbl (by decide); have s8 := blk8 B8 hkl (by decide)
  refine At.perm sel6 ?_
  refine At.perm sel4 ?_
  refine At.perm sel4 ?_
  refine At.perm sel4 ?_
  refine At.perm sel6 ?_
  refine At.perm sel6 ?_
  refine At.perm sel6 ?_
  refine At.drawnS [N8, N7, N6, R] [4,5,6] [] [0,1,3,2,4,5,6] (by kernel_rfl) (by kernel_rfl) (.cons _ (.cons _ (.cons _ (.refl _)))) ?_
  refine op_move (nxsf rfl rfl rfl) rfl rfl ?_
  refine op_sliceA (nxsf rfl rfl rfl) ae39 rfl .none .none .none (by omega) (by omega) (by omega) (by simp) rfl ?_
  refine op_sliceA (nxsf rfl rfl rfl) ae39 rfl .none .none .none (by omega) (by omega) (by omega) (by simp) rfl ?_
  refine op_append (nxsm rfl rfl rfl) Try.underlying27 Try.underlying27 te5 rfl rfl r16 s7 (by first | exact mem0 | exact mem1 | exact mem2 | exact mem3 | exact mem4 | exact mem5 | exact mem6 | exact mem7 | exact mem8 | exact mem9) (by first | exact one_u8s _ | exact one_u64s _ | exact one_u32s _ | (intro u hu; simp at hu; subst hu; rfl)) (by omega) (by omega) sel0 rfl (fun N19 a19 p19 r19 => ?_)
  have s19 := r19.rsl
  refine At.moreS (Lst := [N8, N7, N6, R]) (Lst' := [N8, N7, N6, R]) (.refl _) (.cons _ (.cons _ (.cons _ (.refl _)))) ?_
  rw [← u8s_app] at r19
  refine op_append (nxss rfl rfl rfl rfl) Try.underlying27 Try.underlying27 te5 rfl rfl r19 s8 (by first | exact mem0 | exact mem1 | exact mem2 | exact mem3 | exact mem4 | exact mem5 | exact mem6 | exact mem7 | exact mem8 | exact mem9) (by first | exact one_u8s _ | exact one_u64s _ | exact one_u32s _ | (intro u hu; simp at hu; subst hu; rfl)) (by omega) (by omega) sel0 rfl (fun N21 a21 p21 r21 => ?_)
  have s21 := r21.rsl
  refine At.anyS (.refl _) ?_
  rw [← u8s_app, show [255] ++ a ++ bytesN 32 x ++ kec l = 255 :: (a ++ bytesN 32 x ++ kec l) by simp] at r21
  refine op_callA (Nx.agree (nxss rfl rfl rfl rfl)) (.cons rfl .nil) (FLast_b r21.rsl (by omega)) Try.func34 rfl rfl (by simp) rfl ?_
  rintro v22 L22 ⟨rfl, rfl⟩
  change At _ _ _ [N21, N4, N3, N8, N7, N6, R] _
  refine At.anyS (.refl _) ?_
  refine op_store (nxsl rfl rfl rfl rfl) sz23 rfl rfl rfl (by simp [u8s, lastA_len]) (all8x2 _) B6 (by simp [u8s, lastA_len]) sel5 (fun N6 B6 => ?_)
  rw [setL_whole (by simp [u8s, lastA_len])] at B6
  refine At.sNil ?_
  refine At.norm (hk_4 ?_)
  refine At.ret (?_)
  refine At.sub (L' := [N6, R]) (.cons_cons _ (.cons _ (.cons _ (.cons _ (.cons _ (.cons _ (.cons_cons _ (.slnil)))))))) ?_
  refine At.ret1 (L1 := []) rfl (.cell rfl (res_agg (ds := u8s (saltA a x l)) ag23 B6 (tk_all (by simp [u8s, saltA, lastA_len])) (by simp [u8s, saltA, lastA_len]) mem0) .nil) (.cons _ (.refl _)) (.refl _) ?_
  exact ⟨rfl, rfl⟩
/-- The first so many bytes of the last of a hash, zeros behind. -/
def fillA (h : List UInt8) (i : Nat) : List UInt8 := (h.drop 12).take i ++ List.replicate (20 - i) 0
theorem fillA_len {h : List UInt8} (hh : h.length = 32) {i : Nat} (hi : i ≤ 20) : (fillA h i).length = 20 := by
  rw [fillA, List.length_append, List.length_take, List.length_drop, List.length_replicate]; omega
theorem fillA_set {h : List UInt8} (hh : h.length = 32) {i : Nat} (hi : i < 20) : (fillA h i).set i (h.getD (12 + i) 0) = fillA h (i + 1) := by
  have hl : ((h.drop 12).take i).length = i := by rw [List.length_take, List.length_drop]; omega
  rw [fillA, List.set_append_right _ _ (by omega), hl, Nat.sub_self, show 20 - i = (20 - (i + 1)) + 1 by omega, List.replicate_succ, List.set_cons_zero, fillA, List.take_add_one, List.getElem?_drop, List.getElem?_eq_getElem (show 12 + i < h.length by omega), List.append_assoc, List.getD_eq_getElem?_getD, List.getElem?_eq_getElem (show 12 + i < h.length by omega)]
  rfl
theorem fillA_all (h : List UInt8) (hh : h.length = 32) : fillA h 20 = h.drop 12 := by
  rw [fillA, List.take_of_length_le (by rw [List.length_drop]; omega), Nat.sub_self, List.replicate_zero, List.append_nil]
theorem rLast_b {h : List UInt8} (hh : h.length = 32) : Fn Try.prog 39 #[.agg (u8s h).toArray] [] [] (fun v L => v = .agg (u8s (h.drop 12)).toArray ∧ L = []) := by
  have hdl : (h.drop 12).length = 20 := by rw [List.length_drop]; omega
  have hf := fillA_all h hh
  have hul2 : (u8s (h.drop 12)).length = 20 := by rw [u8s, List.length_map, hdl]
  refine Fn.enter (vs := [.agg (u8s h).toArray]) Try.func39 rfl rfl rfl ?_
  intro E R hR
  change At _ _ E [R] _
  refine At.seq fun K1 hk_1 => ?_
  refine At.region ?_
  refine op_box (nxla rfl) rfl rfl rfl (fun N1 b1 B1 => ?_)
  refine op_alloc (nxla rfl) ze23 rfl (fun N2 b2 B2 => ?_)
  change Blk N2 b2 _ [.int .u8 0, .int .u8 0, .int .u8 0, .int .u8 0, .int .u8 0, .int .u8 0, .int .u8 0, .int .u8 0, .int .u8 0, .int .u8 0, .int .u8 0, .int .u8 0, .int .u8 0, .int .u8 0, .int .u8 0, .int .u8 0, .int .u8 0, .int .u8 0, .int .u8 0, .int .u8 0] at B2
  refine At.opsNil ?_
  refine At.norm (hk_1 ?_)
  refine At.seq fun K2 hk_2 => ?_
  refine At.region ?_
  refine op_alloc (nxla rfl) ze23 rfl (fun N3 b3 B3 => ?_)
  change Blk N3 b3 _ [.int .u8 0, .int .u8 0, .int .u8 0, .int .u8 0, .int .u8 0, .int .u8 0, .int .u8 0, .int .u8 0, .int .u8 0, .int .u8 0, .int .u8 0, .int .u8 0, .int .u8 0, .int .u8 0, .int .u8 0, .int .u8 0, .int .u8 0, .int .u8 0, .int .u8 0, .int .u8 0] at B3
  change Blk N3 b3 _ (u8s (fillA h 0)) at B3
  refine At.opsNil ?_
  refine At.norm (hk_2 ?_)
  refine At.seq fun K3 hk_3 => ?_
  refine At.seq fun K4 hk_4 => ?_
  refine At.region ?_
  refine op_assign (nxlf rfl) rfl rfl ?_
  refine At.opsNil ?_
  refine At.norm (hk_4 ?_)
  refine At.block ?_
  refine At.perm sel3 ?_
  refine At.perm sel1 ?_
  refine At.perm sel2 ?_
  refine At.perm sel3 ?_
  refine At.loop (fun fr_ hp_ ms_ => ∃ (i : Nat) (N3 : Heaplet), fr_ = [(1, .pointer (some ⟨b1, 0, none⟩)), (2, .pointer (some ⟨b2, 0, none⟩)), (3, .pointer (some ⟨b3, 0, none⟩)), (4, .int .i64 (i : Int))] ∧ hp_ = [N1, N2, N3, R] ∧ 20 - i = ms_ ∧ (i ≤ 20) ∧ (Blk N3 b3 23 (u8s (fillA h i)))) ?_ (.refl _) ⟨0, N3, rfl, rfl, rfl, Nat.zero_le _, B3⟩ ?_
  · exact .cons (by first | exact lkI rfl (by omega) | rfl) (.cons (by first | exact lkI rfl (by omega) | rfl) (.cons (by first | exact lkI rfl (by omega) | rfl) (.cons (by first | exact lkI rfl (by omega) | rfl) .nil)))
  rintro _ _ _ ⟨i, N3, rfl, rfl, rfl, hi, B3⟩
  refine At.seq fun K5 hk_5 => ?_
  refine At.seq fun K6 hk_6 => ?_
  refine At.region ?_
  refine op_move (nxlf rfl) rfl rfl ?_
  refine op_lss (nxlf rfl) rfl rfl rfl ?_
  refine At.opsNil ?_
  refine At.norm (hk_6 ?_)
  refine At.condP rfl (fun c6 => ?_) (fun c6 => ?_)
  · have hlt : i < 20 := by omega
    have hfl := fillA_len hh hi
    have hul : (u8s (fillA h i)).length = 20 := by simp [u8s, hfl]
    have hg := get8A (bs := h) (j := 12 + i) (by omega)
    refine At.skip ?_
    refine At.norm (hk_5 ?_)
    refine At.seq fun K7 hk_7 => ?_
    refine At.block ?_
    refine At.region ?_
    refine op_move (nxlf rfl) rfl rfl ?_
    refine op_move (nxlf rfl) rfl rfl ?_
    refine op_addI (nxlf rfl) rfl rfl (by omega) (by omega) rfl ?_
    refine op_idxA (nxlf rfl) ae39 rfl rfl (show _ = (((12 + i : Nat)) : Int) from by omega) (by omega) rfl ?_
    refine op_loadB (nxlf rfl) sc5 rfl B1 (by first | exact get8A (by omega) | rfl | exact hg) mem0 rfl ?_
    refine op_idxA (nxlf rfl) ae23 rfl rfl (show _ = (((i : Nat)) : Int) from by omega) (by omega) rfl ?_
    refine op_store (nxl rfl) sz5 rfl rfl rfl rfl rfl B3 (by simp <;> omega) sel2 (fun N3 B3 => ?_)
    rw [set8A] at B3
    refine At.opsNil ?_
    refine At.inNorm ?_
    refine At.norm (hk_7 ?_)
    refine At.region ?_
    refine op_move (nxlf rfl) rfl rfl ?_
    refine op_addI (nxlf rfl) rfl rfl (by omega) (by omega) rfl ?_
    refine op_assign (nxlf rfl) rfl rfl ?_
    refine At.opsNil ?_
    refine At.norm ?_
    refine At.perm sel3 ?_
    refine At.perm sel1 ?_
    refine At.perm sel3 ?_
    refine At.perm sel3 ?_
    refine At.back ?_ (.refl _) ⟨i + 1, N3, rfl, rfl, rfl, by omega, by rw [fillA_set hh (by omega)] at B3; exact B3⟩ ?_
    · exact .cons (by first | exact lkI rfl (by omega) | rfl) (.cons (by first | exact lkI rfl (by omega) | rfl) (.cons (by first | exact lkI rfl (by omega) | rfl) (.cons (by first | exact lkI rfl (by omega) | rfl) .nil)))
    · omega
  · have hi20 : i = 20 := by omega
    subst hi20
    rw [hf] at B3
    refine At.exit (At.thenExit (At.thenExit (At.inHit ?_)))
    refine At.norm (hk_3 ?_)
    refine At.seq fun K8 hk_8 => ?_
    refine At.region ?_
    refine op_loadAggB (ds := u8s (h.drop 12)) (nxlf rfl) ag23 rfl B3 (by exact tk_all hul2) (by exact hul2) mem2 rfl ?_
    refine op_store (nxl rfl) sz23 rfl rfl rfl hul2 (all8x2 _) B2 (by rw [hul2]; exact Nat.le_refl _) sel1 (fun N2 B2 => ?_)
    rw [setL_whole (by rw [hul2]; rfl)] at B2
    refine At.opsNil ?_
    refine At.norm (hk_8 ?_)
    refine At.ret (?_)
    refine At.sub (L' := [N2, R]) (.cons_cons _ (.cons _ (.cons _ (.cons_cons _ (.slnil))))) ?_
    refine At.ret1 (L1 := []) rfl (.cell rfl (res_agg (ds := u8s (h.drop 12)) ag23 B2 (tk_all hul2) hul2 mem0) .nil) (.cons _ (.refl _)) (.refl _) ?_
    exact ⟨rfl, rfl⟩
theorem rMade_b (ha : a.length = 20) (n : UInt64) : Fn Try.prog 10 #[.agg (u8s a).toArray, .int .u64 (n.toNat : Int)] [] [] (fun v L => v = .agg (u8s (madeA a n.toNat)).toArray ∧ L = []) := by
  have hm := mkT_len ha n
  have hll : (madeA a n.toNat).length = 20 := lastA_len (mkT a n.toNat).form
  refine Fn.enter (vs := [.agg (u8s a).toArray, .int .u64 (n.toNat : Int)]) Try.func10 rfl rfl rfl ?_
  intro E R hR
  change At _ _ E [R] _
  refine At.seq fun K1 hk_1 => ?_
  refine At.region ?_
  refine op_box (nxla rfl) rfl rfl rfl (fun N2 b2 B2 => ?_)
  have s2 := blk8 B2 ha (by decide)
  refine op_alloc (nxla rfl) ze23 rfl (fun N4 b4 B4 => ?_)
  change Blk N4 b4 _ [.int .u8 0, .int .u8 0, .int .u8 0, .int .u8 0, .int .u8 0, .int .u8 0, .int .u8 0, .int .u8 0, .int .u8 0, .int .u8 0, .int .u8 0, .int .u8 0, .int .u8 0, .int .u8 0, .int .u8 0, .int .u8 0, .int .u8 0, .int .u8 0, .int .u8 0, .int .u8 0] at B4
  refine At.opsNil ?_
  refine At.norm (hk_1 ?_)
  refine At.seq fun K2 hk_2 => ?_
  refine At.region ?_
  refine op_sliceA (nxlf rfl) ae23 rfl .none .none .none (by omega) (by omega) (by omega) (by simp) rfl ?_
  refine op_callA (nxla rfl) (.cons rfl .nil) (rBytes_b s2 (by decide)) Try.func42 rfl rfl (by simp) rfl ?_
  rintro v6 L6 ⟨M6, p6, k6, rfl, rfl, s6⟩
  change At _ _ _ [M6, N4, N2, R] _
  rw [ha] at s6 ⊢
  refine op_move (nxlf rfl) rfl rfl ?_
  refine op_callA (nxla rfl) (.cons rfl .nil) (rNum_b n) Try.func43 rfl rfl (by simp) rfl ?_
  rintro v8 L8 ⟨M8, p8, k8, rfl, rfl, s8⟩
  change At _ _ _ [M8, M6, N4, N2, R] _
  refine op_lit (nxla rfl) Try.underlying90 ze92 sz92 (.cons rfl (.cons rfl .nil)) rfl rfl (by simp [Value.cells]) rfl rfl rfl (fun N9 a9 r9 => ?_)
  simp only [flatV, List.flatMap_cons, List.flatMap_nil, Value.cells, List.append_nil, List.cons_append, List.nil_append] at r9
  have s9 := r9.rsl
  refine op_callA (nxla rfl) (.cons rfl .nil) (rList_b) Try.func41 rfl rfl (by simp) rfl ?_
  rintro v10 L10 ⟨rfl, rfl⟩
  change At _ _ _ [N9, M8, M6, N4, N2, R] _
  refine op_callA (nxla rfl) (.cons rfl .nil) (Fn.overJ (Ns := [N9, M8, M6]) fun J hJ => rForm_b (t := mkT a n.toNat) (x := ivL a9 2 2) (ItN_L (xs := [ivS _ _ _, ivS _ _ _]) (s9.le (hJ _ (by simp))) (ItsN_cons (ItN_S (s6.le (hJ _ (by simp)))) (ItsN_cons (ItN_S (s8.le (hJ _ (by simp)))) ItsN_nil))) (by omega)) Try.func40 rfl rfl (by simp) rfl ?_
  rintro v11 L11 ⟨N11, a11, k11, rfl, rfl, r11⟩
  change At _ _ _ [N11, N9, M8, M6, N4, N2, R] _
  refine op_callA (nxla rfl) (.cons rfl .nil) (rKeccak_f r11.rsl (by omega)) Try.func16 rfl rfl (by simp) rfl ?_
  rintro v12 L12 ⟨rfl, rfl⟩
  change At _ _ _ [N11, N9, M8, M6, N4, N2, R] _
  refine op_callA (nxla rfl) (.cons rfl .nil) (rLast_b (kec_len _)) Try.func39 rfl rfl (by simp) rfl ?_
  rintro v13 L13 ⟨rfl, rfl⟩
  change At _ _ _ [N11, N9, M8, M6, N4, N2, R] _
  change At _ ((13, .agg (u8s (madeA a n.toNat)).toArray) :: _) _ _ _
  refine op_store (nxl rfl) sz23 rfl rfl rfl (by simp [u8s, hll]) (all8x2 _) B4 (by simp [u8s, hll]) sel4 (fun N4 B4 => ?_)
  rw [setL_whole (by simp [u8s, hll])] at B4
  refine At.opsNil ?_
  refine At.norm (hk_2 ?_)
  refine At.ret (?_)
  refine At.sub (L' := [N4, R]) (.cons_cons _ (.cons _ (.cons _ (.cons _ (.cons _ (.cons _ (.cons_cons _ (.slnil)))))))) ?_
  refine At.ret1 (L1 := []) rfl (.cell rfl (res_agg (ds := u8s (madeA a n.toNat)) ag23 B4 (tk_all (by simp [u8s, hll])) (by simp [u8s, hll]) mem0) .nil) (.cons _ (.refl _)) (.refl _) ?_
  exact ⟨rfl, rfl⟩
theorem rSalted_b (ha : a.length = 20) {x : Nat} (hx : x < WW) (h : RSl N 1 ao n cap (u8s l)) (hn : n ≤ 1099511627776) : Fn Try.prog 12 #[.agg (u8s a).toArray, wo x, .slice ao n cap] [] [N] (fun v L => v = .agg (u8s (saltA a x l)).toArray ∧ L = []) := by
  have hbl : (bytesN 32 x).length = 32 := length_bytesN 32 x
  have hkl := kec_len l
  have hll : (saltA a x l).length = 20 := lastA_len _
  refine Fn.enter (vs := [.agg (u8s a).toArray, wo x, .slice ao n cap]) Try.func12 rfl rfl rfl ?_
  intro E R hR
  have h := h.le (hR N (by simp))
  change At _ _ E [R] _
  refine At.seq fun K1 hk_1 => ?_
  refine At.region ?_
  refine op_box (nxla rfl) rfl rfl rfl (fun N3 b3 B3 => ?_)
  have s3 := blk8 B3 ha (by decide)
  refine op_box (nxla rfl) rfl rfl rfl (fun N4 b4 B4 => ?_)
  change Blk N4 b4 _ (u64s (wl x)) at B4
  refine op_alloc (nxla rfl) ze23 rfl (fun N6 b6 B6 => ?_)
  change Blk N6 b6 _ [.int .u8 0, .int .u8 0, .int .u8 0, .int .u8 0, .int .u8 0, .int .u8 0, .int .u8 0, .int .u8 0, .int .u8 0, .int .u8 0, .int .u8 0, .int .u8 0, .int .u8 0, .int .u8 0, .int .u8 0, .int .u8 0, .int .u8 0, .int .u8 0, .int .u8 0, .int .u8 0] at B6
  refine At.opsNil ?_
  refine At.norm (hk_1 ?_)
  refine At.seq fun K2 hk_2 => ?_
  refine At.region ?_
  refine op_lit (nxla rfl) Try.underlying27 ze5 sz5 (.cons rfl .nil) rfl rfl (by simp [Value.cells]) rfl rfl rfl (fun N10 a10 r10 => ?_)
  simp only [flatV, List.flatMap_cons, List.flatMap_nil, Value.cells, List.append_nil, List.cons_append, List.nil_append] at r10
  have s10 := r10.rsl
  refine op_sliceA (nxlf rfl) ae23 rfl .none .none .none (by omega) (by omega) (by omega) (by simp) rfl ?_
  change Row N10 _ 1 a10 1 1 (u8s [255]) at r10
  refine op_append (nxl rfl) Try.underlying27 Try.underlying27 te5 rfl rfl r10 s3 (by first | exact mem0 | exact mem1 | exact mem2 | exact mem3 | exact mem4 | exact mem5 | exact mem6 | exact mem7 | exact mem8 | exact mem9) (by first | exact one_u8s _ | exact one_u64s _ | exact one_u32s _ | (intro u hu; simp at hu; subst hu; rfl)) (by omega) (by omega) sel0 rfl (fun N12 a12 p12 r12 => ?_)
  have s12 := r12.rsl
  rw [← u8s_app] at r12
  refine op_assign (nxlf rfl) rfl rfl ?_
  refine At.opsNil ?_
  refine At.norm (hk_2 ?_)
  refine At.seq fun K3 hk_3 => ?_
  refine At.region ?_
  refine op_loadAggB (ds := u64s (wl x)) (nxlf rfl) ag26 rfl B4 (by first | (rw [List.drop_zero, List.take_of_length_le (by first | (simp; done) | (simp; omega))]; done) | rfl) (by first | (simp; done) | (simp; omega)) mem2 rfl ?_
  refine op_callA (nxla rfl) (.cons rfl .nil) (rBytes_w hx) Try.func46 rfl rfl (by simp) rfl ?_
  rintro v14 L14 ⟨rfl, rfl⟩
  change At _ _ _ [N12, N6, N4, N3, R] _
  refine op_alloc (nxla rfl) ze39 rfl (fun N8 b8 B8 => ?_)
  change Blk N8 b8 _ [.int .u8 0, .int .u8 0, .int .u8 0, .int .u8 0, .int .u8 0, .int .u8 0, .int .u8 0, .int .u8 0, .int .u8 0, .int .u8 0, .int .u8 0, .int .u8 0, .int .u8 0, .int .u8 0, .int .u8 0, .int .u8 0, .int .u8 0, .int .u8 0, .int .u8 0, .int .u8 0, .int .u8 0, .int .u8 0, .int .u8 0, .int .u8 0, .int .u8 0, .int .u8 0, .int .u8 0, .int .u8 0, .int .u8 0, .int .u8 0, .int .u8 0, .int .u8 0] at B8
  refine op_store (nxl rfl) sz39 rfl rfl rfl (by simp [u8s, hbl]) (all8x2 _) B8 (by simp [u8s, hbl]) sel0 (fun N8 B8 => ?_)
  rw [setL_whole (by simp [u8s, hbl])] at B8
  refine At.opsNil ?_
  refine At.norm (hk_3 ?_)
  refine At.seq fun K4 hk_4 => ?_
  refine At.region ?_
  refine op_move (nxlf rfl) rfl rfl ?_
  refine op_callA (nxla rfl) (.cons rfl .nil) (rKeccak_f h hn) Try.func16 rfl rfl (by simp) rfl ?_
  rintro v16 L16 ⟨rfl, rfl⟩
  change At _ _ _ [N8, N12, N6, N4, N3, R] _
  refine op_alloc (nxla rfl) ze39 rfl (fun N9 b9 B9 => ?_)
  change Blk N9 b9 _ [.int .u8 0, .int .u8 0, .int .u8 0, .int .u8 0, .int .u8 0, .int .u8 0, .int .u8 0, .int .u8 0, .int .u8 0, .int .u8 0, .int .u8 0, .int .u8 0, .int .u8 0, .int .u8 0, .int .u8 0, .int .u8 0, .int .u8 0, .int .u8 0, .int .u8 0, .int .u8 0, .int .u8 0, .int .u8 0, .int .u8 0, .int .u8 0, .int .u8 0, .int .u8 0, .int .u8 0, .int .u8 0, .int .u8 0, .int .u8 0, .int .u8 0, .int .u8 0] at B9
  refine op_store (nxl rfl) sz39 rfl rfl rfl (by simp [u8s, hkl]) (all8x2 _) B9 (by simp [u8s, hkl]) sel0 (fun N9 B9 => ?_)
  rw [setL_whole (by simp [u8s, hkl])] at B9
  refine At.opsNil ?_
  refine At.norm (hk_4 ?_)
  refine At.seq fun K5 hk_5 => ?_
  refine At.region ?_
  refine op_move (nxlf rfl) rfl rfl ?_
  have s8 := blk8 B8 hbl (by decide)
  have s9 := blk8 B9 hkl (by decide)
  refine op_sliceA (nxlf rfl) ae39 rfl .none .none .none (by omega) (by omega) (by omega) (by simp) rfl ?_
  refine op_append (nxl rfl) Try.underlying27 Try.underlying27 te5 rfl rfl r12 s8 (by first | exact mem0 | exact mem1 | exact mem2 | exact mem3 | exact mem4 | exact mem5 | exact mem6 | exact mem7 | exact mem8 | exact mem9) (by first | exact one_u8s _ | exact one_u64s _ | exact one_u32s _ | (intro u hu; simp at hu; subst hu; rfl)) (by omega) (by omega) sel2 rfl (fun N19 a19 p19 r19 => ?_)
  have s19 := r19.rsl
  rw [← u8s_app] at r19
  refine op_assign (nxlf rfl) rfl rfl ?_
  refine At.opsNil ?_
  refine At.norm (hk_5 ?_)
  refine At.seq fun K6 hk_6 => ?_
  refine At.region ?_
  refine op_move (nxlf rfl) rfl rfl ?_
  refine op_sliceA (nxlf rfl) ae39 rfl .none .none .none (by omega) (by omega) (by omega) (by simp) rfl ?_
  refine op_append (nxl rfl) Try.underlying27 Try.underlying27 te5 rfl rfl r19 s9 (by first | exact mem0 | exact mem1 | exact mem2 | exact mem3 | exact mem4 | exact mem5 | exact mem6 | exact mem7 | exact mem8 | exact mem9) (by first | exact one_u8s _ | exact one_u64s _ | exact one_u32s _ | (intro u hu; simp at hu; subst hu; rfl)) (by omega) (by omega) sel0 rfl (fun N22 a22 p22 r22 => ?_)
  have s22 := r22.rsl
  rw [← u8s_app, show [255] ++ a ++ bytesN 32 x ++ kec l = 255 :: (a ++ bytesN 32 x ++ kec l) by simp] at r22
  refine op_callA (nxla rfl) (.cons rfl .nil) (rKeccak_f r22.rsl (by omega)) Try.func16 rfl rfl (by simp) rfl ?_
  rintro v23 L23 ⟨rfl, rfl⟩
  change At _ _ _ [N22, N9, N8, N6, N4, N3, R] _
  refine op_callA (nxla rfl) (.cons rfl .nil) (rLast_b (kec_len _)) Try.func39 rfl rfl (by simp) rfl ?_
  rintro v24 L24 ⟨rfl, rfl⟩
  change At _ _ _ [N22, N9, N8, N6, N4, N3, R] _
  change At _ ((24, .agg (u8s (saltA a x l)).toArray) :: _) _ _ _
  refine op_store (nxl rfl) sz23 rfl rfl rfl (by simp [u8s, hll]) (all8x2 _) B6 (by simp [u8s, hll]) sel3 (fun N6 B6 => ?_)
  rw [setL_whole (by simp [u8s, hll])] at B6
  refine At.opsNil ?_
  refine At.norm (hk_6 ?_)
  refine At.ret (?_)
  refine At.sub (L' := [N6, R]) (.cons_cons _ (.cons _ (.cons _ (.cons _ (.cons _ (.cons _ (.cons_cons _ (.slnil)))))))) ?_
  refine At.ret1 (L1 := []) rfl (.cell rfl (res_agg (ds := u8s (saltA a x l)) ag23 B6 (tk_all (by simp [u8s, hll])) (by simp [u8s, hll]) mem0) .nil) (.cons _ (.refl _)) (.refl _) ?_
  exact ⟨rfl, rfl⟩
end
end Go.Proofs.Ytljacjjeinmfnaa
