/- Several texts in one: see the remarks ahead of each part. No condition but those told there. -/
import Derived.Test.YtbmlhdecnfplaaaK13
import Derived.Test.YtbmlhdecnfplaaaK14
/- Plain laws on numbers in digits of 32 bits (out of those on limbs, by a program). No condition. -/
namespace Go.Proofs.Ytbmlhdecnfplaaa
set_option linter.unusedVariables false
set_option linter.unusedSimpArgs false
theorem shr32_nat (x : UInt32) (s : Nat) : (shr32 x s).toNat = x.toNat / 2 ^ s := by
  rw [shr32, UInt32.toNat_ofNat', Nat.mod_eq_of_lt (Nat.lt_of_le_of_lt (Nat.div_le_self _ _) x.toNat_lt)]
theorem or_set32 {a : List UInt32} {q s w x : Nat} (hq : q < a.length) (hs : v32 a < 2 ^ (32 * q + s)) (hx : x < 2 ^ w) (hw : s + w ≤ 32) :
    v32 (a.set q (a.getD q 0 ||| UInt32.ofNat (x * 2 ^ s))) = v32 a + x * 2 ^ (32 * q + s) := by
  have hset := v32_set (a := a) (i := q) (y := a.getD q 0 ||| UInt32.ofNat (x * 2 ^ s)) hq
  have hdig := dig_v32 hq
  have hL : a[q].toNat < 2 ^ s := by
    rw [← hdig]
    refine Nat.lt_of_le_of_lt (Nat.mod_le _ _) ?_
    rw [Nat.div_lt_iff_lt_mul (Nat.pow_pos (by decide)), ← Nat.pow_add]
    rwa [Nat.add_comm s]
  have hc : x * 2 ^ s < 2 ^ 32 := by
    refine Nat.lt_of_lt_of_le (Nat.mul_lt_mul_of_pos_right hx (Nat.pow_pos (by decide))) ?_
    rw [← Nat.pow_add]
    exact Nat.pow_le_pow_right (by decide) (by omega)
  have hor : (a.getD q 0 ||| UInt32.ofNat (x * 2 ^ s)).toNat = a[q].toNat + x * 2 ^ s := by
    rw [List.getD_eq_getElem?_getD, List.getElem?_eq_getElem hq, Option.getD_some, UInt32.toNat_or, UInt32.toNat_ofNat', Nat.mod_eq_of_lt hc, Nat.or_comm, nat_join s _ _ (Nat.mul_mod_left _ _) hL, Nat.add_comm]
  rw [hor, Nat.add_mul, Nat.mul_assoc, ← Nat.pow_add, Nat.add_comm s] at hset
  omega
theorem v32_snoc (w : List UInt32) (x : UInt32) : v32 (w ++ [x]) = v32 w + 2 ^ (32 * w.length) * x.toNat := by
  rw [v32_append]
  simp only [v32, n32, val, List.map_cons, List.map_nil, Nat.mul_zero, Nat.add_zero]
theorem v32_take_all {l : List UInt32} {k : Nat} (h : l.length ≤ k) : v32 (l.take k) = v32 l := by rw [List.take_of_length_le h]
theorem v32_take_succD (l : List UInt32) (k : Nat) : v32 (l.take (k + 1)) = v32 (l.take k) + 2 ^ (32 * k) * (l.getD k 0).toNat := by
  rcases Nat.lt_or_ge k l.length with h | h
  · rw [v32_take_succ h, Nat.mul_comm]
  · rw [v32_take_all h, v32_take_all (by omega), List.getD_eq_getElem?_getD, List.getElem?_eq_none h]
    simp
theorem pow32 (k : Nat) : (2 : Nat) ^ (32 * (k + 1)) = 2 ^ (32 * k) * 4294967296 := by rw [show 32 * (k + 1) = 32 * k + 32 by omega, Nat.pow_add]
theorem v32_setD {p : List UInt32} {j : Nat} {y : UInt32} (h : j < p.length) : v32 (p.set j y) + (p.getD j 0).toNat * 2 ^ (32 * j) = v32 p + y.toNat * 2 ^ (32 * j) := by
  have := v32_set (y := y) h
  rwa [List.getD_eq_getElem?_getD, List.getElem?_eq_getElem h]
theorem digs_mono {A B : Nat} (h : A ≤ B) : (digsOf A).length ≤ (digsOf B).length := by
  rw [length_digsOf, length_digsOf]
  have := bitLen_mono h
  omega
theorem v32_split {l : List UInt32} {j : Nat} (h : j < l.length) : v32 l = v32 (l.take j) + 2 ^ (32 * j) * ((l.getD j 0).toNat + 4294967296 * v32 (l.drop (j + 1))) := by
  have e : l = l.take (j + 1) ++ l.drop (j + 1) := (List.take_append_drop _ _).symm
  conv => lhs; rw [e]
  rw [v32_append, List.length_take, Nat.min_eq_left (by omega), v32_take_succD, pow32, Nat.mul_add, Nat.mul_assoc, Nat.add_assoc]
theorem digit_at (l : List UInt32) (i : Nat) : v32 l / 2 ^ (32 * i) % 2 ^ 32 = (l.getD i 0).toNat := by
  rcases Nat.lt_or_ge i l.length with h | h
  · rw [dig_v32 h, List.getD_eq_getElem?_getD, List.getElem?_eq_getElem h]; rfl
  · rw [getD_big h, Nat.div_eq_of_lt (Nat.lt_of_lt_of_le (v32_lt l) (Nat.pow_le_pow_right (by decide) (by omega)))]; rfl
theorem bit_at32 (l : List UInt32) (i : Nat) : (shr32 (l.getD (i / 32) 0) (i % 32) &&& 1).toNat = v32 l / 2 ^ i % 2 := by
  rw [UInt32.toNat_and, shr32_nat, ← digit_at]
  have e : (2 : Nat) ^ i = 2 ^ (32 * (i / 32)) * 2 ^ (i % 32) := by rw [← Nat.pow_add]; congr 1; omega
  rw [e, ← Nat.div_div_eq_div_mul]
  generalize v32 l / 2 ^ (32 * (i / 32)) = W
  have hr : i % 32 < 32 := Nat.mod_lt _ (by decide)
  generalize i % 32 = r at *
  rw [show ((1 : UInt32).toNat) = 2 ^ 1 - 1 from rfl, Nat.and_two_pow_sub_one_eq_mod]
  rw [show (2 : Nat) ^ 32 = 2 ^ r * 2 ^ (32 - r) from by rw [← Nat.pow_add]; congr 1; omega, Nat.mod_mul_right_div_self]
  exact Nat.mod_mod_of_dvd _ (Nat.pow_dvd_pow 2 (by omega))
theorem bit_big32 {l : List UInt32} {i : Nat} (h : l.length ≤ i / 32) : v32 l / 2 ^ i % 2 = 0 := by
  rw [Nat.div_eq_of_lt (Nat.lt_of_lt_of_le (v32_lt l) (Nat.pow_le_pow_right (by decide) (by omega)))]
theorem v32_pad (a : List UInt32) (m : Nat) : v32 (a ++ List.replicate m 0) = v32 a := by rw [v32_append, v32_replicate]; simp
theorem v32_cons (x : UInt32) (l : List UInt32) : v32 (x :: l) = x.toNat + 4294967296 * v32 l := by simp [v32, n32, val]
theorem v32_top2 {u : List UInt32} {n : Nat} (hu : u.length = n + 1) (hn : 1 ≤ n) : v32 u = v32 (u.take (n - 1)) + 2 ^ (32 * (n - 1)) * ((u.getD n 0).toNat * 4294967296 + (u.getD (n - 1) 0).toNat) := by
  have h := v32_split (l := u) (j := n - 1) (by omega)
  rw [show n - 1 + 1 = n by omega] at h
  have e : v32 (u.drop n) = (u.getD n 0).toNat := by
    rw [List.drop_eq_getElem_cons (by omega), List.drop_of_length_le (by omega), List.getD_eq_getElem?_getD, List.getElem?_eq_getElem (by omega)]
    simp [v32, n32, val]
  rw [h, e]
  congr 2
  omega
theorem v32_top1 {v : List UInt32} {n : Nat} (hv : v.length = n) (hn : 1 ≤ n) : v32 v = v32 (v.take (n - 1)) + 2 ^ (32 * (n - 1)) * (v.getD (n - 1) 0).toNat := by
  have h := v32_take_succD v (n - 1)
  rw [show n - 1 + 1 = n by omega, v32_take_all (by omega)] at h
  exact h
theorem qhat_ge32 {u v : List UInt32} {n Q : Nat} (hu : u.length = n + 1) (hv : v.length = n) (hn : 1 ≤ n) (hQ : Q * v32 v ≤ v32 u) (h0 : 0 < (v.getD (n - 1) 0).toNat) :
    Q ≤ ((u.getD n 0).toNat * 4294967296 + (u.getD (n - 1) 0).toNat) / (v.getD (n - 1) 0).toNat := by
  rw [Nat.le_div_iff_mul_le h0]
  have h1 := v32_top2 hu hn
  have h2 := v32_top1 hv hn
  have h3 : v32 (u.take (n - 1)) < 2 ^ (32 * (n - 1)) := v32_take_lt _ _
  generalize (u.getD n 0).toNat * 4294967296 + (u.getD (n - 1) 0).toNat = T at *
  generalize (v.getD (n - 1) 0).toNat = y at *
  generalize 2 ^ (32 * (n - 1)) = P at *
  have h4 : P * (Q * y) ≤ Q * v32 v := by
    rw [h2, Nat.mul_add, Nat.mul_left_comm Q]; omega
  have h5 : P * (Q * y) < P * (T + 1) := by rw [Nat.mul_add P T, Nat.mul_one]; omega
  have h6 := Nat.lt_of_mul_lt_mul_left h5
  omega
theorem v32_drop_zero {G : List UInt32} {k n : Nat} (h : v32 (G.drop k) < 2 ^ (32 * n)) : v32 (G.drop (k + n)) = 0 := by
  have e : G.drop k = (G.drop k).take n ++ G.drop (k + n) := by
    conv => lhs; rw [← List.take_append_drop n (G.drop k)]
    rw [List.drop_drop]
  rcases Nat.lt_or_ge (G.drop k).length n with h1 | h1
  · rw [List.drop_of_length_le (by rw [List.length_drop] at h1; omega)]; rfl
  · rw [e, v32_append, List.length_take, Nat.min_eq_left h1] at h
    rcases Nat.eq_zero_or_pos (v32 (G.drop (k + n))) with h2 | h2
    · exact h2
    · have := Nat.mul_le_mul_left (2 ^ (32 * n)) h2
      omega
theorem v32_take_drop (G : List UInt32) {k : Nat} (h : k ≤ G.length) : v32 G = v32 (G.take k) + 2 ^ (32 * k) * v32 (G.drop k) := by
  conv => lhs; rw [← List.take_append_drop k G]
  rw [v32_append, List.length_take, Nat.min_eq_left h]
theorem win_lt32 {G : List UInt32} {j n V : Nat} (hj : j < G.length) (hV : v32 (G.drop (j + 1)) < V) (hVn : V ≤ 2 ^ (32 * n)) :
    v32 ((G.drop j).take (n + 1)) < V * 4294967296 ∧ v32 (G.drop (j + (n + 1))) = 0 ∧ v32 ((G.drop j).take (n + 1)) = v32 (G.drop j) := by
  have hz : v32 (G.drop (j + (n + 1))) = 0 := by
    rw [show j + (n + 1) = (j + 1) + n by omega]
    exact v32_drop_zero (Nat.lt_of_lt_of_le hV hVn)
  have e1 : v32 ((G.drop j).take (n + 1)) = v32 (G.drop j) := by
    have h := congrArg v32 (List.take_append_drop (n + 1) (G.drop j))
    rw [v32_append, List.drop_drop, hz, Nat.mul_zero, Nat.add_zero] at h
    exact h
  refine ⟨?_, hz, e1⟩
  have e2 : v32 (G.drop j) = (G.getD j 0).toNat + 4294967296 * v32 (G.drop (j + 1)) := by
    rw [List.drop_eq_getElem_cons hj, v32_cons, List.getD_eq_getElem?_getD, List.getElem?_eq_getElem hj]
    rfl
  have h1 := (G.getD j 0).toNat_lt
  rw [e1, e2]
  omega
theorem div_round32 {G u' qs h : List UInt32} {j n V U : Nat} {q : UInt32} (hj : j + (n + 1) ≤ G.length) (hqs : qs = List.replicate (j + 1) 0 ++ h) (hv : v32 G + v32 qs * V = U) (hw : v32 ((G.drop j).take (n + 1)) = v32 (G.drop j)) (hz : v32 (G.drop (j + (n + 1))) = 0)
    (hu : u'.length = n + 1) (hq : q.toNat = v32 ((G.drop j).take (n + 1)) / V) (hr : v32 u' = v32 ((G.drop j).take (n + 1)) % V) (hV : 0 < V) :
    v32 (G.take j ++ u' ++ G.drop (j + (n + 1))) + v32 (qs.set j q) * V = U ∧ v32 ((G.take j ++ u' ++ G.drop (j + (n + 1))).drop j) < V ∧ qs.set j q = List.replicate j 0 ++ (q :: h) := by
  have e0 : qs.set j q = List.replicate j 0 ++ (q :: h) := by
    rw [hqs, List.replicate_succ', List.append_assoc, List.cons_append, List.nil_append, set_mid (by simp)]
    simp
  have e1 : v32 (qs.set j q) = v32 qs + 2 ^ (32 * j) * q.toNat := by
    rw [e0, hqs, v32_append, v32_append, v32_replicate, v32_replicate, List.length_replicate, List.length_replicate, pow32]
    have : v32 (q :: h) = q.toNat + 4294967296 * v32 h := by simp [v32, n32, val]
    rw [this, Nat.mul_add, Nat.mul_assoc]
    omega
  have e2 : v32 (G.take j ++ u' ++ G.drop (j + (n + 1))) = v32 (G.take j) + 2 ^ (32 * j) * v32 u' := by
    rw [v32_append, hz, v32_append, List.length_take, Nat.min_eq_left (by omega)]; simp
  have e3 := v32_take_drop G (k := j) (by omega)
  rw [← hw] at e3
  have e4 := Nat.div_add_mod (v32 ((G.drop j).take (n + 1))) V
  rw [← hr, ← hq] at e4
  refine ⟨?_, ?_, e0⟩
  · rw [e2, e1, Nat.add_mul, ← hv, e3, ← e4, Nat.mul_add (2 ^ (32 * j)), Nat.mul_comm V, Nat.mul_assoc]
    omega
  · rw [List.append_assoc, List.drop_append_of_le_length (by rw [List.length_take]; omega), List.drop_of_length_le (by rw [List.length_take]; omega), List.nil_append, v32_append, hz, hr]
    simp only [Nat.mul_zero, Nat.add_zero]
    exact Nat.mod_lt _ hV
theorem digs_top {V : Nat} (h : 0 < V) : 1 ≤ (digsOf V).length ∧ 0 < ((digsOf V).getD ((digsOf V).length - 1) 0).toNat := by
  have hl := length_digsOf V
  have hb := bitLen_pos h
  have h1 : 1 ≤ (digsOf V).length := by omega
  refine ⟨h1, ?_⟩
  rcases Nat.eq_zero_or_pos ((digsOf V).getD ((digsOf V).length - 1) 0).toNat with h0 | h0
  · exfalso
    have e := v32_top1 (v := digsOf V) rfl h1
    rw [h0, Nat.mul_zero, Nat.add_zero, v32_digsOf] at e
    have hlt := v32_take_lt (digsOf V) ((digsOf V).length - 1)
    rw [← e] at hlt
    have := digLen_le.2 hlt
    omega
  · exact h0
end Go.Proofs.Ytbmlhdecnfplaaa
/- Plain laws on numbers in digits of 32 bits that are reckoned in words of 64 bits. No condition. -/
namespace Go.Proofs.Ytbmlhdecnfplaaa
set_option linter.unusedVariables false
set_option linter.unusedSimpArgs false
open Go Go.RowKit
theorem getD_right {α : Type} {p r : List α} {i k : Nat} {z : α} (h : p.length = i) : (p ++ r).getD (i + k) z = r.getD k z := by
  subst h
  rw [List.getD_eq_getElem?_getD, List.getD_eq_getElem?_getD, List.getElem?_append_right (by omega), Nat.add_sub_cancel_left]
/-- The lower half of a limb. -/
def lo32 (s : UInt64) : UInt32 := UInt32.ofNat s.toNat
theorem lo32_nat (s : UInt64) : (lo32 s).toNat = s.toNat % 4294967296 := by rw [lo32, UInt32.toNat_ofNat']
theorem lo_hi (s : UInt64) : (lo32 s).toNat + (shr64 s 32).toNat * 4294967296 = s.toNat := by
  rw [lo32_nat, shr64_nat]
  have := Nat.mod_add_div s.toNat 4294967296
  rw [show (2 : Nat) ^ 32 = 4294967296 from rfl, Nat.mul_comm]
  exact this
theorem of32 (x : UInt32) : (UInt64.ofNat x.toNat).toNat = x.toNat := by
  rw [UInt64.toNat_ofNat']
  exact Nat.mod_eq_of_lt (Nat.lt_trans x.toNat_lt (by decide))
theorem add64n {a b : UInt64} (h : a.toNat + b.toNat < 18446744073709551616) : (a + b).toNat = a.toNat + b.toNat := by rw [UInt64.toNat_add]; exact Nat.mod_eq_of_lt h
theorem sub64n {a b : UInt64} (h : b.toNat ≤ a.toNat) : (a - b).toNat = a.toNat - b.toNat := UInt64.toNat_sub_of_le _ _ (by rw [UInt64.le_iff_toNat_le]; exact h)
theorem mul64n {a b : UInt64} (ha : a.toNat ≤ 4294967295) (hb : b.toNat ≤ 4294967295) : (a * b).toNat = a.toNat * b.toNat ∧ a.toNat * b.toNat ≤ 18446744065119617025 := by
  have h := Nat.mul_le_mul ha hb
  exact ⟨by rw [UInt64.toNat_mul]; exact Nat.mod_eq_of_lt (Nat.lt_of_le_of_lt h (by decide)), h⟩
theorem dlt (l : List UInt32) (k : Nat) : (l.getD k 0).toNat ≤ 4294967295 := by have := (l.getD k 0).toNat_lt; omega
theorem add_round32 {w a b : List UInt32} {k : Nat} {c s : UInt64} (hw : w.length = k) (hv : v32 w + c.toNat * 2 ^ (32 * k) = v32 (a.take k) + v32 (b.take k)) (hs : s.toNat = c.toNat + (a.getD k 0).toNat + (b.getD k 0).toNat) :
    v32 (w ++ [lo32 s]) + (shr64 s 32).toNat * 2 ^ (32 * (k + 1)) = v32 (a.take (k + 1)) + v32 (b.take (k + 1)) := by
  have h := lo_hi s
  rw [hs] at h
  rw [v32_snoc, hw, v32_take_succD, v32_take_succD, pow32]
  have h2 := congrArg (2 ^ (32 * k) * ·) h
  simp only [Nat.mul_add] at h2
  have e : (shr64 s 32).toNat * (2 ^ (32 * k) * 4294967296) = 2 ^ (32 * k) * ((shr64 s 32).toNat * 4294967296) := by rw [Nat.mul_left_comm]
  rw [e]
  rw [Nat.mul_comm c.toNat] at hv
  omega
theorem sub_round32 {w a b : List UInt32} {k c c' y : Nat} {d : UInt32} (hw : w.length = k) (hv : v32 w + v32 (b.take k) = v32 (a.take k) + c * 2 ^ (32 * k)) (hd : d.toNat + y + c = (a.getD k 0).toNat + c' * 4294967296) (hy : y = (b.getD k 0).toNat) :
    v32 (w ++ [d]) + v32 (b.take (k + 1)) = v32 (a.take (k + 1)) + c' * 2 ^ (32 * (k + 1)) := by
  subst hy
  rw [v32_snoc, hw, v32_take_succD, v32_take_succD, pow32]
  have h2 := congrArg (2 ^ (32 * k) * ·) hd
  simp only [Nat.mul_add] at h2
  have e : c' * (2 ^ (32 * k) * 4294967296) = 2 ^ (32 * k) * (c' * 4294967296) := by rw [Nat.mul_left_comm]
  rw [e]
  rw [Nat.mul_comm c] at hv
  omega
theorem mul_round32 {p b : List UInt32} {i k V x : Nat} {c s : UInt64} (hj : i + k < p.length) (hv : v32 p + c.toNat * 2 ^ (32 * (i + k)) = V + 2 ^ (32 * i) * (x * v32 (b.take k))) (hs : s.toNat = x * (b.getD k 0).toNat + (p.getD (i + k) 0).toNat + c.toNat) :
    v32 (p.set (i + k) (lo32 s)) + (shr64 s 32).toNat * 2 ^ (32 * (i + (k + 1))) = V + 2 ^ (32 * i) * (x * v32 (b.take (k + 1))) := by
  have h := lo_hi s
  rw [hs] at h
  have h1 := v32_setD (y := lo32 s) hj
  have eE : 2 ^ (32 * i) * 2 ^ (32 * k) = 2 ^ (32 * (i + k)) := by rw [← Nat.pow_add, Nat.mul_add]
  rw [v32_take_succD, ← Nat.add_assoc, pow32]
  have e1 : 2 ^ (32 * i) * (x * (v32 (b.take k) + 2 ^ (32 * k) * (b.getD k 0).toNat)) = 2 ^ (32 * i) * (x * v32 (b.take k)) + 2 ^ (32 * (i + k)) * (x * (b.getD k 0).toNat) := by
    rw [← eE, Nat.mul_add, Nat.mul_add, Nat.mul_left_comm x, ← Nat.mul_assoc _ (2 ^ (32 * k))]
  rw [e1]
  generalize 2 ^ (32 * (i + k)) = T at *
  have h2 := congrArg (T * ·) h
  simp only [Nat.mul_add] at h2
  have e2 : (shr64 s 32).toNat * (T * 4294967296) = T * ((shr64 s 32).toNat * 4294967296) := by rw [Nat.mul_left_comm]
  rw [e2]
  rw [Nat.mul_comm c.toNat] at hv
  rw [Nat.mul_comm (p.getD (i + k) 0).toNat, Nat.mul_comm (lo32 s).toNat] at h1
  omega
theorem mul_outer32 {p a b : List UInt32} {i : Nat} {c : UInt64} (hp : p.length = i + b.length) (hc : c.toNat < 4294967296) (hv : v32 p + c.toNat * 2 ^ (32 * (i + b.length)) = v32 (a.take i) * v32 b + 2 ^ (32 * i) * ((a.getD i 0).toNat * v32 (b.take b.length))) :
    v32 (p ++ [lo32 c]) = v32 (a.take (i + 1)) * v32 b := by
  rw [v32_snoc, hp, v32_take_succD, Nat.add_mul, Nat.mul_assoc, Nat.mul_comm _ (lo32 c).toNat, lo32_nat, Nat.mod_eq_of_lt hc, hv, List.take_length]
theorem carry_lt {s : UInt64} : (shr64 s 32).toNat < 4294967296 := by
  rw [shr64_nat]; have := s.toNat_lt; omega
/-- Two digits side by side, shifted to the right. -/
theorem shr_digit {l : List UInt32} {j r : Nat} (hr : r < 32) {w : UInt64} (hw : w.toNat = (l.getD j 0).toNat + (l.getD (j + 1) 0).toNat * 4294967296) : UInt32.ofNat (v32 l / 2 ^ (32 * j + r)) = lo32 (shr64 w r) := by
  apply UInt32.toNat_inj.1
  rw [UInt32.toNat_ofNat', lo32_nat, shr64_nat, hw, ← digit_at, ← digit_at, Nat.pow_add, ← Nat.div_div_eq_div_mul]
  have e : v32 l / 2 ^ (32 * (j + 1)) = v32 l / 2 ^ (32 * j) / 4294967296 := by rw [pow32, Nat.div_div_eq_div_mul]
  rw [e]
  generalize v32 l / 2 ^ (32 * j) = W
  have e2 : W % 2 ^ 32 + W / 4294967296 % 2 ^ 32 * 4294967296 = W % 18446744073709551616 := by
    have := Nat.mod_mul (x := W) (a := 4294967296) (b := 4294967296)
    rw [Nat.mul_comm _ (W / 4294967296 % 4294967296)] at this
    exact this.symm
  rw [e2, show (18446744073709551616 : Nat) = 2 ^ r * 2 ^ (64 - r) from by rw [← Nat.pow_add, show r + (64 - r) = 64 by omega], Nat.mod_mul_right_div_self, show (4294967296 : Nat) = 2 ^ 32 from rfl, Nat.mod_mod_of_dvd _ (Nat.pow_dvd_pow 2 (by omega))]
theorem digsN_succ (k N : Nat) : digsN (k + 1) N = digsN k N ++ [UInt32.ofNat (N / 2 ^ (32 * k))] := by
  simp [digsN, List.range_succ]
theorem trim32d {N : Heaplet} {ao : Option Addr} {n cap : Nat} {l : List UInt32} (h : RSl N 1 ao n cap (u32s l)) (ht : l.take (digsOf (v32 l)).length = digsOf (v32 l)) (hle : (digsOf (v32 l)).length ≤ n) :
    RSl N 1 ao (digsOf (v32 l)).length cap (u32s (digsOf (v32 l))) := by
  have := h.take (hi := (digsOf (v32 l)).length) (m := cap) (Nat.le_trans hle h.2.1) (Nat.le_refl _) hle
  rwa [Nat.mul_one, u32s_take, ht] at this
/-- Digits in new memory: a number without zeros at its upper end. -/
def DigsP (V : Nat) (v : Value) (L : List Heaplet) : Prop :=
  ∃ M a c, v = .slice a (digsOf V).length c ∧ L = [M] ∧ RSl M 1 a (digsOf V).length c (u32s (digsOf V))
theorem split_mod {x P Q B : Nat} (h : B = P * Q) : x * Q % B = x % P * Q := by subst h; exact Nat.mul_mod_mul_right ..
theorem split_div {x P Q B : Nat} (h : B = P * Q) (hQ : 0 < Q) : x * Q / B = x / P := by subst h; exact Nat.mul_div_mul_right _ _ hQ
theorem shl_step {c : List UInt32} {j r x : Nat} (hj : j + 1 < c.length) (hr : r < 32) (hx : x < 4294967296) (hc : v32 c < 2 ^ (32 * j + r)) {w : UInt64} (hw : w.toNat = x * 2 ^ r) :
    v32 ((c.set j (c.getD j 0 ||| lo32 w)).set (j + 1) ((c.set j (c.getD j 0 ||| lo32 w)).getD (j + 1) 0 ||| lo32 (shr64 w 32))) = v32 c + x * 2 ^ (32 * j + r) := by
  have e32 : (4294967296 : Nat) = 2 ^ (32 - r) * 2 ^ r := by rw [← Nat.pow_add, show 32 - r + r = 32 by omega]
  have hp : 0 < 2 ^ (32 - r) := Nat.pow_pos (by decide)
  have hlt : x % 2 ^ (32 - r) * 2 ^ r < 2 ^ 32 := by
    have h := Nat.mul_lt_mul_of_pos_right (Nat.mod_lt x hp) (show 0 < 2 ^ r from Nat.pow_pos (by decide))
    rwa [← e32] at h
  have hlo : lo32 w = UInt32.ofNat (x % 2 ^ (32 - r) * 2 ^ r) := by
    apply UInt32.toNat_inj.1
    rw [lo32_nat, hw, UInt32.toNat_ofNat', Nat.mod_eq_of_lt hlt]
    exact split_mod e32
  have hhi : lo32 (shr64 w 32) = UInt32.ofNat (x / 2 ^ (32 - r) * 2 ^ 0) := by
    have e : w.toNat / 4294967296 = x / 2 ^ (32 - r) := by
      rw [hw]
      exact split_div e32 (Nat.pow_pos (by decide))
    rw [lo32, shr64_nat, show (2 : Nat) ^ 32 = 4294967296 from rfl, e, Nat.pow_zero, Nat.mul_one]
  have h1 := or_set32 (a := c) (q := j) (s := r) (w := 32 - r) (x := x % 2 ^ (32 - r)) (by omega) hc (Nat.mod_lt _ hp) (by omega)
  rw [← hlo] at h1
  have hsum : v32 c + x % 2 ^ (32 - r) * 2 ^ (32 * j + r) < 2 ^ (32 * (j + 1) + 0) := by
    have h2 : x % 2 ^ (32 - r) + 1 ≤ 2 ^ (32 - r) := Nat.mod_lt _ hp
    have h3 := Nat.mul_le_mul_right (2 ^ (32 * j + r)) h2
    rw [Nat.add_mul, Nat.one_mul, ← Nat.pow_add, show 32 - r + (32 * j + r) = 32 * (j + 1) + 0 by omega] at h3
    omega
  have hx2 : x / 2 ^ (32 - r) < 2 ^ r := by
    rw [Nat.div_lt_iff_lt_mul hp, Nat.mul_comm, ← e32]; exact hx
  have h4 := or_set32 (a := c.set j (c.getD j 0 ||| lo32 w)) (q := j + 1) (s := 0) (w := r) (x := x / 2 ^ (32 - r)) (by rw [List.length_set]; omega) (by rw [h1]; exact hsum) hx2 (by omega)
  rw [← hhi] at h4
  have e5 : (2 : Nat) ^ (32 * (j + 1) + 0) = 2 ^ (32 - r) * 2 ^ (32 * j + r) := by rw [← Nat.pow_add, show 32 * (j + 1) + 0 = 32 - r + (32 * j + r) by omega]
  have e6 : x % 2 ^ (32 - r) * 2 ^ (32 * j + r) + x / 2 ^ (32 - r) * 2 ^ (32 * (j + 1) + 0) = x * 2 ^ (32 * j + r) := by
    rw [e5, ← Nat.mul_assoc, ← Nat.add_mul, Nat.mul_comm (x / 2 ^ (32 - r)), Nat.mod_add_div]
  rw [h4, h1, Nat.add_assoc, e6]
end Go.Proofs.Ytbmlhdecnfplaaa
/- The reference's Add, Sub, Mul: numbers in digits of 32 bits. Condition: numbers of at most 2^40 digits; for Sub: the second is no greater. -/
namespace Go.Proofs.Ytbmlhdecnfplaaa
set_option linter.unusedVariables false
set_option linter.unusedSimpArgs false
open Go Go.RowKit
theorem rAdd_f {N M : Heaplet} {ao bo : Option Addr} {n m ca cb : Nat} {a b : List UInt32} (ha : RSl N 1 ao n ca (u32s a)) (hb : RSl M 1 bo m cb (u32s b)) (hn : n ≤ 1099511627776) (hm : m ≤ 1099511627776) :
    Fn Try.prog 14 #[.slice ao n ca, .slice bo m cb] [] [N, M] (DigsP (v32 a + v32 b)) := by
  have hca := ha.cap63
  have hcb := hb.cap63
  have hal := ha.len32
  have hbl := hb.len32
  refine Fn.enter (vs := [.slice ao n ca, .slice bo m cb]) Try.func14 rfl rfl rfl ?_
  intro E R hR
  have ha := ha.le (hR N (by simp))
  have hb := hb.le (hR M (by simp))
  change At _ _ E [R] _
  refine At.seq fun K1 hk_1 => ?_
  refine At.region ?_
  refine op_assign (nxlf rfl) rfl rfl ?_
  refine At.opsNil ?_
  refine At.norm (hk_1 ?_)
  refine At.seq fun K2 hk_2 => ?_
  refine At.region ?_
  refine op_move (nxlf rfl) rfl rfl ?_
  refine op_lenS (nxlf rfl) se43 rfl rfl ?_
  refine op_assign (nxlf rfl) rfl rfl ?_
  refine At.opsNil ?_
  refine At.norm (hk_2 ?_)
  refine At.seq fun K3 hk_3 => ?_
  refine At.meet (fun fr_ hp_ => ∃ (K : Nat), fr_ = [(0, .slice ao n ca), (1, .slice bo m cb), (5, .int .i64 (K : Int))] ∧ hp_ = [R] ∧ (n ≤ K) ∧ (m ≤ K) ∧ (K ≤ 1099511627776)) ?_ (fun K3_ jk_3 => ?_)
  rotate_left
  · skip
    refine At.seq fun K4 hk_4 => ?_
    refine At.region ?_
    refine op_move (nxlf rfl) rfl rfl ?_
    refine op_lenS (nxlf rfl) se43 rfl rfl ?_
    refine op_move (nxlf rfl) rfl rfl ?_
    refine op_gtr (nxlf rfl) rfl rfl rfl ?_
    refine At.opsNil ?_
    refine At.norm (hk_4 ?_)
    refine At.condP rfl (fun c15 => ?_) (fun c15 => ?_)
    · refine At.region ?_
      refine op_move (nxlf rfl) rfl rfl ?_
      refine op_lenS (nxlf rfl) se43 rfl rfl ?_
      refine op_assign (nxlf rfl) rfl rfl ?_
      refine At.opsNil ?_
      refine At.norm (jk_3 ?_ (.refl _) ⟨m, rfl, rfl, by omega, by omega, hm⟩)
      exact .cons (by first | exact lkI rfl (by omega) | rfl) (.cons (by first | exact lkI rfl (by omega) | rfl) (.cons (by first | exact lkI rfl (by omega) | rfl) .nil))
    · refine At.skip ?_
      refine At.norm (jk_3 ?_ (.refl _) ⟨n, rfl, rfl, by omega, by omega, hn⟩)
      exact .cons (by first | exact lkI rfl (by omega) | rfl) (.cons (by first | exact lkI rfl (by omega) | rfl) (.cons (by first | exact lkI rfl (by omega) | rfl) .nil))
  rintro _ _ ⟨K, rfl, rfl, hK1, hK2, hK3⟩
  refine hk_3 ?_
  refine At.seq fun K5 hk_5 => ?_
  refine At.region ?_
  refine op_move (nxlf rfl) rfl rfl ?_
  refine op_addI (nxlf rfl) rfl rfl (by omega) (by omega) rfl ?_
  refine op_make (nxla rfl) Try.underlying43 te80 rfl rfl (show _ = (((K + 1 : Nat)) : Int) from by omega) (show _ = (((K + 1 : Nat)) : Int) from by omega) (by omega) (by unfold maxLen; omega) rfl (fun N20 a20 r20 => ?_)
  rw [made_one _ _ rfl, zero_u32s] at r20
  have s20 := r20.rsl
  refine op_assign (nxlf rfl) rfl rfl ?_
  refine At.opsNil ?_
  refine At.norm (hk_5 ?_)
  refine At.seq fun K6 hk_6 => ?_
  refine At.region ?_
  refine op_assign (nxlf rfl) rfl rfl ?_
  refine At.opsNil ?_
  refine At.norm (hk_6 ?_)
  refine At.seq fun K7 hk_7 => ?_
  refine At.seq fun K8 hk_8 => ?_
  refine At.region ?_
  refine op_assign (nxlf rfl) rfl rfl ?_
  refine At.opsNil ?_
  refine At.norm (hk_8 ?_)
  refine At.block ?_
  refine At.loop (fun fr_ hp_ ms_ => ∃ (k : Nat) (c : UInt64) (w : List UInt32) (N20 : Heaplet), fr_ = [(0, .slice ao n ca), (1, .slice bo m cb), (5, .int .i64 (K : Int)), (6, .slice a20 (K + 1) (K + 1)), (7, .int .u64 (c.toNat : Int)), (8, .int .i64 (k : Int))] ∧ hp_ = [N20, R] ∧ K + 1 - k = ms_ ∧ (k ≤ K + 1) ∧ (w.length = k) ∧ (c.toNat ≤ 1) ∧ (v32 w + c.toNat * 2 ^ (32 * k) = v32 (a.take k) + v32 (b.take k)) ∧ (Row N20 80 1 a20 (K + 1) (K + 1) (u32s (w ++ List.replicate (K + 1 - k) 0)))) ?_ (.refl _) ⟨0, 0, [], N20, rfl, rfl, rfl, by omega, rfl, by decide, by simp; rfl, r20⟩ ?_
  · exact .cons (by first | exact lkI rfl (by omega) | rfl) (.cons (by first | exact lkI rfl (by omega) | rfl) (.cons (by first | exact lkI rfl (by omega) | rfl) (.cons (by first | exact lkI rfl (by omega) | rfl) (.cons (by first | exact lkI rfl (by omega) | rfl) (.cons (by first | exact lkI rfl (by omega) | rfl) .nil)))))
  rintro _ _ _ ⟨k, c, w, N20, rfl, rfl, rfl, hk, hw, hc, hv, r20⟩
  have s20 := r20.rsl
  have hak := dlt a k
  have hbk := dlt b k
  refine At.seq fun K9 hk_9 => ?_
  refine At.seq fun K10 hk_10 => ?_
  refine At.region ?_
  refine op_move (nxlf rfl) rfl rfl ?_
  refine op_move (nxlf rfl) rfl rfl ?_
  refine op_addI (nxlf rfl) rfl rfl (by omega) (by omega) rfl ?_
  refine op_lss (nxlf rfl) rfl rfl rfl ?_
  refine At.opsNil ?_
  refine At.norm (hk_10 ?_)
  refine At.condP rfl (fun c24 => ?_) (fun c24 => ?_)
  · refine At.skip ?_
    refine At.norm (hk_9 ?_)
    refine At.seq fun K11 hk_11 => ?_
    refine At.block ?_
    refine At.seq fun K12 hk_12 => ?_
    refine At.region ?_
    refine op_move (nxlf rfl) rfl rfl ?_
    refine op_assign (nxlf rfl) rfl rfl ?_
    refine At.opsNil ?_
    refine At.norm (hk_12 ?_)
    refine At.seq fun K13 hk_13 => ?_
    refine At.meet (fun fr_ hp_ => ∃ (s1 : UInt64), fr_ = [(0, .slice ao n ca), (1, .slice bo m cb), (5, .int .i64 (K : Int)), (6, .slice a20 (K + 1) (K + 1)), (8, .int .i64 (k : Int)), (9, .int .u64 (s1.toNat : Int))] ∧ hp_ = [N20, R] ∧ (s1.toNat = c.toNat + (a.getD k 0).toNat)) ?_ (fun K13_ jk_13 => ?_)
    rotate_left
    · skip
      refine At.seq fun K14 hk_14 => ?_
      refine At.region ?_
      refine op_move (nxlf rfl) rfl rfl ?_
      refine op_move (nxlf rfl) rfl rfl ?_
      refine op_lenS (nxlf rfl) se43 rfl rfl ?_
      refine op_lss (nxlf rfl) rfl rfl rfl ?_
      refine At.opsNil ?_
      refine At.norm (hk_14 ?_)
      refine At.condP rfl (fun c31 => ?_) (fun c31 => ?_)
      · refine At.region ?_
        refine op_move (nxlf rfl) rfl rfl ?_
        refine op_move (nxlf rfl) rfl rfl ?_
        refine op_move (nxlf rfl) rfl rfl ?_
        refine op_idx1 (nxlf rfl) se43 rfl rfl ha (show _ = (((k : Nat)) : Int) from by omega) (by omega) rfl ?_
        refine op_loadE (nxlf rfl) sc80 rfl ha (by first | exact get8 (by omega) | exact get64 (by omega) | exact get32 (by omega)) (by first | exact mem0 | exact mem1 | exact mem2 | exact mem3 | exact mem4 | exact mem5 | exact mem6 | exact mem7 | exact mem8 | exact mem9) rfl ?_
        refine op_conv64 (nxlf rfl) (und_some Try.underlying80) Try.underlying27 rfl (by first | rfl | exact (Int.toNat_of_nonneg (by omega)).symm) rfl ?_
        refine op_addU (nxlf rfl) rfl rfl rfl ?_
        refine op_assign (nxlf rfl) rfl rfl ?_
        refine At.opsNil ?_
        refine At.norm (jk_13 ?_ (.refl _) ⟨c + UInt64.ofNat (a.getD k 0).toNat, rfl, rfl, by rw [add64n (by rw [of32]; omega), of32]⟩)
        exact .cons (by first | exact lkI rfl (by omega) | rfl) (.cons (by first | exact lkI rfl (by omega) | rfl) (.cons (by first | exact lkI rfl (by omega) | rfl) (.cons (by first | exact lkI rfl (by omega) | rfl) (.cons (by first | exact lkI rfl (by omega) | rfl) (.cons (by first | exact lkI rfl (by omega) | rfl) .nil)))))
      · have hz : (a.getD k 0).toNat = 0 := by rw [getD_big (by omega)]; rfl
        refine At.skip ?_
        refine At.norm (jk_13 ?_ (.refl _) ⟨c, rfl, rfl, by omega⟩)
        exact .cons (by first | exact lkI rfl (by omega) | rfl) (.cons (by first | exact lkI rfl (by omega) | rfl) (.cons (by first | exact lkI rfl (by omega) | rfl) (.cons (by first | exact lkI rfl (by omega) | rfl) (.cons (by first | exact lkI rfl (by omega) | rfl) (.cons (by first | exact lkI rfl (by omega) | rfl) .nil)))))
    rintro _ _ ⟨s1, rfl, rfl, hs1⟩
    refine hk_13 ?_
    refine At.seq fun K15 hk_15 => ?_
    refine At.meet (fun fr_ hp_ => ∃ (s2 : UInt64), fr_ = [(0, .slice ao n ca), (1, .slice bo m cb), (5, .int .i64 (K : Int)), (6, .slice a20 (K + 1) (K + 1)), (8, .int .i64 (k : Int)), (9, .int .u64 (s2.toNat : Int))] ∧ hp_ = [N20, R] ∧ (s2.toNat = s1.toNat + (b.getD k 0).toNat)) ?_ (fun K15_ jk_15 => ?_)
    rotate_left
    · skip
      refine At.seq fun K16 hk_16 => ?_
      refine At.region ?_
      refine op_move (nxlf rfl) rfl rfl ?_
      refine op_move (nxlf rfl) rfl rfl ?_
      refine op_lenS (nxlf rfl) se43 rfl rfl ?_
      refine op_lss (nxlf rfl) rfl rfl rfl ?_
      refine At.opsNil ?_
      refine At.norm (hk_16 ?_)
      refine At.condP rfl (fun c42 => ?_) (fun c42 => ?_)
      · refine At.region ?_
        refine op_move (nxlf rfl) rfl rfl ?_
        refine op_move (nxlf rfl) rfl rfl ?_
        refine op_move (nxlf rfl) rfl rfl ?_
        refine op_idx1 (nxlf rfl) se43 rfl rfl hb (show _ = (((k : Nat)) : Int) from by omega) (by omega) rfl ?_
        refine op_loadE (nxlf rfl) sc80 rfl hb (by first | exact get8 (by omega) | exact get64 (by omega) | exact get32 (by omega)) (by first | exact mem0 | exact mem1 | exact mem2 | exact mem3 | exact mem4 | exact mem5 | exact mem6 | exact mem7 | exact mem8 | exact mem9) rfl ?_
        refine op_conv64 (nxlf rfl) (und_some Try.underlying80) Try.underlying27 rfl (by first | rfl | exact (Int.toNat_of_nonneg (by omega)).symm) rfl ?_
        refine op_addU (nxlf rfl) rfl rfl rfl ?_
        refine op_assign (nxlf rfl) rfl rfl ?_
        refine At.opsNil ?_
        refine At.norm (jk_15 ?_ (.refl _) ⟨s1 + UInt64.ofNat (b.getD k 0).toNat, rfl, rfl, by rw [add64n (by rw [of32]; omega), of32]⟩)
        exact .cons (by first | exact lkI rfl (by omega) | rfl) (.cons (by first | exact lkI rfl (by omega) | rfl) (.cons (by first | exact lkI rfl (by omega) | rfl) (.cons (by first | exact lkI rfl (by omega) | rfl) (.cons (by first | exact lkI rfl (by omega) | rfl) (.cons (by first | exact lkI rfl (by omega) | rfl) .nil)))))
      · have hz : (b.getD k 0).toNat = 0 := by rw [getD_big (by omega)]; rfl
        refine At.skip ?_
        refine At.norm (jk_15 ?_ (.refl _) ⟨s1, rfl, rfl, by omega⟩)
        exact .cons (by first | exact lkI rfl (by omega) | rfl) (.cons (by first | exact lkI rfl (by omega) | rfl) (.cons (by first | exact lkI rfl (by omega) | rfl) (.cons (by first | exact lkI rfl (by omega) | rfl) (.cons (by first | exact lkI rfl (by omega) | rfl) (.cons (by first | exact lkI rfl (by omega) | rfl) .nil)))))
    rintro _ _ ⟨s2, rfl, rfl, hs2⟩
    refine hk_15 ?_
    refine At.seq fun K17 hk_17 => ?_
    refine At.region ?_
    refine op_move (nxlf rfl) rfl rfl ?_
    refine op_move (nxlf rfl) rfl rfl ?_
    refine op_move (nxlf rfl) rfl rfl ?_
    refine op_conv32 (nxlf rfl) (und_some Try.underlying27) Try.underlying80 rfl (by first | rfl | exact (Int.toNat_of_nonneg (by omega)).symm) rfl ?_
    refine op_idx1 (nxlf rfl) se43 rfl rfl s20 (show _ = (((k : Nat)) : Int) from by omega) (by omega) rfl ?_
    refine op_storeE (nxl rfl) sz80 rfl rfl rfl rfl rfl r20 (by simp <;> omega) (by simp) sel0 (fun N20 r20 => ?_)
    simp only [setL] at r20
    rw [set_u32s, set_fill hw (by omega)] at r20
    change Row N20 _ 1 a20 (K + 1) (K + 1) (u32s (w ++ [lo32 s2] ++ List.replicate (K + 1 - (k + 1)) 0)) at r20
    have s20 := r20.rsl
    refine At.opsNil ?_
    refine At.norm (hk_17 ?_)
    refine At.region ?_
    refine op_move (nxlf rfl) rfl rfl ?_
    refine op_shrU (nxlf rfl) rfl rfl (show _ = ((32 : Nat) : Int) from rfl) rfl ?_
    refine op_assign (nxlf rfl) rfl rfl ?_
    refine At.opsNil ?_
    refine At.inNorm ?_
    refine At.norm (hk_11 ?_)
    refine At.region ?_
    refine op_move (nxlf rfl) rfl rfl ?_
    refine op_addI (nxlf rfl) rfl rfl (by omega) (by omega) rfl ?_
    refine op_assign (nxlf rfl) rfl rfl ?_
    refine At.opsNil ?_
    refine At.norm ?_
    refine At.back ?_ (.refl _) ⟨k + 1, shr64 s2 32, w ++ [lo32 s2], N20, rfl, rfl, rfl, by omega, by simp; omega, by rw [shr64_nat]; omega, add_round32 hw hv (by omega), r20⟩ ?_
    · exact .cons (by first | exact lkI rfl (by omega) | rfl) (.cons (by first | exact lkI rfl (by omega) | rfl) (.cons (by first | exact lkI rfl (by omega) | rfl) (.cons (by first | exact lkI rfl (by omega) | rfl) (.cons (by first | exact lkI rfl (by omega) | rfl) (.cons (by first | exact lkI rfl (by omega) | rfl) .nil)))))
    · omega
  · refine At.exit (At.thenExit (At.thenExit (At.inHit ?_)))
    refine At.norm (hk_7 ?_)
    refine At.seq fun K18 hk_18 => ?_
    refine At.region ?_
    refine op_move (nxlf rfl) rfl rfl ?_
    have s20 := r20.rsl
    have hkk : k = K + 1 := by omega
    rw [hkk, Nat.sub_self, List.replicate_zero, List.append_nil] at s20
    have hfin : v32 w = v32 a + v32 b := by
      rw [hkk, v32_take_all (by omega), v32_take_all (by omega)] at hv
      have h1 := v32_lt a
      have h2 := v32_lt b
      have h3 : (2 : Nat) ^ (32 * a.length) ≤ 2 ^ (32 * K) := Nat.pow_le_pow_right (by decide) (by omega)
      have h4 : (2 : Nat) ^ (32 * b.length) ≤ 2 ^ (32 * K) := Nat.pow_le_pow_right (by decide) (by omega)
      have h5 := pow32 K
      have hc2 : c.toNat = 0 ∨ c.toNat = 1 := by omega
      rcases hc2 with hc2 | hc2
      · rw [hc2, Nat.zero_mul] at hv; omega
      · rw [hc2, Nat.one_mul] at hv; omega
    refine op_callA (nxla rfl) (.cons rfl .nil) (trim32_f s20) Try.func48 rfl rfl (by simp) rfl ?_
    rintro v58 L58 ⟨rfl, rfl, t58, l58⟩
    change At _ _ _ [N20, R] _
    refine op_assign (nxlf rfl) rfl rfl ?_
    refine At.opsNil ?_
    refine At.norm (hk_18 ?_)
    refine At.ret (?_)
    refine At.ret1 (L1 := [N20]) rfl (.tmp rfl .nil) (.refl _) (.refl _) ?_
    have h := trim32d s20 t58 l58
    rw [hfin] at h ⊢
    exact ⟨N20, a20, _, rfl, rfl, h⟩
theorem rSub_f {N M : Heaplet} {ao bo : Option Addr} {n m ca cb : Nat} {a b : List UInt32} (ha : RSl N 1 ao n ca (u32s a)) (hb : RSl M 1 bo m cb (u32s b)) (hn : n ≤ 1099511627776) (hm : m ≤ n) (hge : v32 b ≤ v32 a) :
    Fn Try.prog 18 #[.slice ao n ca, .slice bo m cb] [] [N, M] (DigsP (v32 a - v32 b)) := by
  have hca := ha.cap63
  have hcb := hb.cap63
  have hal := ha.len32
  have hbl := hb.len32
  refine Fn.enter (vs := [.slice ao n ca, .slice bo m cb]) Try.func18 rfl rfl rfl ?_
  intro E R hR
  have ha := ha.le (hR N (by simp))
  have hb := hb.le (hR M (by simp))
  change At _ _ E [R] _
  refine At.seq fun K1 hk_1 => ?_
  refine At.region ?_
  refine op_assign (nxlf rfl) rfl rfl ?_
  refine At.opsNil ?_
  refine At.norm (hk_1 ?_)
  refine At.seq fun K2 hk_2 => ?_
  refine At.region ?_
  refine op_move (nxlf rfl) rfl rfl ?_
  refine op_lenS (nxlf rfl) se43 rfl rfl ?_
  refine op_make (nxla rfl) Try.underlying43 te80 rfl rfl (show _ = (((n : Nat)) : Int) from by omega) (show _ = (((n : Nat)) : Int) from by omega) (by omega) (by unfold maxLen; omega) rfl (fun N12 a12 r12 => ?_)
  rw [made_one _ _ rfl, zero_u32s] at r12
  have s12 := r12.rsl
  refine op_assign (nxlf rfl) rfl rfl ?_
  refine At.opsNil ?_
  refine At.norm (hk_2 ?_)
  refine At.seq fun K3 hk_3 => ?_
  refine At.region ?_
  refine op_assign (nxlf rfl) rfl rfl ?_
  refine At.opsNil ?_
  refine At.norm (hk_3 ?_)
  refine At.seq fun K4 hk_4 => ?_
  refine At.seq fun K5 hk_5 => ?_
  refine At.region ?_
  refine op_assign (nxlf rfl) rfl rfl ?_
  refine At.opsNil ?_
  refine At.norm (hk_5 ?_)
  refine At.block ?_
  refine At.loop (fun fr_ hp_ ms_ => ∃ (k : Nat) (c : UInt64) (w : List UInt32) (N12 : Heaplet), fr_ = [(0, .slice ao n ca), (1, .slice bo m cb), (5, .slice a12 n n), (6, .int .u64 (c.toNat : Int)), (7, .int .i64 (k : Int))] ∧ hp_ = [N12, R] ∧ n - k = ms_ ∧ (k ≤ n) ∧ (w.length = k) ∧ (c.toNat ≤ 1) ∧ (v32 w + v32 (b.take k) = v32 (a.take k) + c.toNat * 2 ^ (32 * k)) ∧ (Row N12 80 1 a12 n n (u32s (w ++ List.replicate (n - k) 0)))) ?_ (.refl _) ⟨0, 0, [], N12, rfl, rfl, rfl, by omega, rfl, by decide, by simp; rfl, r12⟩ ?_
  · exact .cons (by first | exact lkI rfl (by omega) | rfl) (.cons (by first | exact lkI rfl (by omega) | rfl) (.cons (by first | exact lkI rfl (by omega) | rfl) (.cons (by first | exact lkI rfl (by omega) | rfl) (.cons (by first | exact lkI rfl (by omega) | rfl) .nil))))
  rintro _ _ _ ⟨k, c, w, N12, rfl, rfl, rfl, hk, hw, hc, hv, r12⟩
  have s12 := r12.rsl
  have hak := dlt a k
  have hbk := dlt b k
  refine At.seq fun K6 hk_6 => ?_
  refine At.seq fun K7 hk_7 => ?_
  refine At.region ?_
  refine op_move (nxlf rfl) rfl rfl ?_
  refine op_move (nxlf rfl) rfl rfl ?_
  refine op_lenS (nxlf rfl) se43 rfl rfl ?_
  refine op_lss (nxlf rfl) rfl rfl rfl ?_
  refine At.opsNil ?_
  refine At.norm (hk_7 ?_)
  refine At.condP rfl (fun c16 => ?_) (fun c16 => ?_)
  · refine At.skip ?_
    refine At.norm (hk_6 ?_)
    refine At.seq fun K8 hk_8 => ?_
    refine At.block ?_
    refine At.seq fun K9 hk_9 => ?_
    refine At.region ?_
    refine op_move (nxlf rfl) rfl rfl ?_
    refine op_assign (nxlf rfl) rfl rfl ?_
    refine At.opsNil ?_
    refine At.norm (hk_9 ?_)
    refine At.seq fun K10 hk_10 => ?_
    refine At.meet (fun fr_ hp_ => ∃ (s : UInt64), fr_ = [(0, .slice ao n ca), (1, .slice bo m cb), (5, .slice a12 n n), (7, .int .i64 (k : Int)), (8, .int .u64 (s.toNat : Int))] ∧ hp_ = [N12, R] ∧ (s.toNat = c.toNat + (b.getD k 0).toNat)) ?_ (fun K10_ jk_10 => ?_)
    rotate_left
    · skip
      refine At.seq fun K11 hk_11 => ?_
      refine At.region ?_
      refine op_move (nxlf rfl) rfl rfl ?_
      refine op_move (nxlf rfl) rfl rfl ?_
      refine op_lenS (nxlf rfl) se43 rfl rfl ?_
      refine op_lss (nxlf rfl) rfl rfl rfl ?_
      refine At.opsNil ?_
      refine At.norm (hk_11 ?_)
      refine At.condP rfl (fun c23 => ?_) (fun c23 => ?_)
      · refine At.region ?_
        refine op_move (nxlf rfl) rfl rfl ?_
        refine op_move (nxlf rfl) rfl rfl ?_
        refine op_move (nxlf rfl) rfl rfl ?_
        refine op_idx1 (nxlf rfl) se43 rfl rfl hb (show _ = (((k : Nat)) : Int) from by omega) (by omega) rfl ?_
        refine op_loadE (nxlf rfl) sc80 rfl hb (by first | exact get8 (by omega) | exact get64 (by omega) | exact get32 (by omega)) (by first | exact mem0 | exact mem1 | exact mem2 | exact mem3 | exact mem4 | exact mem5 | exact mem6 | exact mem7 | exact mem8 | exact mem9) rfl ?_
        refine op_conv64 (nxlf rfl) (und_some Try.underlying80) Try.underlying27 rfl (by first | rfl | exact (Int.toNat_of_nonneg (by omega)).symm) rfl ?_
        refine op_addU (nxlf rfl) rfl rfl rfl ?_
        refine op_assign (nxlf rfl) rfl rfl ?_
        refine At.opsNil ?_
        refine At.norm (jk_10 ?_ (.refl _) ⟨c + UInt64.ofNat (b.getD k 0).toNat, rfl, rfl, by rw [add64n (by rw [of32]; omega), of32]⟩)
        exact .cons (by first | exact lkI rfl (by omega) | rfl) (.cons (by first | exact lkI rfl (by omega) | rfl) (.cons (by first | exact lkI rfl (by omega) | rfl) (.cons (by first | exact lkI rfl (by omega) | rfl) (.cons (by first | exact lkI rfl (by omega) | rfl) .nil))))
      · have hz : (b.getD k 0).toNat = 0 := by rw [getD_big (by omega)]; rfl
        refine At.skip ?_
        refine At.norm (jk_10 ?_ (.refl _) ⟨c, rfl, rfl, by omega⟩)
        exact .cons (by first | exact lkI rfl (by omega) | rfl) (.cons (by first | exact lkI rfl (by omega) | rfl) (.cons (by first | exact lkI rfl (by omega) | rfl) (.cons (by first | exact lkI rfl (by omega) | rfl) (.cons (by first | exact lkI rfl (by omega) | rfl) .nil))))
    rintro _ _ ⟨s, rfl, rfl, hs⟩
    refine hk_10 ?_
    refine At.seq fun K12 hk_12 => ?_
    refine At.region ?_
    refine op_move (nxlf rfl) rfl rfl ?_
    refine op_move (nxlf rfl) rfl rfl ?_
    refine op_idx1 (nxlf rfl) se43 rfl rfl ha (show _ = (((k : Nat)) : Int) from by omega) (by omega) rfl ?_
    refine op_loadE (nxlf rfl) sc80 rfl ha (by first | exact get8 (by omega) | exact get64 (by omega) | exact get32 (by omega)) (by first | exact mem0 | exact mem1 | exact mem2 | exact mem3 | exact mem4 | exact mem5 | exact mem6 | exact mem7 | exact mem8 | exact mem9) rfl ?_
    refine op_conv64 (nxlf rfl) (und_some Try.underlying80) Try.underlying27 rfl (by first | rfl | exact (Int.toNat_of_nonneg (by omega)).symm) rfl ?_
    have hx0 := of32 (a.getD k 0)
    generalize UInt64.ofNat (a.getD k 0).toNat = x0 at *
    refine op_assign (nxlf rfl) rfl rfl ?_
    refine At.opsNil ?_
    refine At.norm (hk_12 ?_)
    refine At.seq fun K13 hk_13 => ?_
    refine At.region ?_
    refine op_assign (nxlf rfl) rfl rfl ?_
    refine At.opsNil ?_
    refine At.norm (hk_13 ?_)
    refine At.seq fun K14 hk_14 => ?_
    refine At.meet (fun fr_ hp_ => ∃ (x c' : UInt64), fr_ = [(0, .slice ao n ca), (1, .slice bo m cb), (5, .slice a12 n n), (6, .int .u64 (c'.toNat : Int)), (7, .int .i64 (k : Int)), (8, .int .u64 (s.toNat : Int)), (9, .int .u64 (x.toNat : Int))] ∧ hp_ = [N12, R] ∧ (x.toNat = (a.getD k 0).toNat + c'.toNat * 4294967296) ∧ (s.toNat ≤ x.toNat ∧ x.toNat - s.toNat < 4294967296) ∧ (c'.toNat ≤ 1)) ?_ (fun K14_ jk_14 => ?_)
    rotate_left
    · skip
      refine At.seq fun K15 hk_15 => ?_
      refine At.region ?_
      refine op_move (nxlf rfl) rfl rfl ?_
      refine op_move (nxlf rfl) rfl rfl ?_
      refine op_lss (nxlf rfl) rfl rfl rfl ?_
      refine At.opsNil ?_
      refine At.norm (hk_15 ?_)
      refine At.condP rfl (fun c38 => ?_) (fun c38 => ?_)
      · refine At.seq fun K16 hk_16 => ?_
        refine At.region ?_
        refine op_move (nxlf rfl) rfl rfl ?_
        refine op_addU (b := 4294967296) (nxlf rfl) rfl rfl rfl ?_
        refine op_assign (nxlf rfl) rfl rfl ?_
        refine At.opsNil ?_
        refine At.norm (hk_16 ?_)
        refine At.region ?_
        refine op_assign (nxlf rfl) rfl rfl ?_
        refine At.opsNil ?_
        refine At.norm (jk_14 ?_ (.refl _) ⟨x0 + 4294967296, 1, rfl, rfl, by rw [add64n (by show x0.toNat + 4294967296 < _; omega)]; show x0.toNat + 4294967296 = _ + 1 * 4294967296; omega, by rw [add64n (by show x0.toNat + 4294967296 < _; omega)]; show s.toNat ≤ x0.toNat + 4294967296 ∧ x0.toNat + 4294967296 - s.toNat < 4294967296; omega, by decide⟩)
        exact .cons (by first | exact lkI rfl (by omega) | rfl) (.cons (by first | exact lkI rfl (by omega) | rfl) (.cons (by first | exact lkI rfl (by omega) | rfl) (.cons (by first | exact lkI rfl (by omega) | rfl) (.cons (by first | exact lkI rfl (by omega) | rfl) (.cons (by first | exact lkI rfl (by omega) | rfl) (.cons (by first | exact lkI rfl (by omega) | rfl) .nil))))))
      · refine At.skip ?_
        refine At.norm (jk_14 ?_ (.refl _) ⟨x0, 0, rfl, rfl, by show _ = _ + 0 * 4294967296; omega, by omega, by decide⟩)
        exact .cons (by first | exact lkI rfl (by omega) | rfl) (.cons (by first | exact lkI rfl (by omega) | rfl) (.cons (by first | exact lkI rfl (by omega) | rfl) (.cons (by first | exact lkI rfl (by omega) | rfl) (.cons (by first | exact lkI rfl (by omega) | rfl) (.cons (by first | exact lkI rfl (by omega) | rfl) (.cons (by first | exact lkI rfl (by omega) | rfl) .nil))))))
    rintro _ _ ⟨x, c', rfl, rfl, hx, hxs, hc'⟩
    refine hk_14 ?_
    refine At.region ?_
    refine op_move (nxlf rfl) rfl rfl ?_
    refine op_move (nxlf rfl) rfl rfl ?_
    refine op_move (nxlf rfl) rfl rfl ?_
    refine op_move (nxlf rfl) rfl rfl ?_
    refine op_subU (nxlf rfl) rfl rfl rfl ?_
    refine op_conv32 (nxlf rfl) (und_some Try.underlying27) Try.underlying80 rfl (by first | rfl | exact (Int.toNat_of_nonneg (by omega)).symm) rfl ?_
    refine op_idx1 (nxlf rfl) se43 rfl rfl s12 (show _ = (((k : Nat)) : Int) from by omega) (by omega) rfl ?_
    refine op_storeE (nxl rfl) sz80 rfl rfl rfl rfl rfl r12 (by simp <;> omega) (by simp) sel0 (fun N12 r12 => ?_)
    simp only [setL] at r12
    rw [set_u32s, set_fill hw (by omega)] at r12
    change Row N12 _ 1 a12 n n (u32s (w ++ [lo32 (x - s)] ++ List.replicate (n - (k + 1)) 0)) at r12
    have s12 := r12.rsl
    refine At.opsNil ?_
    refine At.inNorm ?_
    refine At.norm (hk_8 ?_)
    refine At.region ?_
    refine op_move (nxlf rfl) rfl rfl ?_
    refine op_addI (nxlf rfl) rfl rfl (by omega) (by omega) rfl ?_
    refine op_assign (nxlf rfl) rfl rfl ?_
    refine At.opsNil ?_
    refine At.norm ?_
    refine At.back ?_ (.refl _) ⟨k + 1, c', w ++ [lo32 (x - s)], N12, rfl, rfl, rfl, by omega, by simp; omega, hc', sub_round32 (y := (b.getD k 0).toNat) hw hv (by rw [lo32_nat, sub64n (by omega)]; omega) rfl, r12⟩ ?_
    · exact .cons (by first | exact lkI rfl (by omega) | rfl) (.cons (by first | exact lkI rfl (by omega) | rfl) (.cons (by first | exact lkI rfl (by omega) | rfl) (.cons (by first | exact lkI rfl (by omega) | rfl) (.cons (by first | exact lkI rfl (by omega) | rfl) .nil))))
    · omega
  · refine At.exit (At.thenExit (At.thenExit (At.inHit ?_)))
    refine At.norm (hk_4 ?_)
    refine At.seq fun K17 hk_17 => ?_
    refine At.region ?_
    refine op_move (nxlf rfl) rfl rfl ?_
    have s12 := r12.rsl
    have hkk : k = n := by omega
    rw [hkk, Nat.sub_self, List.replicate_zero, List.append_nil] at s12
    have hfin : v32 w = v32 a - v32 b := by
      rw [hkk, v32_take_all (by omega), v32_take_all (by omega)] at hv
      have h1 := v32_lt w
      rw [hw, hkk] at h1
      have hc2 : c.toNat = 0 ∨ c.toNat = 1 := by omega
      rcases hc2 with hc2 | hc2
      · rw [hc2, Nat.zero_mul] at hv; omega
      · rw [hc2, Nat.one_mul] at hv; omega
    refine op_callA (nxla rfl) (.cons rfl .nil) (trim32_f s12) Try.func48 rfl rfl (by simp) rfl ?_
    rintro v49 L49 ⟨rfl, rfl, t49, l49⟩
    change At _ _ _ [N12, R] _
    refine op_assign (nxlf rfl) rfl rfl ?_
    refine At.opsNil ?_
    refine At.norm (hk_17 ?_)
    refine At.ret (?_)
    refine At.ret1 (L1 := [N12]) rfl (.tmp rfl .nil) (.refl _) (.refl _) ?_
    have h := trim32d s12 t49 l49
    rw [hfin] at h ⊢
    exact ⟨N12, a12, _, rfl, rfl, h⟩
set_option maxRecDepth 100000 in
theorem rMul_f {N M : Heaplet} {ao bo : Option Addr} {n m ca cb : Nat} {a b : List UInt32} (ha : RSl N 1 ao n ca (u32s a)) (hb : RSl M 1 bo m cb (u32s b)) (hn : n ≤ 1099511627776) (hm : m ≤ 1099511627776) :
    Fn Try.prog 36 #[.slice ao n ca, .slice bo m cb] [] [N, M] (DigsP (v32 a * v32 b)) := by
  have hca := ha.cap63
  have hcb := hb.cap63
  have hal := ha.len32
  have hbl := hb.len32
  refine Fn.enter (vs := [.slice ao n ca, .slice bo m cb]) Try.func36 rfl rfl rfl ?_
  intro E R hR
  have ha := ha.le (hR N (by simp))
  have hb := hb.le (hR M (by simp))
  change At _ _ E [R] _
  refine At.seq fun K1 hk_1 => ?_
  refine At.region ?_
  refine op_assign (nxlf rfl) rfl rfl ?_
  refine At.opsNil ?_
  refine At.norm (hk_1 ?_)
  refine At.seq fun K2 hk_2 => ?_
  refine At.region ?_
  refine op_move (nxlf rfl) rfl rfl ?_
  refine op_lenS (nxlf rfl) se43 rfl rfl ?_
  refine op_move (nxlf rfl) rfl rfl ?_
  refine op_lenS (nxlf rfl) se43 rfl rfl ?_
  refine op_addI (nxlf rfl) rfl rfl (by omega) (by omega) rfl ?_
  refine op_make (nxla rfl) Try.underlying43 te80 rfl rfl (show _ = (((n + m : Nat)) : Int) from by omega) (show _ = (((n + m : Nat)) : Int) from by omega) (by omega) (by unfold maxLen; omega) rfl (fun N15 a15 r15 => ?_)
  rw [made_one _ _ rfl, zero_u32s] at r15
  have s15 := r15.rsl
  refine op_assign (nxlf rfl) rfl rfl ?_
  refine At.opsNil ?_
  refine At.norm (hk_2 ?_)
  refine At.seq fun K3 hk_3 => ?_
  refine At.seq fun K4 hk_4 => ?_
  refine At.region ?_
  refine op_assign (nxlf rfl) rfl rfl ?_
  refine At.opsNil ?_
  refine At.norm (hk_4 ?_)
  refine At.block ?_
  refine At.loop (fun fr_ hp_ ms_ => ∃ (i : Nat) (p : List UInt32) (N15 : Heaplet), fr_ = [(0, .slice ao n ca), (1, .slice bo m cb), (5, .slice a15 (n + m) (n + m)), (6, .int .i64 (i : Int))] ∧ hp_ = [N15, R] ∧ n - i = ms_ ∧ (i ≤ n) ∧ (p.length = i + m) ∧ (v32 p = v32 (a.take i) * v32 b) ∧ (Row N15 80 1 a15 (n + m) (n + m) (u32s (p ++ List.replicate (n - i) 0)))) ?_ (.refl _) ⟨0, List.replicate m 0, N15, rfl, rfl, rfl, by omega, by simp, by rw [v32_replicate]; simp [v32, n32, val], by rw [List.replicate_append_replicate, show m + (n - 0) = n + m by omega]; exact r15⟩ ?_
  · exact .cons (by first | exact lkI rfl (by omega) | rfl) (.cons (by first | exact lkI rfl (by omega) | rfl) (.cons (by first | exact lkI rfl (by omega) | rfl) (.cons (by first | exact lkI rfl (by omega) | rfl) .nil)))
  rintro _ _ _ ⟨i, p, N15, rfl, rfl, rfl, hi, hp, hv, r15⟩
  have s15 := r15.rsl
  refine At.seq fun K5 hk_5 => ?_
  refine At.seq fun K6 hk_6 => ?_
  refine At.region ?_
  refine op_move (nxlf rfl) rfl rfl ?_
  refine op_move (nxlf rfl) rfl rfl ?_
  refine op_lenS (nxlf rfl) se43 rfl rfl ?_
  refine op_lss (nxlf rfl) rfl rfl rfl ?_
  refine At.opsNil ?_
  refine At.norm (hk_6 ?_)
  refine At.condP rfl (fun c19 => ?_) (fun c19 => ?_)
  · refine At.skip ?_
    refine At.norm (hk_5 ?_)
    refine At.seq fun K7 hk_7 => ?_
    refine At.block ?_
    refine At.seq fun K8 hk_8 => ?_
    refine At.region ?_
    refine op_assign (nxlf rfl) rfl rfl ?_
    refine At.opsNil ?_
    refine At.norm (hk_8 ?_)
    refine At.seq fun K9 hk_9 => ?_
    refine At.seq fun K10 hk_10 => ?_
    refine At.region ?_
    refine op_assign (nxlf rfl) rfl rfl ?_
    refine At.opsNil ?_
    refine At.norm (hk_10 ?_)
    refine At.block ?_
    refine At.loop (fun fr_ hp_ ms_ => ∃ (k : Nat) (c : UInt64) (p : List UInt32) (N15 : Heaplet), fr_ = [(0, .slice ao n ca), (1, .slice bo m cb), (5, .slice a15 (n + m) (n + m)), (6, .int .i64 (i : Int)), (7, .int .u64 (c.toNat : Int)), (8, .int .i64 (k : Int))] ∧ hp_ = [N15, R] ∧ m - k = ms_ ∧ (k ≤ m) ∧ (p.length = i + m) ∧ (c.toNat < 4294967296) ∧ (v32 p + c.toNat * 2 ^ (32 * (i + k)) = v32 (a.take i) * v32 b + 2 ^ (32 * i) * ((a.getD i 0).toNat * v32 (b.take k))) ∧ (Row N15 80 1 a15 (n + m) (n + m) (u32s (p ++ List.replicate (n - i) 0)))) ?_ (.refl _) ⟨0, 0, p, N15, rfl, rfl, rfl, by omega, hp, by decide, by rw [hv]; simp [v32, n32, val], r15⟩ ?_
    · exact .cons (by first | exact lkI rfl (by omega) | rfl) (.cons (by first | exact lkI rfl (by omega) | rfl) (.cons (by first | exact lkI rfl (by omega) | rfl) (.cons (by first | exact lkI rfl (by omega) | rfl) (.cons (by first | exact lkI rfl (by omega) | rfl) (.cons (by first | exact lkI rfl (by omega) | rfl) .nil)))))
    rintro _ _ _ ⟨k, c, p, N15, rfl, rfl, rfl, hk, hp, hc, hv, r15⟩
    have s15 := r15.rsl
    have hpl : (p ++ List.replicate (n - i) (0 : UInt32)).length = n + m := by simp; omega
    refine At.seq fun K11 hk_11 => ?_
    refine At.seq fun K12 hk_12 => ?_
    refine At.region ?_
    refine op_move (nxlf rfl) rfl rfl ?_
    refine op_move (nxlf rfl) rfl rfl ?_
    refine op_lenS (nxlf rfl) se43 rfl rfl ?_
    refine op_lss (nxlf rfl) rfl rfl rfl ?_
    refine At.opsNil ?_
    refine At.norm (hk_12 ?_)
    refine At.condP rfl (fun c25 => ?_) (fun c25 => ?_)
    · refine At.skip ?_
      refine At.norm (hk_11 ?_)
      refine At.seq fun K13 hk_13 => ?_
      refine At.block ?_
      refine At.seq fun K14 hk_14 => ?_
      refine At.drawnS [N15, R] [] [] [0,1,2,3,4,5,6,7,8,9,10,11,12,13,14,15,16,17,18,19,20,21] (by kernel_rfl) (by kernel_rfl) (.refl _) ?_
      refine op_move (nxsf rfl rfl rfl) rfl rfl ?_
      refine op_move (nxsf rfl rfl rfl) rfl rfl ?_
      refine op_idx1 (nxsf rfl rfl rfl) se43 rfl rfl ha (show _ = (((i : Nat)) : Int) from by omega) (by omega) rfl ?_
      refine op_loadE (nxsf rfl rfl rfl) sc80 rfl ha (by first | exact get8 (by omega) | exact get64 (by omega) | exact get32 (by omega)) (by first | exact mem0 | exact mem1 | exact mem2 | exact mem3 | exact mem4 | exact mem5 | exact mem6 | exact mem7 | exact mem8 | exact mem9) rfl ?_
      refine op_conv64 (nxsf rfl rfl rfl) (und_some Try.underlying80) Try.underlying27 rfl (by first | rfl | exact (Int.toNat_of_nonneg (by omega)).symm) rfl ?_
      refine op_move (nxsf rfl rfl rfl) rfl rfl ?_
      refine op_move (nxsf rfl rfl rfl) rfl rfl ?_
      refine op_idx1 (nxsf rfl rfl rfl) se43 rfl rfl hb (show _ = (((k : Nat)) : Int) from by omega) (by omega) rfl ?_
      refine op_loadE (nxsf rfl rfl rfl) sc80 rfl hb (by first | exact get8 (by omega) | exact get64 (by omega) | exact get32 (by omega)) (by first | exact mem0 | exact mem1 | exact mem2 | exact mem3 | exact mem4 | exact mem5 | exact mem6 | exact mem7 | exact mem8 | exact mem9) rfl ?_
      refine op_conv64 (nxsf rfl rfl rfl) (und_some Try.underlying80) Try.underlying27 rfl (by first | rfl | exact (Int.toNat_of_nonneg (by omega)).symm) rfl ?_
      refine op_mulU (nxsf rfl rfl rfl) rfl rfl rfl ?_
      refine op_move (nxsf rfl rfl rfl) rfl rfl ?_
      refine op_move (nxsf rfl rfl rfl) rfl rfl ?_
      refine op_move (nxsf rfl rfl rfl) rfl rfl ?_
      refine op_addI (nxsf rfl rfl rfl) rfl rfl (by omega) (by omega) rfl ?_
      refine op_idx1 (nxsf rfl rfl rfl) se43 rfl rfl s15 (show _ = (((i + k : Nat)) : Int) from by omega) (by omega) rfl ?_
      refine op_loadE (nxsf rfl rfl rfl) sc80 rfl s15 (by first | exact get8 (by omega) | exact get64 (by omega) | exact get32 (by omega)) (by first | exact mem0 | exact mem1 | exact mem2 | exact mem3 | exact mem4 | exact mem5 | exact mem6 | exact mem7 | exact mem8 | exact mem9) rfl ?_
      rw [getD_app (p := p) (j := i + k) (by omega)]
      refine op_conv64 (nxsf rfl rfl rfl) (und_some Try.underlying80) Try.underlying27 rfl (by first | rfl | exact (Int.toNat_of_nonneg (by omega)).symm) rfl ?_
      refine op_addU (nxsf rfl rfl rfl) rfl rfl rfl ?_
      refine op_move (nxsf rfl rfl rfl) rfl rfl ?_
      refine op_addU (nxsf rfl rfl rfl) rfl rfl rfl ?_
      refine op_assign (nxsf rfl rfl rfl) rfl rfl ?_
      refine At.sNil ?_
      obtain ⟨hm1, hm2⟩ := mul64n (a := UInt64.ofNat (a.getD i 0).toNat) (b := UInt64.ofNat (b.getD k 0).toNat) (by rw [of32]; exact dlt _ _) (by rw [of32]; exact dlt _ _)
      rw [of32, of32] at hm1 hm2
      have hpk := dlt p (i + k)
      have hs : (UInt64.ofNat (a.getD i 0).toNat * UInt64.ofNat (b.getD k 0).toNat + UInt64.ofNat (p.getD (i + k) 0).toNat + c).toNat = (a.getD i 0).toNat * (b.getD k 0).toNat + (p.getD (i + k) 0).toNat + c.toNat := by
        have e1 : (UInt64.ofNat (a.getD i 0).toNat * UInt64.ofNat (b.getD k 0).toNat + UInt64.ofNat (p.getD (i + k) 0).toNat).toNat = (a.getD i 0).toNat * (b.getD k 0).toNat + (p.getD (i + k) 0).toNat := by
          rw [add64n (by rw [hm1, of32]; omega), hm1, of32]
        rw [add64n (by rw [e1]; omega), e1]
      generalize UInt64.ofNat (a.getD i 0).toNat * UInt64.ofNat (b.getD k 0).toNat + UInt64.ofNat (p.getD (i + k) 0).toNat + c = s at *
      refine At.norm (hk_14 ?_)
      refine At.seq fun K15 hk_15 => ?_
      refine At.region ?_
      refine op_move (nxlf rfl) rfl rfl ?_
      refine op_move (nxlf rfl) rfl rfl ?_
      refine op_move (nxlf rfl) rfl rfl ?_
      refine op_addI (nxlf rfl) rfl rfl (by omega) (by omega) rfl ?_
      refine op_move (nxlf rfl) rfl rfl ?_
      refine op_conv32 (nxlf rfl) (und_some Try.underlying27) Try.underlying80 rfl (by first | rfl | exact (Int.toNat_of_nonneg (by omega)).symm) rfl ?_
      refine op_idx1 (nxlf rfl) se43 rfl rfl s15 (show _ = (((i + k : Nat)) : Int) from by omega) (by omega) rfl ?_
      refine op_storeE (nxl rfl) sz80 rfl rfl rfl rfl rfl r15 (by simp <;> omega) (by simp) sel0 (fun N15 r15 => ?_)
      simp only [setL] at r15
      rw [set_u32s, List.set_append_left (i + k) _ (show i + k < p.length by omega)] at r15
      change Row N15 _ 1 a15 (n + m) (n + m) (u32s (p.set (i + k) (lo32 s) ++ List.replicate (n - i) 0)) at r15
      have s15 := r15.rsl
      refine At.opsNil ?_
      refine At.norm (hk_15 ?_)
      refine At.region ?_
      refine op_move (nxlf rfl) rfl rfl ?_
      refine op_shrU (nxlf rfl) rfl rfl (show _ = ((32 : Nat) : Int) from rfl) rfl ?_
      refine op_assign (nxlf rfl) rfl rfl ?_
      refine At.opsNil ?_
      refine At.inNorm ?_
      refine At.norm (hk_13 ?_)
      refine At.region ?_
      refine op_move (nxlf rfl) rfl rfl ?_
      refine op_addI (nxlf rfl) rfl rfl (by omega) (by omega) rfl ?_
      refine op_assign (nxlf rfl) rfl rfl ?_
      refine At.opsNil ?_
      refine At.norm ?_
      refine At.back ?_ (.refl _) ⟨k + 1, shr64 s 32, p.set (i + k) (lo32 s), N15, rfl, rfl, rfl, by omega, by simp; omega, carry_lt, mul_round32 (by omega) hv hs, r15⟩ ?_
      · exact .cons (by first | exact lkI rfl (by omega) | rfl) (.cons (by first | exact lkI rfl (by omega) | rfl) (.cons (by first | exact lkI rfl (by omega) | rfl) (.cons (by first | exact lkI rfl (by omega) | rfl) (.cons (by first | exact lkI rfl (by omega) | rfl) (.cons (by first | exact lkI rfl (by omega) | rfl) .nil)))))
      · omega
    · refine At.exit (At.thenExit (At.thenExit (At.inHit ?_)))
      refine At.norm (hk_9 ?_)
      refine At.region ?_
      have hkm : k = m := by omega
      refine op_move (nxlf rfl) rfl rfl ?_
      refine op_move (nxlf rfl) rfl rfl ?_
      refine op_move (nxlf rfl) rfl rfl ?_
      refine op_lenS (nxlf rfl) se43 rfl rfl ?_
      refine op_addI (nxlf rfl) rfl rfl (by omega) (by omega) rfl ?_
      refine op_move (nxlf rfl) rfl rfl ?_
      refine op_conv32 (nxlf rfl) (und_some Try.underlying27) Try.underlying80 rfl (by first | rfl | exact (Int.toNat_of_nonneg (by omega)).symm) rfl ?_
      refine op_idx1 (nxlf rfl) se43 rfl rfl s15 (show _ = (((i + m : Nat)) : Int) from by omega) (by omega) rfl ?_
      refine op_storeE (nxl rfl) sz80 rfl rfl rfl rfl rfl r15 (by simp <;> omega) (by simp) sel0 (fun N15 r15 => ?_)
      simp only [setL] at r15
      rw [set_u32s, set_rep hp (by omega)] at r15
      change Row N15 _ 1 a15 (n + m) (n + m) (u32s (p ++ [lo32 c] ++ List.replicate (n - i - 1) 0)) at r15
      have s15 := r15.rsl
      refine At.opsNil ?_
      refine At.inNorm ?_
      refine At.norm (hk_7 ?_)
      refine At.region ?_
      refine op_move (nxlf rfl) rfl rfl ?_
      refine op_addI (nxlf rfl) rfl rfl (by omega) (by omega) rfl ?_
      refine op_assign (nxlf rfl) rfl rfl ?_
      refine At.opsNil ?_
      refine At.norm ?_
      refine At.back ?_ (.refl _) ⟨i + 1, p ++ [lo32 c], N15, rfl, rfl, rfl, by omega, by simp; omega, by subst hkm; rw [← hbl] at hv hp; exact mul_outer32 hp hc hv, by rw [show n - (i + 1) = n - i - 1 by omega]; exact r15⟩ ?_
      · exact .cons (by first | exact lkI rfl (by omega) | rfl) (.cons (by first | exact lkI rfl (by omega) | rfl) (.cons (by first | exact lkI rfl (by omega) | rfl) (.cons (by first | exact lkI rfl (by omega) | rfl) .nil)))
      · omega
  · refine At.exit (At.thenExit (At.thenExit (At.inHit ?_)))
    refine At.norm (hk_3 ?_)
    refine At.seq fun K16 hk_16 => ?_
    refine At.region ?_
    refine op_move (nxlf rfl) rfl rfl ?_
    have s15 := r15.rsl
    have hin : i = n := by omega
    rw [hin, Nat.sub_self, List.replicate_zero, List.append_nil] at s15
    rw [hin, v32_take_all (by omega)] at hv
    refine op_callA (nxla rfl) (.cons rfl .nil) (trim32_f s15) Try.func48 rfl rfl (by simp) rfl ?_
    rintro v67 L67 ⟨rfl, rfl, t67, l67⟩
    change At _ _ _ [N15, R] _
    refine op_assign (nxlf rfl) rfl rfl ?_
    refine At.opsNil ?_
    refine At.norm (hk_16 ?_)
    refine At.ret (?_)
    refine At.ret1 (L1 := [N15]) rfl (.tmp rfl .nil) (.refl _) (.refl _) ?_
    have h := trim32d s15 t67 l67
    rw [hv] at h ⊢
    exact ⟨N15, a15, _, rfl, rfl, h⟩
end Go.Proofs.Ytbmlhdecnfplaaa
