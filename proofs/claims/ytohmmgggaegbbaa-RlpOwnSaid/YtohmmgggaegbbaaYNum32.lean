/- Plain laws on numbers in digits of 32 bits. No condition. -/
import Derived.Test.YtohmmgggaegbbaaYFromMath
namespace Go.Proofs.Ytohmmgggaegbbaa
set_option linter.unusedVariables false
set_option linter.unusedSimpArgs false
/-! Limbs of 32 bits, the lowest first. -/
def n32 (l : List UInt32) : List Nat := l.map UInt32.toNat
def v32 (l : List UInt32) : Nat := val (2 ^ 32) (n32 l)
theorem n32_lt (l : List UInt32) : ∀ x ∈ n32 l, x < 2 ^ 32 := by
  intro x hx; obtain ⟨y, _, rfl⟩ := List.mem_map.1 hx; exact y.toNat_lt
theorem n32_inj {a b : List UInt32} (h : n32 a = n32 b) : a = b := List.map_inj_right (fun x y e => UInt32.toNat_inj.1 e) |>.1 h
@[simp] theorem length_n32 (l : List UInt32) : (n32 l).length = l.length := by simp [n32]
theorem v32_lt (l : List UInt32) : v32 l < 2 ^ (32 * l.length) := by
  have := val_lt (B := 2 ^ 32) (by decide) (n32_lt l)
  rw [length_n32, ← Nat.pow_mul] at this
  exact this
theorem v32_inj {a b : List UInt32} (hl : a.length = b.length) (h : v32 a = v32 b) : a = b :=
  n32_inj (val_inj (by decide) (by simpa using hl) (n32_lt a) (n32_lt b) h)
/-- So many digs of N. -/
def digsN (k N : Nat) : List UInt32 := (List.range k).map fun i => UInt32.ofNat (N / 2 ^ (32 * i))
@[simp] theorem length_digsN (k N : Nat) : (digsN k N).length = k := by simp [digsN]
theorem n32_digsN (k N : Nat) : n32 (digsN k N) = dig (2 ^ 32) k N := by
  simp only [n32, digsN, dig, List.map_map]
  apply List.map_congr_left
  intro i _
  show (UInt32.ofNat (N / 2 ^ (32 * i))).toNat = _
  rw [UInt32.toNat_ofNat', Nat.pow_mul]
theorem v32_digsN (k N : Nat) : v32 (digsN k N) = N % 2 ^ (32 * k) := by rw [v32, n32_digsN, val_dig, ← Nat.pow_mul]
theorem digsN_v32 (l : List UInt32) : digsN l.length (v32 l) = l := by
  apply n32_inj; rw [n32_digsN, v32, ← length_n32, dig_val (by decide) (n32_lt l)]
theorem eq_digsN {l : List UInt32} {k N : Nat} (hl : l.length = k) (h : v32 l = N) : l = digsN k N := by rw [← hl, ← h, digsN_v32]
/-- The digs of N, no zeros at the end. -/
def digsOf (N : Nat) : List UInt32 := digsN ((bitLen N + 31) / 32) N
theorem digLen_le {N k : Nat} : (bitLen N + 31) / 32 ≤ k ↔ N < 2 ^ (32 * k) := by
  rw [← bitLen_le]; omega
theorem v32_digsOf (N : Nat) : v32 (digsOf N) = N := by
  rw [digsOf, v32_digsN]; exact Nat.mod_eq_of_lt (digLen_le.1 (Nat.le_refl _))
theorem length_digsOf (N : Nat) : (digsOf N).length = (bitLen N + 31) / 32 := by simp [digsOf]
theorem v32_append (a b : List UInt32) : v32 (a ++ b) = v32 a + 2 ^ (32 * a.length) * v32 b := by
  simp only [v32, n32, List.map_append, val_append, List.length_map, ← Nat.pow_mul]
theorem v32_replicate (n : Nat) : v32 (List.replicate n 0) = 0 := by simp [v32, n32, val_replicate]
/-- What is left when the zeros at the end are taken away. -/
theorem trim_eq32 {l : List UInt32} {k : Nat} (hk : k ≤ l.length) (hz : ∀ i (h : i < l.length), k ≤ i → l[i] = 0) (hl : k = 0 ∨ ∃ h : k - 1 < l.length, l[k - 1] ≠ 0) : l.take k = digsOf (v32 l) := by
  have hd : l.drop k = List.replicate (l.length - k) 0 := by
    apply List.ext_getElem (by simp)
    intro i h1 h2
    simp only [List.length_drop] at h1
    simp only [List.getElem_drop, List.getElem_replicate]
    exact hz (k + i) (by omega) (by omega)
  have hv : v32 l = v32 (l.take k) := by
    conv => lhs; rw [← List.take_append_drop k l]
    rw [v32_append, hd, v32_replicate]; simp
  have hlen : (l.take k).length = k := by simp; omega
  refine eq_digsN ?_ hv.symm
  rw [hlen]
  have h1 : v32 l < 2 ^ (32 * k) := by rw [hv]; have := v32_lt (l.take k); rwa [hlen] at this
  have h2 := digLen_le.2 h1
  rcases hl with rfl | ⟨hlt, hne⟩
  · omega
  · by_cases hc : (bitLen (v32 l) + 31) / 32 ≤ k - 1
    · exfalso
      have h3 := digLen_le.1 hc
      have h4 := val_div_mod (B := 2 ^ 32) (by decide) (n32_lt l) (k - 1) (by simpa using hlt)
      have h5 : val (2 ^ 32) (n32 l) / (2 ^ 32) ^ (k - 1) = 0 := by
        rw [← Nat.pow_mul]; exact Nat.div_eq_of_lt h3
      rw [h5] at h4
      simp [n32] at h4
      exact hne (by rw [← UInt32.toNat_inj]; simpa using h4.symm)
    · by_cases h0 : k = 0
      · omega
      · omega

theorem v32_set {a : List UInt32} {i : Nat} {y : UInt32} (h : i < a.length) : v32 (a.set i y) + a[i].toNat * 2 ^ (32 * i) = v32 a + y.toNat * 2 ^ (32 * i) := by
  have := val_set (2 ^ 32) (n32 a) i y.toNat (by simpa using h)
  simp only [v32, n32, List.map_set, List.getElem_map] at this ⊢
  rw [← Nat.pow_mul] at this
  exact this
theorem dig_v32 {a : List UInt32} {i : Nat} (h : i < a.length) : v32 a / 2 ^ (32 * i) % 2 ^ 32 = a[i].toNat := by
  have := val_div_mod (B := 2 ^ 32) (by decide) (n32_lt a) i (by simpa using h)
  rw [← Nat.pow_mul] at this
  simpa [v32, n32] using this
end Go.Proofs.Ytohmmgggaegbbaa
