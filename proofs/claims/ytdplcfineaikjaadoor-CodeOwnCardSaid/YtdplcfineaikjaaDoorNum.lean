/- Plain laws on numbers, their limbs and their bytes. No condition. -/
import Derived.Lib.BitFns
namespace Go.Proofs.YtdplcfineaikjaaDoor
set_option linter.unusedVariables false
set_option linter.unusedSimpArgs false

/-- How many bits a number has. -/
def bitLen (n : Nat) : Nat := if n = 0 then 0 else Nat.log2 n + 1
theorem bitLen_zero : bitLen 0 = 0 := rfl
theorem lt_bitLen (n : Nat) : n < 2 ^ bitLen n := by
  unfold bitLen
  split
  · subst n; decide
  · exact Nat.lt_log2_self
theorem bitLen_le {n k : Nat} : bitLen n ≤ k ↔ n < 2 ^ k := by
  constructor
  · intro h
    exact Nat.lt_of_lt_of_le (lt_bitLen n) (Nat.pow_le_pow_right (by omega) h)
  · intro h
    unfold bitLen
    split
    · omega
    · rename_i h0
      have := (Nat.log2_lt h0).2 h
      omega
theorem bitLen_eq {n k : Nat} (h1 : n < 2 ^ k) (h2 : k = 0 ∨ 2 ^ (k - 1) ≤ n) : bitLen n = k := by
  have a := bitLen_le.2 h1
  rcases h2 with rfl | h2
  · omega
  · by_cases hk : bitLen n ≤ k - 1
    · have := bitLen_le.1 hk; omega
    · omega
theorem bitLen_pos {n : Nat} (h : 0 < n) : 0 < bitLen n := by
  by_cases h0 : bitLen n ≤ 0
  · have := bitLen_le.1 h0; omega
  · omega
theorem bitLen_mono {a b : Nat} (h : a ≤ b) : bitLen a ≤ bitLen b := bitLen_le.2 (Nat.lt_of_le_of_lt h (lt_bitLen b))

theorem libBitLenAux_eq (f : Nat) : ∀ x, x < 2 ^ f → Lib.bitLenAux f x = bitLen x := by
  induction f with
  | zero => intro x h; have : x = 0 := by simpa using h
            subst this; rfl
  | succ f ih =>
    intro x h
    unfold Lib.bitLenAux
    split
    · rename_i h0; subst h0; rfl
    · rename_i h0
      rw [ih (x / 2) (by rw [Nat.pow_succ] at h; omega)]
      symm
      refine bitLen_eq ?_ (.inr ?_)
      · have := lt_bitLen (x / 2)
        rw [Nat.add_comm, Nat.pow_succ]; omega
      · rw [show 1 + bitLen (x / 2) - 1 = bitLen (x / 2) from by omega]
        by_cases h1 : x / 2 = 0
        · rw [h1]; simp [bitLen_zero]; omega
        · have hp := bitLen_pos (n := x / 2) (by omega)
          have : ¬ bitLen (x / 2) ≤ bitLen (x / 2) - 1 := by omega
          rw [bitLen_le] at this
          have e : 2 ^ bitLen (x / 2) = 2 ^ (bitLen (x / 2) - 1) * 2 := by rw [← Nat.pow_succ]; congr 1; omega
          omega
theorem libBitLen_eq {x : Nat} (h : x < 2 ^ 64) : Lib.bitLen x = bitLen x := libBitLenAux_eq 64 x h

/-- The number of digits to base B, the lowest first. -/
def val (B : Nat) : List Nat → Nat
  | [] => 0
  | x :: l => x + B * val B l
theorem val_append (B : Nat) (a b : List Nat) : val B (a ++ b) = val B a + B ^ a.length * val B b := by
  induction a with
  | nil => simp [val]
  | cons x a ih => simp only [List.cons_append, val, ih, List.length_cons, Nat.pow_succ]; rw [Nat.mul_add, Nat.add_assoc, Nat.mul_comm (B ^ a.length) B, Nat.mul_assoc]
theorem val_lt {B : Nat} {l : List Nat} (hB : 0 < B) (h : ∀ x ∈ l, x < B) : val B l < B ^ l.length := by
  induction l with
  | nil => simp [val]
  | cons x l ih =>
    have h1 := ih fun y hy => h y (List.mem_cons_of_mem _ hy)
    have h2 := h x List.mem_cons_self
    simp only [val, List.length_cons, Nat.pow_succ]
    have h3 : B * (val B l + 1) ≤ B * B ^ l.length := Nat.mul_le_mul_left _ h1
    rw [Nat.mul_add, Nat.mul_one] at h3
    rw [Nat.mul_comm (B ^ l.length) B]
    omega
theorem val_div_mod {B : Nat} {l : List Nat} (hB : 0 < B) (h : ∀ x ∈ l, x < B) : ∀ (i : Nat) (hi : i < l.length), val B l / B ^ i % B = l[i] := by
  induction l with
  | nil => intro i hi; simp at hi
  | cons x l ih =>
    intro i hi
    have h2 := h x List.mem_cons_self
    cases i with
    | zero => simp only [val, Nat.pow_zero, Nat.div_one, List.getElem_cons_zero]; rw [Nat.add_mul_mod_self_left]; exact Nat.mod_eq_of_lt h2
    | succ i =>
      simp only [val, List.getElem_cons_succ]
      rw [Nat.pow_succ, Nat.mul_comm (B ^ i) B, ← Nat.div_div_eq_div_mul, Nat.add_mul_div_left _ _ hB, Nat.div_eq_of_lt h2, Nat.zero_add]
      exact ih (fun y hy => h y (List.mem_cons_of_mem _ hy)) i (by simpa using hi)
theorem val_set (B : Nat) : ∀ (l : List Nat) (i y : Nat) (h : i < l.length), val B (l.set i y) + l[i] * B ^ i = val B l + y * B ^ i := by
  intro l
  induction l with
  | nil => intro i y h; simp at h
  | cons x l ih =>
    intro i y h
    cases i with
    | zero => simp only [List.set_cons_zero, val, List.getElem_cons_zero, Nat.pow_zero]; omega
    | succ i =>
      have hlt : i < l.length := by simpa using h
      have := ih i y hlt
      simp only [List.set_cons_succ, val, List.getElem_cons_succ, Nat.pow_succ]
      have e1 : B * val B (l.set i y) + l[i] * (B ^ i * B) = B * (val B (l.set i y) + l[i] * B ^ i) := by rw [Nat.mul_add]; congr 1; rw [← Nat.mul_assoc, Nat.mul_comm]
      have e2 : B * val B l + y * (B ^ i * B) = B * (val B l + y * B ^ i) := by rw [Nat.mul_add]; congr 1; rw [← Nat.mul_assoc, Nat.mul_comm]
      rw [Nat.add_assoc, e1, this, ← e2, Nat.add_assoc]
theorem val_replicate (B n : Nat) : val B (List.replicate n 0) = 0 := by
  induction n with
  | zero => rfl
  | succ n ih => simp [List.replicate_succ, val, ih]
theorem val_inj {B : Nat} (hB : 0 < B) {a b : List Nat} (hl : a.length = b.length) (ha : ∀ x ∈ a, x < B) (hb : ∀ x ∈ b, x < B) (h : val B a = val B b) : a = b := by
  apply List.ext_getElem hl
  intro i h1 h2
  rw [← val_div_mod hB ha i h1, ← val_div_mod hB hb i h2, h]
/-- So many digits of N. -/
def dig (B k N : Nat) : List Nat := (List.range k).map fun i => N / B ^ i % B
@[simp] theorem length_dig (B k N : Nat) : (dig B k N).length = k := by simp [dig]
theorem dig_lt {B : Nat} (hB : 0 < B) (k N : Nat) : ∀ x ∈ dig B k N, x < B := by
  intro x hx; obtain ⟨i, _, rfl⟩ := List.mem_map.1 hx; exact Nat.mod_lt _ hB
theorem dig_succ (B k N : Nat) : dig B (k + 1) N = N % B :: dig B k (N / B) := by
  simp only [dig, List.range_succ_eq_map, List.map_cons, List.map_map, Nat.pow_zero, Nat.div_one]
  congr 1
  apply List.map_congr_left
  intro i _
  simp only [Function.comp]
  rw [Nat.pow_succ, Nat.mul_comm, Nat.div_div_eq_div_mul]
theorem val_dig (B : Nat) : ∀ (k N : Nat), val B (dig B k N) = N % B ^ k := by
  intro k
  induction k with
  | zero => intro N; simp [dig, val, Nat.mod_one]
  | succ k ih =>
    intro N
    rw [dig_succ, val, ih, Nat.pow_succ, Nat.mul_comm (B ^ k) B, Nat.mod_mul]
theorem dig_val {B : Nat} (hB : 0 < B) {l : List Nat} (h : ∀ x ∈ l, x < B) : dig B l.length (val B l) = l := by
  apply List.ext_getElem (by simp)
  intro i h1 h2
  simp only [dig, List.getElem_map, List.getElem_range]
  exact val_div_mod hB h i h2

/-! Limbs of 64 bits, the lowest first. -/
def n64 (l : List UInt64) : List Nat := l.map UInt64.toNat
def v64 (l : List UInt64) : Nat := val (2 ^ 64) (n64 l)
theorem n64_lt (l : List UInt64) : ∀ x ∈ n64 l, x < 2 ^ 64 := by
  intro x hx; obtain ⟨y, _, rfl⟩ := List.mem_map.1 hx; exact y.toNat_lt
theorem n64_inj {a b : List UInt64} (h : n64 a = n64 b) : a = b := List.map_inj_right (fun x y e => UInt64.toNat_inj.1 e) |>.1 h
@[simp] theorem length_n64 (l : List UInt64) : (n64 l).length = l.length := by simp [n64]
theorem v64_lt (l : List UInt64) : v64 l < 2 ^ (64 * l.length) := by
  have := val_lt (B := 2 ^ 64) (by decide) (n64_lt l)
  rw [length_n64, ← Nat.pow_mul] at this
  exact this
theorem v64_inj {a b : List UInt64} (hl : a.length = b.length) (h : v64 a = v64 b) : a = b :=
  n64_inj (val_inj (by decide) (by simpa using hl) (n64_lt a) (n64_lt b) h)
/-- So many limbs of N. -/
def limbsN (k N : Nat) : List UInt64 := (List.range k).map fun i => UInt64.ofNat (N / 2 ^ (64 * i))
@[simp] theorem length_limbsN (k N : Nat) : (limbsN k N).length = k := by simp [limbsN]
theorem n64_limbsN (k N : Nat) : n64 (limbsN k N) = dig (2 ^ 64) k N := by
  simp only [n64, limbsN, dig, List.map_map]
  apply List.map_congr_left
  intro i _
  show (UInt64.ofNat (N / 2 ^ (64 * i))).toNat = _
  rw [UInt64.toNat_ofNat', Nat.pow_mul]
theorem v64_limbsN (k N : Nat) : v64 (limbsN k N) = N % 2 ^ (64 * k) := by rw [v64, n64_limbsN, val_dig, ← Nat.pow_mul]
theorem limbsN_v64 (l : List UInt64) : limbsN l.length (v64 l) = l := by
  apply n64_inj; rw [n64_limbsN, v64, ← length_n64, dig_val (by decide) (n64_lt l)]
theorem eq_limbsN {l : List UInt64} {k N : Nat} (hl : l.length = k) (h : v64 l = N) : l = limbsN k N := by rw [← hl, ← h, limbsN_v64]
/-- The limbs of N, no zeros at the end. -/
def limbsOf (N : Nat) : List UInt64 := limbsN ((bitLen N + 63) / 64) N
theorem limbLen_le {N k : Nat} : (bitLen N + 63) / 64 ≤ k ↔ N < 2 ^ (64 * k) := by
  rw [← bitLen_le]; omega
theorem v64_limbsOf (N : Nat) : v64 (limbsOf N) = N := by
  rw [limbsOf, v64_limbsN]; exact Nat.mod_eq_of_lt (limbLen_le.1 (Nat.le_refl _))
theorem length_limbsOf (N : Nat) : (limbsOf N).length = (bitLen N + 63) / 64 := by simp [limbsOf]
theorem v64_append (a b : List UInt64) : v64 (a ++ b) = v64 a + 2 ^ (64 * a.length) * v64 b := by
  simp only [v64, n64, List.map_append, val_append, List.length_map, ← Nat.pow_mul]
theorem v64_replicate (n : Nat) : v64 (List.replicate n 0) = 0 := by simp [v64, n64, val_replicate]
/-- What is left when the zeros at the end are taken away. -/
theorem trim_eq {l : List UInt64} {k : Nat} (hk : k ≤ l.length) (hz : ∀ i (h : i < l.length), k ≤ i → l[i] = 0) (hl : k = 0 ∨ ∃ h : k - 1 < l.length, l[k - 1] ≠ 0) : l.take k = limbsOf (v64 l) := by
  have hd : l.drop k = List.replicate (l.length - k) 0 := by
    apply List.ext_getElem (by simp)
    intro i h1 h2
    simp only [List.length_drop] at h1
    simp only [List.getElem_drop, List.getElem_replicate]
    exact hz (k + i) (by omega) (by omega)
  have hv : v64 l = v64 (l.take k) := by
    conv => lhs; rw [← List.take_append_drop k l]
    rw [v64_append, hd, v64_replicate]; simp
  have hlen : (l.take k).length = k := by simp; omega
  refine eq_limbsN ?_ hv.symm
  rw [hlen]
  have h1 : v64 l < 2 ^ (64 * k) := by rw [hv]; have := v64_lt (l.take k); rwa [hlen] at this
  have h2 := limbLen_le.2 h1
  rcases hl with rfl | ⟨hlt, hne⟩
  · omega
  · by_cases hc : (bitLen (v64 l) + 63) / 64 ≤ k - 1
    · exfalso
      have h3 := limbLen_le.1 hc
      have h4 := val_div_mod (B := 2 ^ 64) (by decide) (n64_lt l) (k - 1) (by simpa using hlt)
      have h5 : val (2 ^ 64) (n64 l) / (2 ^ 64) ^ (k - 1) = 0 := by
        rw [← Nat.pow_mul]; exact Nat.div_eq_of_lt h3
      rw [h5] at h4
      simp [n64] at h4
      exact hne (by rw [← UInt64.toNat_inj]; simpa using h4.symm)
    · by_cases h0 : k = 0
      · omega
      · omega

/-! Bytes, the highest first. -/
def be (l : List UInt8) : Nat := l.foldl (fun a x => a * 256 + x.toNat) 0
theorem be_foldl (l : List UInt8) : ∀ a, l.foldl (fun a x => a * 256 + x.toNat) a = a * 256 ^ l.length + be l := by
  induction l with
  | nil => intro a; simp [be]
  | cons x l ih =>
    intro a
    simp only [List.foldl_cons, be, List.length_cons, Nat.pow_succ]
    rw [ih, ih (0 * 256 + x.toNat)]
    rw [Nat.zero_mul, Nat.zero_add, Nat.add_mul, Nat.mul_assoc, Nat.mul_comm 256 (256 ^ l.length)]
    omega
theorem be_nil : be [] = 0 := rfl
theorem be_append (a b : List UInt8) : be (a ++ b) = be a * 256 ^ b.length + be b := by
  rw [be, List.foldl_append, be_foldl]; rfl
theorem be_snoc (a : List UInt8) (x : UInt8) : be (a ++ [x]) = be a * 256 + x.toNat := by
  rw [be, List.foldl_append]; rfl
theorem be_cons (x : UInt8) (l : List UInt8) : be (x :: l) = x.toNat * 256 ^ l.length + be l := by
  have := be_append [x] l
  simpa [be] using this
theorem be_lt (l : List UInt8) : be l < 256 ^ l.length := by
  induction l with
  | nil => simp [be]
  | cons x l ih =>
    rw [be_cons, List.length_cons, Nat.pow_succ]
    have hx := x.toNat_lt
    have : (x.toNat + 1) * 256 ^ l.length ≤ 256 * 256 ^ l.length := Nat.mul_le_mul_right _ (by omega)
    rw [Nat.add_mul] at this
    rw [Nat.mul_comm (256 ^ l.length)]
    omega
/-- N in n bytes. -/
def bytesN (n N : Nat) : List UInt8 := (List.range n).map fun i => UInt8.ofNat (N / 256 ^ (n - 1 - i))
@[simp] theorem length_bytesN (n N : Nat) : (bytesN n N).length = n := by simp [bytesN]
theorem bytesN_succ (n N : Nat) : bytesN (n + 1) N = bytesN n (N / 256) ++ [UInt8.ofNat N] := by
  apply List.ext_getElem (by simp)
  intro i h1 h2
  simp only [length_bytesN] at h1
  by_cases hi : i < n
  · rw [List.getElem_append_left (by simpa using hi)]
    simp only [bytesN, List.getElem_map, List.getElem_range]
    rw [Nat.div_div_eq_div_mul, Nat.mul_comm, ← Nat.pow_succ]
    congr 3
    omega
  · have : i = n := by omega
    subst this
    rw [List.getElem_append_right (by simp)]
    simp [bytesN]
theorem be_bytesN (n : Nat) : ∀ N, be (bytesN n N) = N % 256 ^ n := by
  induction n with
  | zero => intro N; simp [bytesN, be, Nat.mod_one]
  | succ n ih =>
    intro N
    rw [bytesN_succ, be_snoc, ih, Nat.pow_succ, Nat.mul_comm (256 ^ n) 256, Nat.mod_mul, UInt8.toNat_ofNat']
    omega
theorem bytesN_be (l : List UInt8) : bytesN l.length (be l) = l := by
  induction h : l.length generalizing l with
  | zero => have : l = [] := List.eq_nil_of_length_eq_zero h
            subst this; rfl
  | succ n ih =>
    rcases List.eq_nil_or_concat l with h0 | ⟨a, x, h0⟩
    · subst h0; simp at h
    · rw [List.concat_eq_append] at h0
      subst h0
      have hx := x.toNat_lt
      rw [bytesN_succ, be_snoc]
      have e1 : (be a * 256 + x.toNat) / 256 = be a := by omega
      have e2 : UInt8.ofNat (be a * 256 + x.toNat) = x := by
        apply UInt8.toNat_inj.1
        rw [UInt8.toNat_ofNat']
        omega
      rw [e1, e2, ih a (by simpa using h)]
theorem be_inj {a b : List UInt8} (hl : a.length = b.length) (h : be a = be b) : a = b := by rw [← bytesN_be a, ← bytesN_be b, hl, h]
/-- The bytes of N, no zeros ahead. -/
def bytesOf (N : Nat) : List UInt8 := bytesN ((bitLen N + 7) / 8) N
theorem byteLen_le {N k : Nat} : (bitLen N + 7) / 8 ≤ k ↔ N < 256 ^ k := by
  rw [show (256 : Nat) = 2 ^ 8 from rfl, ← Nat.pow_mul, ← bitLen_le]; omega
theorem be_bytesOf (N : Nat) : be (bytesOf N) = N := by
  rw [bytesOf, be_bytesN]; exact Nat.mod_eq_of_lt (byteLen_le.1 (Nat.le_refl _))
theorem length_bytesOf (N : Nat) : (bytesOf N).length = (bitLen N + 7) / 8 := by simp [bytesOf]
theorem eq_bytesOf {l : List UInt8} (h : l.head? ≠ some 0) : l = bytesOf (be l) := by
  refine be_inj ?_ (be_bytesOf _).symm
  rw [length_bytesOf]
  have h1 := byteLen_le.2 (be_lt l)
  cases l with
  | nil => rfl
  | cons x l =>
    by_cases hc : (bitLen (be (x :: l)) + 7) / 8 ≤ l.length
    · exfalso
      have h2 := byteLen_le.1 hc
      rw [be_cons] at h2
      have hx : x.toNat ≠ 0 := fun e => h (by simp; exact UInt8.toNat_inj.1 (by simpa using e))
      have : 1 * 256 ^ l.length ≤ x.toNat * 256 ^ l.length := Nat.mul_le_mul_right _ (by omega)
      omega
    · simp only [List.length_cons] at h1 ⊢
      omega
theorem head_bytesOf (N : Nat) : (bytesOf N).head? ≠ some 0 := by
  intro h
  cases hb : bytesOf N with
  | nil => rw [hb] at h; cases h
  | cons x l =>
    rw [hb] at h
    have hx : x = 0 := by simpa using h
    have h1 := be_bytesOf N
    have h2 := length_bytesOf N
    rw [hb, be_cons, hx] at h1
    rw [hb] at h2
    have h3 := be_lt l
    have h4 : N < 256 ^ l.length := by rw [← h1]; simpa using h3
    have := byteLen_le.2 h4
    simp only [List.length_cons] at h2
    omega
end Go.Proofs.YtdplcfineaikjaaDoor
