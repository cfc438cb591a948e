/- Several texts in one: see the remarks ahead of each part. No condition but those told there. -/
import Derived.Lib.BitFns
import Derived.WalkKit
import Derived.Test.YtbmlhdecnfplaaaK2
import Derived.Test.YtbmlhdecnfplaaaK3
/- Plain laws on numbers, their limbs and their bytes. No condition. -/
namespace Go.Proofs.Ytbmlhdecnfplaaa
set_option linter.unusedVariables false
set_option linter.unusedSimpArgs false

/-- How many bits a number has. -/
def bitLen (n : Nat) : Nat := if n = 0 then 0 else Nat.log2 n + 1
theorem bitLen_zero : bitLen 0 = 0 := rfl
theorem lt_bitLen (n : Nat) : n < 2 ^ bitLen n := by
  unfold bitLen
  split
  · subst n; decide
  · exact Nat.lt_log2_self
theorem bitLen_le {n k : Nat} : bitLen n ≤ k ↔ n < 2 ^ k := by
  constructor
  · intro h
    exact Nat.lt_of_lt_of_le (lt_bitLen n) (Nat.pow_le_pow_right (by omega) h)
  · intro h
    unfold bitLen
    split
    · omega
    · rename_i h0
      have := (Nat.log2_lt h0).2 h
      omega
theorem bitLen_eq {n k : Nat} (h1 : n < 2 ^ k) (h2 : k = 0 ∨ 2 ^ (k - 1) ≤ n) : bitLen n = k := by
  have a := bitLen_le.2 h1
  rcases h2 with rfl | h2
  · omega
  · by_cases hk : bitLen n ≤ k - 1
    · have := bitLen_le.1 hk; omega
    · omega
theorem bitLen_pos {n : Nat} (h : 0 < n) : 0 < bitLen n := by
  by_cases h0 : bitLen n ≤ 0
  · have := bitLen_le.1 h0; omega
  · omega
theorem bitLen_mono {a b : Nat} (h : a ≤ b) : bitLen a ≤ bitLen b := bitLen_le.2 (Nat.lt_of_le_of_lt h (lt_bitLen b))

theorem libBitLenAux_eq (f : Nat) : ∀ x, x < 2 ^ f → Lib.bitLenAux f x = bitLen x := by
  induction f with
  | zero => intro x h; have : x = 0 := by simpa using h
            subst this; rfl
  | succ f ih =>
    intro x h
    unfold Lib.bitLenAux
    split
    · rename_i h0; subst h0; rfl
    · rename_i h0
      rw [ih (x / 2) (by rw [Nat.pow_succ] at h; omega)]
      symm
      refine bitLen_eq ?_ (.inr ?_)
      · have := lt_bitLen (x / 2)
        rw [Nat.add_comm, Nat.pow_succ]; omega
      · rw [show 1 + bitLen (x / 2) - 1 = bitLen (x / 2) from by omega]
        by_cases h1 : x / 2 = 0
        · rw [h1]; simp [bitLen_zero]; omega
        · have hp := bitLen_pos (n := x / 2) (by omega)
          have : ¬ bitLen (x / 2) ≤ bitLen (x / 2) - 1 := by omega
          rw [bitLen_le] at this
          have e : 2 ^ bitLen (x / 2) = 2 ^ (bitLen (x / 2) - 1) * 2 := by rw [← Nat.pow_succ]; congr 1; omega
          omega
theorem libBitLen_eq {x : Nat} (h : x < 2 ^ 64) : Lib.bitLen x = bitLen x := libBitLenAux_eq 64 x h

/-- The number of digits to base B, the lowest first. -/
def val (B : Nat) : List Nat → Nat
  | [] => 0
  | x :: l => x + B * val B l
theorem val_append (B : Nat) (a b : List Nat) : val B (a ++ b) = val B a + B ^ a.length * val B b := by
  induction a with
  | nil => simp [val]
  | cons x a ih => simp only [List.cons_append, val, ih, List.length_cons, Nat.pow_succ]; rw [Nat.mul_add, Nat.add_assoc, Nat.mul_comm (B ^ a.length) B, Nat.mul_assoc]
theorem val_lt {B : Nat} {l : List Nat} (hB : 0 < B) (h : ∀ x ∈ l, x < B) : val B l < B ^ l.length := by
  induction l with
  | nil => simp [val]
  | cons x l ih =>
    have h1 := ih fun y hy => h y (List.mem_cons_of_mem _ hy)
    have h2 := h x List.mem_cons_self
    simp only [val, List.length_cons, Nat.pow_succ]
    have h3 : B * (val B l + 1) ≤ B * B ^ l.length := Nat.mul_le_mul_left _ h1
    rw [Nat.mul_add, Nat.mul_one] at h3
    rw [Nat.mul_comm (B ^ l.length) B]
    omega
theorem val_div_mod {B : Nat} {l : List Nat} (hB : 0 < B) (h : ∀ x ∈ l, x < B) : ∀ (i : Nat) (hi : i < l.length), val B l / B ^ i % B = l[i] := by
  induction l with
  | nil => intro i hi; simp at hi
  | cons x l ih =>
    intro i hi
    have h2 := h x List.mem_cons_self
    cases i with
    | zero => simp only [val, Nat.pow_zero, Nat.div_one, List.getElem_cons_zero]; rw [Nat.add_mul_mod_self_left]; exact Nat.mod_eq_of_lt h2
    | succ i =>
      simp only [val, List.getElem_cons_succ]
      rw [Nat.pow_succ, Nat.mul_comm (B ^ i) B, ← Nat.div_div_eq_div_mul, Nat.add_mul_div_left _ _ hB, Nat.div_eq_of_lt h2, Nat.zero_add]
      exact ih (fun y hy => h y (List.mem_cons_of_mem _ hy)) i (by simpa using hi)
theorem val_set (B : Nat) : ∀ (l : List Nat) (i y : Nat) (h : i < l.length), val B (l.set i y) + l[i] * B ^ i = val B l + y * B ^ i := by
  intro l
  induction l with
  | nil => intro i y h; simp at h
  | cons x l ih =>
    intro i y h
    cases i with
    | zero => simp only [List.set_cons_zero, val, List.getElem_cons_zero, Nat.pow_zero]; omega
    | succ i =>
      have hlt : i < l.length := by simpa using h
      have := ih i y hlt
      simp only [List.set_cons_succ, val, List.getElem_cons_succ, Nat.pow_succ]
      have e1 : B * val B (l.set i y) + l[i] * (B ^ i * B) = B * (val B (l.set i y) + l[i] * B ^ i) := by rw [Nat.mul_add]; congr 1; rw [← Nat.mul_assoc, Nat.mul_comm]
      have e2 : B * val B l + y * (B ^ i * B) = B * (val B l + y * B ^ i) := by rw [Nat.mul_add]; congr 1; rw [← Nat.mul_assoc, Nat.mul_comm]
      rw [Nat.add_assoc, e1, this, ← e2, Nat.add_assoc]
theorem val_replicate (B n : Nat) : val B (List.replicate n 0) = 0 := by
  induction n with
  | zero => rfl
  | succ n ih => simp [List.replicate_succ, val, ih]
theorem val_inj {B : Nat} (hB : 0 < B) {a b : List Nat} (hl : a.length = b.length) (ha : ∀ x ∈ a, x < B) (hb : ∀ x ∈ b, x < B) (h : val B a = val B b) : a = b := by
  apply List.ext_getElem hl
  intro i h1 h2
  rw [← val_div_mod hB ha i h1, ← val_div_mod hB hb i h2, h]
/-- So many digits of N. -/
def dig (B k N : Nat) : List Nat := (List.range k).map fun i => N / B ^ i % B
@[simp] theorem length_dig (B k N : Nat) : (dig B k N).length = k := by simp [dig]
theorem dig_lt {B : Nat} (hB : 0 < B) (k N : Nat) : ∀ x ∈ dig B k N, x < B := by
  intro x hx; obtain ⟨i, _, rfl⟩ := List.mem_map.1 hx; exact Nat.mod_lt _ hB
theorem dig_succ (B k N : Nat) : dig B (k + 1) N = N % B :: dig B k (N / B) := by
  simp only [dig, List.range_succ_eq_map, List.map_cons, List.map_map, Nat.pow_zero, Nat.div_one]
  congr 1
  apply List.map_congr_left
  intro i _
  simp only [Function.comp]
  rw [Nat.pow_succ, Nat.mul_comm, Nat.div_div_eq_div_mul]
theorem val_dig (B : Nat) : ∀ (k N : Nat), val B (dig B k N) = N % B ^ k := by
  intro k
  induction k with
  | zero => intro N; simp [dig, val, Nat.mod_one]
  | succ k ih =>
    intro N
    rw [dig_succ, val, ih, Nat.pow_succ, Nat.mul_comm (B ^ k) B, Nat.mod_mul]
theorem dig_val {B : Nat} (hB : 0 < B) {l : List Nat} (h : ∀ x ∈ l, x < B) : dig B l.length (val B l) = l := by
  apply List.ext_getElem (by simp)
  intro i h1 h2
  simp only [dig, List.getElem_map, List.getElem_range]
  exact val_div_mod hB h i h2

/-! Limbs of 64 bits, the lowest first. -/
def n64 (l : List UInt64) : List Nat := l.map UInt64.toNat
def v64 (l : List UInt64) : Nat := val (2 ^ 64) (n64 l)
theorem n64_lt (l : List UInt64) : ∀ x ∈ n64 l, x < 2 ^ 64 := by
  intro x hx; obtain ⟨y, _, rfl⟩ := List.mem_map.1 hx; exact y.toNat_lt
theorem n64_inj {a b : List UInt64} (h : n64 a = n64 b) : a = b := List.map_inj_right (fun x y e => UInt64.toNat_inj.1 e) |>.1 h
@[simp] theorem length_n64 (l : List UInt64) : (n64 l).length = l.length := by simp [n64]
theorem v64_lt (l : List UInt64) : v64 l < 2 ^ (64 * l.length) := by
  have := val_lt (B := 2 ^ 64) (by decide) (n64_lt l)
  rw [length_n64, ← Nat.pow_mul] at this
  exact this
theorem v64_inj {a b : List UInt64} (hl : a.length = b.length) (h : v64 a = v64 b) : a = b :=
  n64_inj (val_inj (by decide) (by simpa using hl) (n64_lt a) (n64_lt b) h)
/-- So many limbs of N. -/
def limbsN (k N : Nat) : List UInt64 := (List.range k).map fun i => UInt64.ofNat (N / 2 ^ (64 * i))
@[simp] theorem length_limbsN (k N : Nat) : (limbsN k N).length = k := by simp [limbsN]
theorem n64_limbsN (k N : Nat) : n64 (limbsN k N) = dig (2 ^ 64) k N := by
  simp only [n64, limbsN, dig, List.map_map]
  apply List.map_congr_left
  intro i _
  show (UInt64.ofNat (N / 2 ^ (64 * i))).toNat = _
  rw [UInt64.toNat_ofNat', Nat.pow_mul]
theorem v64_limbsN (k N : Nat) : v64 (limbsN k N) = N % 2 ^ (64 * k) := by rw [v64, n64_limbsN, val_dig, ← Nat.pow_mul]
theorem limbsN_v64 (l : List UInt64) : limbsN l.length (v64 l) = l := by
  apply n64_inj; rw [n64_limbsN, v64, ← length_n64, dig_val (by decide) (n64_lt l)]
theorem eq_limbsN {l : List UInt64} {k N : Nat} (hl : l.length = k) (h : v64 l = N) : l = limbsN k N := by rw [← hl, ← h, limbsN_v64]
/-- The limbs of N, no zeros at the end. -/
def limbsOf (N : Nat) : List UInt64 := limbsN ((bitLen N + 63) / 64) N
theorem limbLen_le {N k : Nat} : (bitLen N + 63) / 64 ≤ k ↔ N < 2 ^ (64 * k) := by
  rw [← bitLen_le]; omega
theorem v64_limbsOf (N : Nat) : v64 (limbsOf N) = N := by
  rw [limbsOf, v64_limbsN]; exact Nat.mod_eq_of_lt (limbLen_le.1 (Nat.le_refl _))
theorem length_limbsOf (N : Nat) : (limbsOf N).length = (bitLen N + 63) / 64 := by simp [limbsOf]
theorem v64_append (a b : List UInt64) : v64 (a ++ b) = v64 a + 2 ^ (64 * a.length) * v64 b := by
  simp only [v64, n64, List.map_append, val_append, List.length_map, ← Nat.pow_mul]
theorem v64_replicate (n : Nat) : v64 (List.replicate n 0) = 0 := by simp [v64, n64, val_replicate]
/-- What is left when the zeros at the end are taken away. -/
theorem trim_eq {l : List UInt64} {k : Nat} (hk : k ≤ l.length) (hz : ∀ i (h : i < l.length), k ≤ i → l[i] = 0) (hl : k = 0 ∨ ∃ h : k - 1 < l.length, l[k - 1] ≠ 0) : l.take k = limbsOf (v64 l) := by
  have hd : l.drop k = List.replicate (l.length - k) 0 := by
    apply List.ext_getElem (by simp)
    intro i h1 h2
    simp only [List.length_drop] at h1
    simp only [List.getElem_drop, List.getElem_replicate]
    exact hz (k + i) (by omega) (by omega)
  have hv : v64 l = v64 (l.take k) := by
    conv => lhs; rw [← List.take_append_drop k l]
    rw [v64_append, hd, v64_replicate]; simp
  have hlen : (l.take k).length = k := by simp; omega
  refine eq_limbsN ?_ hv.symm
  rw [hlen]
  have h1 : v64 l < 2 ^ (64 * k) := by rw [hv]; have := v64_lt (l.take k); rwa [hlen] at this
  have h2 := limbLen_le.2 h1
  rcases hl with rfl | ⟨hlt, hne⟩
  · omega
  · by_cases hc : (bitLen (v64 l) + 63) / 64 ≤ k - 1
    · exfalso
      have h3 := limbLen_le.1 hc
      have h4 := val_div_mod (B := 2 ^ 64) (by decide) (n64_lt l) (k - 1) (by simpa using hlt)
      have h5 : val (2 ^ 64) (n64 l) / (2 ^ 64) ^ (k - 1) = 0 := by
        rw [← Nat.pow_mul]; exact Nat.div_eq_of_lt h3
      rw [h5] at h4
      simp [n64] at h4
      exact hne (by rw [← UInt64.toNat_inj]; simpa using h4.symm)
    · by_cases h0 : k = 0
      · omega
      · omega

/-! Bytes, the highest first. -/
def be (l : List UInt8) : Nat := l.foldl (fun a x => a * 256 + x.toNat) 0
theorem be_foldl (l : List UInt8) : ∀ a, l.foldl (fun a x => a * 256 + x.toNat) a = a * 256 ^ l.length + be l := by
  induction l with
  | nil => intro a; simp [be]
  | cons x l ih =>
    intro a
    simp only [List.foldl_cons, be, List.length_cons, Nat.pow_succ]
    rw [ih, ih (0 * 256 + x.toNat)]
    rw [Nat.zero_mul, Nat.zero_add, Nat.add_mul, Nat.mul_assoc, Nat.mul_comm 256 (256 ^ l.length)]
    omega
theorem be_nil : be [] = 0 := rfl
theorem be_append (a b : List UInt8) : be (a ++ b) = be a * 256 ^ b.length + be b := by
  rw [be, List.foldl_append, be_foldl]; rfl
theorem be_snoc (a : List UInt8) (x : UInt8) : be (a ++ [x]) = be a * 256 + x.toNat := by
  rw [be, List.foldl_append]; rfl
theorem be_cons (x : UInt8) (l : List UInt8) : be (x :: l) = x.toNat * 256 ^ l.length + be l := by
  have := be_append [x] l
  simpa [be] using this
theorem be_lt (l : List UInt8) : be l < 256 ^ l.length := by
  induction l with
  | nil => simp [be]
  | cons x l ih =>
    rw [be_cons, List.length_cons, Nat.pow_succ]
    have hx := x.toNat_lt
    have : (x.toNat + 1) * 256 ^ l.length ≤ 256 * 256 ^ l.length := Nat.mul_le_mul_right _ (by omega)
    rw [Nat.add_mul] at this
    rw [Nat.mul_comm (256 ^ l.length)]
    omega
/-- N in n bytes. -/
def bytesN (n N : Nat) : List UInt8 := (List.range n).map fun i => UInt8.ofNat (N / 256 ^ (n - 1 - i))
@[simp] theorem length_bytesN (n N : Nat) : (bytesN n N).length = n := by simp [bytesN]
theorem bytesN_succ (n N : Nat) : bytesN (n + 1) N = bytesN n (N / 256) ++ [UInt8.ofNat N] := by
  apply List.ext_getElem (by simp)
  intro i h1 h2
  simp only [length_bytesN] at h1
  by_cases hi : i < n
  · rw [List.getElem_append_left (by simpa using hi)]
    simp only [bytesN, List.getElem_map, List.getElem_range]
    rw [Nat.div_div_eq_div_mul, Nat.mul_comm, ← Nat.pow_succ]
    congr 3
    omega
  · have : i = n := by omega
    subst this
    rw [List.getElem_append_right (by simp)]
    simp [bytesN]
theorem be_bytesN (n : Nat) : ∀ N, be (bytesN n N) = N % 256 ^ n := by
  induction n with
  | zero => intro N; simp [bytesN, be, Nat.mod_one]
  | succ n ih =>
    intro N
    rw [bytesN_succ, be_snoc, ih, Nat.pow_succ, Nat.mul_comm (256 ^ n) 256, Nat.mod_mul, UInt8.toNat_ofNat']
    omega
theorem bytesN_be (l : List UInt8) : bytesN l.length (be l) = l := by
  induction h : l.length generalizing l with
  | zero => have : l = [] := List.eq_nil_of_length_eq_zero h
            subst this; rfl
  | succ n ih =>
    rcases List.eq_nil_or_concat l with h0 | ⟨a, x, h0⟩
    · subst h0; simp at h
    · rw [List.concat_eq_append] at h0
      subst h0
      have hx := x.toNat_lt
      rw [bytesN_succ, be_snoc]
      have e1 : (be a * 256 + x.toNat) / 256 = be a := by omega
      have e2 : UInt8.ofNat (be a * 256 + x.toNat) = x := by
        apply UInt8.toNat_inj.1
        rw [UInt8.toNat_ofNat']
        omega
      rw [e1, e2, ih a (by simpa using h)]
theorem be_inj {a b : List UInt8} (hl : a.length = b.length) (h : be a = be b) : a = b := by rw [← bytesN_be a, ← bytesN_be b, hl, h]
/-- The bytes of N, no zeros ahead. -/
def bytesOf (N : Nat) : List UInt8 := bytesN ((bitLen N + 7) / 8) N
theorem byteLen_le {N k : Nat} : (bitLen N + 7) / 8 ≤ k ↔ N < 256 ^ k := by
  rw [show (256 : Nat) = 2 ^ 8 from rfl, ← Nat.pow_mul, ← bitLen_le]; omega
theorem be_bytesOf (N : Nat) : be (bytesOf N) = N := by
  rw [bytesOf, be_bytesN]; exact Nat.mod_eq_of_lt (byteLen_le.1 (Nat.le_refl _))
theorem length_bytesOf (N : Nat) : (bytesOf N).length = (bitLen N + 7) / 8 := by simp [bytesOf]
theorem eq_bytesOf {l : List UInt8} (h : l.head? ≠ some 0) : l = bytesOf (be l) := by
  refine be_inj ?_ (be_bytesOf _).symm
  rw [length_bytesOf]
  have h1 := byteLen_le.2 (be_lt l)
  cases l with
  | nil => rfl
  | cons x l =>
    by_cases hc : (bitLen (be (x :: l)) + 7) / 8 ≤ l.length
    · exfalso
      have h2 := byteLen_le.1 hc
      rw [be_cons] at h2
      have hx : x.toNat ≠ 0 := fun e => h (by simp; exact UInt8.toNat_inj.1 (by simpa using e))
      have : 1 * 256 ^ l.length ≤ x.toNat * 256 ^ l.length := Nat.mul_le_mul_right _ (by omega)
      omega
    · simp only [List.length_cons] at h1 ⊢
      omega
theorem head_bytesOf (N : Nat) : (bytesOf N).head? ≠ some 0 := by
  intro h
  cases hb : bytesOf N with
  | nil => rw [hb] at h; cases h
  | cons x l =>
    rw [hb] at h
    have hx : x = 0 := by simpa using h
    have h1 := be_bytesOf N
    have h2 := length_bytesOf N
    rw [hb, be_cons, hx] at h1
    rw [hb] at h2
    have h3 := be_lt l
    have h4 : N < 256 ^ l.length := by rw [← h1]; simpa using h3
    have := byteLen_le.2 h4
    simp only [List.length_cons] at h2
    omega
end Go.Proofs.Ytbmlhdecnfplaaa
/- Plain laws on Go's operations on unsigned integers, in the walk's spelling. No condition. -/
namespace Go.Proofs.Ytbmlhdecnfplaaa
set_option linter.unusedVariables false
set_option linter.unusedSimpArgs false
theorem wrap_u64_nat (n : Nat) : IntKind.u64.wrap (n : Int) = ((UInt64.ofNat n).toNat : Int) := by
  rw [IntKind.wrap_u64, UInt64.toNat_ofNat']; omega
theorem wrap_u32_nat (n : Nat) : IntKind.u32.wrap (n : Int) = ((UInt32.ofNat n).toNat : Int) := by
  rw [IntKind.wrap_u32', UInt32.toNat_ofNat']; omega
theorem wrap_u8_nat (n : Nat) : IntKind.u8.wrap (n : Int) = ((UInt8.ofNat n).toNat : Int) := by
  rw [IntKind.wrap_u8', UInt8.toNat_ofNat']; omega
theorem bits_or_u64 (x y : UInt64) : bits .or .u64 (x.toNat : Int) (y.toNat : Int) = ((x ||| y).toNat : Int) := by
  rw [bits_or_u64_nat _ _ x.toNat_lt y.toNat_lt, UInt64.toNat_or]
theorem bits_and_u64 (x y : UInt64) : bits .and .u64 (x.toNat : Int) (y.toNat : Int) = ((x &&& y).toNat : Int) := by
  rw [bits_and_u64_nat _ _ x.toNat_lt y.toNat_lt, UInt64.toNat_and]
theorem bits_xor_u64 (x y : UInt64) : bits .xor .u64 (x.toNat : Int) (y.toNat : Int) = ((x ^^^ y).toNat : Int) := by
  rw [bits_xor_u64_nat _ _ x.toNat_lt y.toNat_lt, UInt64.toNat_xor]
theorem bits_or_u32 (x y : UInt32) : bits .or .u32 (x.toNat : Int) (y.toNat : Int) = ((x ||| y).toNat : Int) := by
  rw [u32_or_nat _ _ x.toNat_lt y.toNat_lt, UInt32.toNat_or]
theorem bits_and_u32 (x y : UInt32) : bits .and .u32 (x.toNat : Int) (y.toNat : Int) = ((x &&& y).toNat : Int) := by
  rw [u32_and_nat _ _ x.toNat_lt y.toNat_lt, UInt32.toNat_and]
end Go.Proofs.Ytbmlhdecnfplaaa
/- The engine, part 2: operations that only compute. For whatever program. No condition. -/
namespace Go.Proofs.Ytbmlhdecnfplaaa
set_option linter.unusedVariables false
set_option linter.unusedSimpArgs false
open Go Go.RowKit

/-- What the operation o gives leads from Y to X: if it leaves the world alone (NxF), if it leaves each block alone (NxA), whatever it does (Nx). -/
def NxF (P : Program) (n : Nat) (l : List (Nat × Value)) (E : World) (L Ls : List Heaplet) (o : Oper) (X Y : Act → World → Prop) : Prop :=
  ∀ a w v, Fr n l a → Hp E L w → (∀ w', Hp E Ls w' → (execOp a.eval o).run P w' = .ok (.value v) w') → Y (a.put o.dst v) w → X a w
def NxA (P : Program) (n : Nat) (l : List (Nat × Value)) (E : World) (L : List Heaplet) (o : Oper) (X Y : Act → World → Prop) : Prop :=
  ∀ a w, Fr n l a → Hp E L w → o.wp P a w (fun a' w' => Agree w w' ∧ Y a' w') (fun _ _ _ => False) → X a w
def Nx (P : Program) (n : Nat) (l : List (Nat × Value)) (E : World) (L : List Heaplet) (o : Oper) (X Y : Act → World → Prop) : Prop :=
  ∀ a w, Fr n l a → Hp E L w → o.wp P a w Y (fun _ _ _ => False) → X a w
section
variable {P : Program} {n : Nat} {l : List (Nat × Value)} {E : World} {L Ls : List Heaplet} {Q : Exit → Act → World → Prop} {ops : Array Oper} {rest : List Oper} {o : Oper} {X Y : Act → World → Prop}
theorem Nx.agree (h : Nx P n l E L o X Y) : NxA P n l E L o X Y := fun a w hf hw hx => h a w hf hw (Oper.wp_mono (fun _ _ h => h.2) hx)
theorem Nx.float (h : Nx P n l E L o X Y) : NxF P n l E L L o X Y := fun a w v hf hw hr hy => h a w hf hw (by unfold Oper.wp; rw [hr w hw]; exact hy)
theorem nxl (hg : o.guard = none) : Nx P n l E L o (wpList P ops Q (o :: rest)) (wpList P ops Q rest) := fun a w _ _ hx =>
  wpList_plain hg fun K hK => upon_carry (fun _ _ h => hK _ _ h) (fun _ _ h => hK _ _ h) hx
theorem nxlf (hg : o.guard = none) : NxF P n l E L L o (wpList P ops Q (o :: rest)) (wpList P ops Q rest) := (nxl hg).float
theorem nxla (hg : o.guard = none) : NxA P n l E L o (wpList P ops Q (o :: rest)) (wpList P ops Q rest) := (nxl hg).agree
theorem wanted_of {j : Nat} {b c : Bool} {oj : Oper} {d : Nat} {a : Act} (hf : Fr n l a) (hg : o.guard = some (j, b)) (hj : ops[j]? = some oj) (hd : oj.dst = some d) (hv : lk l d = some (.bool c)) : Region.wanted o (yielded ops a.tmps) = (c == b) := by
  have := hf.get d _ hv
  simp [Region.wanted, hg, yielded, hj, hd, this]
theorem nxg {j : Nat} {b : Bool} {oj : Oper} {d : Nat} (hg : o.guard = some (j, b)) (hj : ops[j]? = some oj) (hd : oj.dst = some d) (hv : lk l d = some (.bool b)) : Nx P n l E L o (wpList P ops Q (o :: rest)) (wpList P ops Q rest) := fun a w hf hw hx =>
  wpList_step fun K hK => by
    rw [wanted_of hf hg hj hd hv]
    simp only [beq_self_eq_true, if_true]
    exact upon_carry (fun _ _ h => hK _ _ h) (fun _ _ h => hK _ _ h) hx
theorem nxgf {j : Nat} {b : Bool} {oj : Oper} {d : Nat} (hg : o.guard = some (j, b)) (hj : ops[j]? = some oj) (hd : oj.dst = some d) (hv : lk l d = some (.bool b)) : NxF P n l E L L o (wpList P ops Q (o :: rest)) (wpList P ops Q rest) := (nxg hg hj hd hv).float
theorem nxga {j : Nat} {b : Bool} {oj : Oper} {d : Nat} (hg : o.guard = some (j, b)) (hj : ops[j]? = some oj) (hd : oj.dst = some d) (hv : lk l d = some (.bool b)) : NxA P n l E L o (wpList P ops Q (o :: rest)) (wpList P ops Q rest) := (nxg hg hj hd hv).agree
/-- An operation whose guard says no. -/
theorem op_skip {j : Nat} {b c : Bool} {oj : Oper} {d e : Nat} (hg : o.guard = some (j, b)) (hj : ops[j]? = some oj) (hd : oj.dst = some d) (hv : lk l d = some (.bool c)) (hc : (c == b) = false) (he : o.dst = some e) (hn : Nat.ble (e + 1) n = true)
    (h : At n ((e, undef) :: l) E L (wpList P ops Q rest)) : At n l E L (wpList P ops Q (o :: rest)) := fun a w hf hw =>
  wpList_step fun K hK => by
    rw [wanted_of hf hg hj hd hv, hc]
    simp only [Bool.false_eq_true, if_false]
    rw [he]
    exact hK _ _ (h _ _ (hf.put (Nat.le_of_ble_eq_true hn)) hw)
/-- Part by the value of a slot that holds a bool. -/
theorem At.part {d : Nat} {b : Bool} {K : Act → World → Prop} (hv : lk l d = some (.bool b)) (ht : b = true → At n ((d, .bool true) :: l) E L K) (hf : b = false → At n ((d, .bool false) :: l) E L K) : At n l E L K := fun a w h hw => by
  have key : ∀ i v, lk ((d, .bool b) :: l) i = some v → lk l i = some v := fun i v hi => by
    unfold lk at hi
    by_cases e : d = i
    · subst e; simp at hi; subst hi; exact hv
    · rw [beq_no e] at hi; exact hi
  cases b with
  | true => exact ht rfl a w ⟨h.defers, h.size, fun i v hi => h.get i v (key i v hi)⟩ hw
  | false => exact hf rfl a w ⟨h.defers, h.size, fun i v hi => h.get i v (key i v hi)⟩ hw
theorem At.partP {d : Nat} {p : Prop} [Decidable p] {K : Act → World → Prop} (hv : lk l d = some (.bool (decide p))) (ht : p → At n ((d, .bool true) :: l) E L K) (hf : ¬ p → At n ((d, .bool false) :: l) E L K) : At n l E L K :=
  At.part hv (fun e => ht (of_decide_eq_true e)) (fun e => hf (of_decide_eq_false e))

/-! A region that draws its order. -/
variable {sink : Nat → Bool} {i : Nat} {is : List Nat}
theorem floatOK_congr {op : Op} {ρ ρ' : Operand → Value} (h : ∀ x ∈ op.operands, ρ x = ρ' x) : floatOK P op ρ = floatOK P op ρ' := by
  cases op <;> simp only [floatOK]
  case nilCheck x => rw [h x (by simp [Op.operands])]
  case binOp op t x y t' => rw [h x (by simp [Op.operands]), h y (by simp [Op.operands])]
  case convert s d x => rw [h x (by simp [Op.operands])]
  case call c =>
    split
    · have : c.args.toList.map ρ = c.args.toList.map ρ' := by
        refine List.map_congr_left fun x hx => h x ?_
        simp [Op.operands, Call.operands]
        exact .inr (Array.mem_toList_iff.1 hx)
      rw [this]
    · rfl
/-- The operands' values are known, and with them the operation floats. -/
def okB (P : Program) (l : List (Nat × Value)) (op : Op) : Bool := op.operands.all (fun x => (ev l x).isSome) && floatOK P op (fun x => (ev l x).getD undef)
theorem okB_spec {op : Op} (h : okB P l op = true) {a : Act} (hf : Fr n l a) : floatOK P op a.eval = true := by
  unfold okB at h
  rw [Bool.and_eq_true] at h
  rw [← h.2]
  refine floatOK_congr fun x hx => ?_
  have := Array.all_eq_true_iff_forall_mem.1 h.1 x hx
  obtain ⟨v, hv⟩ := Option.isSome_iff_exists.1 this
  rw [hf.eval hv, hv]; rfl
theorem nxof (ho : ops[i]? = some o) (hf : floats o.op = true) (hg : o.guard = none) (hok : okB P l o.op = true) : NxF P n l E L L o (wpOne P ops sink Q (i :: is)) (wpOne P ops sink Q is) := fun a w v hfr hw_ hr hy =>
  wpOne_float ho hf (by simp [Region.wanted, hg]) (okB_spec hok hfr) fun K hK => by unfold Oper.wp; rw [hr w hw_]; exact hK _ _ hy
theorem nxos (ho : ops[i]? = some o) (hf : floats o.op = false) (hs : sink i = true) (hg : o.guard = none) : Nx P n l E L o (wpOne P ops sink Q (i :: is)) (wpOne P ops sink Q is) := fun a w _ _ hx =>
  wpOne_sink ho hf hs (by simp [Region.wanted, hg]) fun K hK => Oper.wp_mono (fun _ _ h => hK _ _ h) hx
theorem nxosa (ho : ops[i]? = some o) (hf : floats o.op = false) (hs : sink i = true) (hg : o.guard = none) : NxA P n l E L o (wpOne P ops sink Q (i :: is)) (wpOne P ops sink Q is) := (nxos ho hf hs hg).agree
theorem nxoa (ho : ops[i]? = some o) (hf : floats o.op = false) (hg : o.guard = none) : NxA P n l E L o (wpOne P ops sink Q (i :: is)) (wpOne P ops sink Q is) := fun a w _ _ hx =>
  wpOne_act ho hf (by simp [Region.wanted, hg]) fun K hK => Oper.wp_mono (fun _ _ h => hK _ _ h) hx
theorem nxogf {j : Nat} {b : Bool} {oj : Oper} {d : Nat} (ho : ops[i]? = some o) (hf : floats o.op = true) (hg : o.guard = some (j, b)) (hj : ops[j]? = some oj) (hd : oj.dst = some d) (hv : lk l d = some (.bool b)) (hok : okB P l o.op = true) : NxF P n l E L L o (wpOne P ops sink Q (i :: is)) (wpOne P ops sink Q is) := fun a w v hfr hw_ hr hy =>
  wpOne_float ho hf (by rw [wanted_of hfr hg hj hd hv]; simp) (okB_spec hok hfr) fun K hK => by unfold Oper.wp; rw [hr w hw_]; exact hK _ _ hy
theorem nxogs {j : Nat} {b : Bool} {oj : Oper} {d : Nat} (ho : ops[i]? = some o) (hf : floats o.op = false) (hs : sink i = true) (hg : o.guard = some (j, b)) (hj : ops[j]? = some oj) (hd : oj.dst = some d) (hv : lk l d = some (.bool b)) : Nx P n l E L o (wpOne P ops sink Q (i :: is)) (wpOne P ops sink Q is) := fun a w hfr _ hx =>
  wpOne_sink ho hf hs (by rw [wanted_of hfr hg hj hd hv]; simp) fun K hK => Oper.wp_mono (fun _ _ h => hK _ _ h) hx
theorem nxoga {j : Nat} {b : Bool} {oj : Oper} {d : Nat} (ho : ops[i]? = some o) (hf : floats o.op = false) (hg : o.guard = some (j, b)) (hj : ops[j]? = some oj) (hd : oj.dst = some d) (hv : lk l d = some (.bool b)) : NxA P n l E L o (wpOne P ops sink Q (i :: is)) (wpOne P ops sink Q is) := fun a w hfr _ hx =>
  wpOne_act ho hf (by rw [wanted_of hfr hg hj hd hv]; simp) fun K hK => Oper.wp_mono (fun _ _ h => hK _ _ h) hx
theorem op_oskip {j : Nat} {b c : Bool} {oj : Oper} {d e : Nat} (ho : ops[i]? = some o) (hg : o.guard = some (j, b)) (hj : ops[j]? = some oj) (hd : oj.dst = some d) (hv : lk l d = some (.bool c)) (hc : (c == b) = false) (he : o.dst = some e) (hn : Nat.ble (e + 1) n = true)
    (h : At n ((e, undef) :: l) E L (wpOne P ops sink Q is)) : At n l E L (wpOne P ops sink Q (i :: is)) := fun a w hf hw =>
  wpOne_skip ho (by rw [wanted_of hf hg hj hd hv, hc]) (by rw [he]; exact h _ _ (hf.put (Nat.le_of_ble_eq_true hn)) hw)

/-! A region that draws its order, in which some heaplets stay as they are. -/
theorem At.drawnS {id : Nat} {ops : List Oper} (Lst : List Heaplet) (snk pl ord : List Nat) (hm : P.follows .mixedOrders = true) (hB : St.oneSB .any ops.toArray snk pl ord = true) (hs : Lst.Sublist L)
    (h : At n l E L (St.wpOne P ops.toArray (Hp E Lst) (fun i => snk.contains i) Q ord)) : At n l E L ((Code.region id ops.toArray true).wp P Q) := fun a w hf hw => St.wp_one snk pl ord hm hB (hw.drew.drop hs) (h a w.drew hf hw.drew)
theorem At.sNil {S : World → Prop} (h : At n l E L (Q .normal)) : At n l E L (St.wpOne P ops S sink Q []) := h
theorem At.andS {Lst : List Heaplet} {Y : Act → World → Prop} (hs : Lst.Sublist L) (h : At n l E L Y) : At n l E L (fun a w => Hp E Lst w ∧ Y a w) := fun a w hf hw => ⟨hw.drop hs, h a w hf hw⟩
variable {Lst : List Heaplet}
theorem nxsf (ho : ops[i]? = some o) (hf : floats o.op = true) (hg : o.guard = none) : NxF P n l E L Lst o (St.wpOne P ops (Hp E Lst) sink Q (i :: is)) (St.wpOne P ops (Hp E Lst) sink Q is) := fun a w v hfr hw hr hy =>
  St.wpOne_float ho hf (by simp [Region.wanted, hg]) hr hy
theorem nxsgf {j : Nat} {b : Bool} {oj : Oper} {d : Nat} (ho : ops[i]? = some o) (hf : floats o.op = true) (hg : o.guard = some (j, b)) (hj : ops[j]? = some oj) (hd : oj.dst = some d) (hv : lk l d = some (.bool b)) : NxF P n l E L Lst o (St.wpOne P ops (Hp E Lst) sink Q (i :: is)) (St.wpOne P ops (Hp E Lst) sink Q is) := fun a w v hfr hw hr hy =>
  St.wpOne_float ho hf (by rw [wanted_of hfr hg hj hd hv]; simp) hr hy
theorem nxsa (ho : ops[i]? = some o) (hf : floats o.op = false) (hg : o.guard = none) : Nx P n l E L o (St.wpOne P ops (Hp E Lst) sink Q (i :: is)) (fun a w => Hp E Lst w ∧ St.wpOne P ops (Hp E Lst) sink Q is a w) := fun a w hfr hw hx =>
  St.wpOne_act ho hf (by simp [Region.wanted, hg]) hx
theorem nxsga {j : Nat} {b : Bool} {oj : Oper} {d : Nat} (ho : ops[i]? = some o) (hf : floats o.op = false) (hg : o.guard = some (j, b)) (hj : ops[j]? = some oj) (hd : oj.dst = some d) (hv : lk l d = some (.bool b)) : Nx P n l E L o (St.wpOne P ops (Hp E Lst) sink Q (i :: is)) (fun a w => Hp E Lst w ∧ St.wpOne P ops (Hp E Lst) sink Q is a w) := fun a w hfr hw hx =>
  St.wpOne_act ho hf (by rw [wanted_of hfr hg hj hd hv]; simp) hx
theorem nxsl (ho : ops[i]? = some o) (hf : floats o.op = false) (hs : sink i = true) (hg : o.guard = none) : Nx P n l E L o (St.wpOne P ops (Hp E Lst) sink Q [i]) (St.wpOne P ops (Hp E Lst) sink Q []) := fun a w hfr hw hx =>
  St.wpOne_last ho hf hs (by simp [Region.wanted, hg]) hx
theorem nxss (ho : ops[i]? = some o) (hf : floats o.op = false) (hs : sink i = true) (hg : o.guard = none) : Nx P n l E L o (St.wpOne P ops (Hp E Lst) sink Q (i :: is)) (fun a w => ∃ S' : World → Prop, S' w ∧ St.wpOne P ops S' sink Q is a w) := fun a w hfr hw hx =>
  St.wpOne_sink ho hf hs (by simp [Region.wanted, hg]) hx
theorem nxsgs {j : Nat} {b : Bool} {oj : Oper} {d : Nat} (ho : ops[i]? = some o) (hf : floats o.op = false) (hs : sink i = true) (hg : o.guard = some (j, b)) (hj : ops[j]? = some oj) (hd : oj.dst = some d) (hv : lk l d = some (.bool b)) : Nx P n l E L o (St.wpOne P ops (Hp E Lst) sink Q (i :: is)) (fun a w => ∃ S' : World → Prop, S' w ∧ St.wpOne P ops S' sink Q is a w) := fun a w hfr hw hx =>
  St.wpOne_sink ho hf hs (by rw [wanted_of hfr hg hj hd hv]; simp) hx
theorem nxsm (ho : ops[i]? = some o) (hf : floats o.op = false) (hg : o.guard = none) : Nx P n l E L o (St.wpOne P ops (Hp E Lst) sink Q (i :: is)) (fun a w => ∃ S' : World → Prop, (∀ u, S' u → Hp E Lst u) ∧ S' w ∧ St.wpOne P ops S' sink Q is a w) := fun a w hfr hw hx =>
  St.wpOne_more ho hf (by simp [Region.wanted, hg]) hx
theorem nxsgm {j : Nat} {b : Bool} {oj : Oper} {d : Nat} (ho : ops[i]? = some o) (hf : floats o.op = false) (hg : o.guard = some (j, b)) (hj : ops[j]? = some oj) (hd : oj.dst = some d) (hv : lk l d = some (.bool b)) : Nx P n l E L o (St.wpOne P ops (Hp E Lst) sink Q (i :: is)) (fun a w => ∃ S' : World → Prop, (∀ u, S' u → Hp E Lst u) ∧ S' w ∧ St.wpOne P ops S' sink Q is a w) := fun a w hfr hw hx =>
  St.wpOne_more ho hf (by rw [wanted_of hfr hg hj hd hv]; simp) hx
theorem At.moreS {Lst Lst' : List Heaplet} (h1 : Lst.Sublist Lst') (hs : Lst'.Sublist L) (h : At n l E L (St.wpOne P ops (Hp E Lst') sink Q is)) : At n l E L (fun a w => ∃ S' : World → Prop, (∀ u, S' u → Hp E Lst u) ∧ S' w ∧ St.wpOne P ops S' sink Q is a w) := fun a w hf hw => ⟨Hp E Lst', fun _ hu => hu.drop h1, hw.drop hs, h a w hf hw⟩
theorem At.anyS {Lst : List Heaplet} (hs : Lst.Sublist L) (h : At n l E L (St.wpOne P ops (Hp E Lst) sink Q is)) : At n l E L (fun a w => ∃ S' : World → Prop, S' w ∧ St.wpOne P ops S' sink Q is a w) := fun a w hf hw => ⟨Hp E Lst, hw.drop hs, h a w hf hw⟩
/-! A region that draws its order, by a plan. -/
theorem At.planS {id : Nat} {ops : List Oper} (Lst : List Heaplet) (p : Plan) (hm : P.follows .mixedOrders = true) (hB : planOKB .any ops.toArray p = true) (hs : Lst.Sublist L)
    (h : At n l E L (St.wpPlan P ops.toArray (Hp E Lst) Q p)) : At n l E L ((Code.region id ops.toArray true).wp P Q) := fun a w hf hw => St.wp_plan p hm hB (hw.drew.drop hs) (h a w.drew hf hw.drew)
theorem At.pDone {S : World → Prop} (h : At n l E L (Q .normal)) : At n l E L (St.wpPlan P ops S Q .done) := h
theorem At.pNo {S : World → Prop} : At n l E L (St.wpPlan P ops S Q .nofork) := fun _ _ _ _ => trivial
theorem At.fork {S : World → Prop} {i : Nat} {snk : Bool} {p rest : Plan} (h : At n l E L (St.wpFork P ops S Q i snk p)) (hr : At n l E L (St.wpPlan P ops S Q rest)) : At n l E L (St.wpPlan P ops S Q (.fork i snk p rest)) := fun a w hf hw => St.wpPlan_fork (h a w hf hw) (hr a w hf hw)
variable {pl : Plan} {snk : Bool}
theorem nxpf (ho : ops[i]? = some o) (hg : o.guard = none) : NxF P n l E L Lst o (St.wpPlan P ops (Hp E Lst) Q (.take i pl)) (St.wpPlan P ops (Hp E Lst) Q pl) := fun a w v hfr hw hr hy =>
  St.wpPlan_take ho (by simp [Region.wanted, hg]) hr hy
theorem nxpgf {j : Nat} {b : Bool} {oj : Oper} {d : Nat} (ho : ops[i]? = some o) (hg : o.guard = some (j, b)) (hj : ops[j]? = some oj) (hd : oj.dst = some d) (hv : lk l d = some (.bool b)) : NxF P n l E L Lst o (St.wpPlan P ops (Hp E Lst) Q (.take i pl)) (St.wpPlan P ops (Hp E Lst) Q pl) := fun a w v hfr hw hr hy =>
  St.wpPlan_take ho (by rw [wanted_of hfr hg hj hd hv]; simp) hr hy
theorem nxpa (ho : ops[i]? = some o) (hg : o.guard = none) : Nx P n l E L o (St.wpFork P ops (Hp E Lst) Q i snk pl) (fun a w => Hp E Lst w ∧ St.wpPlan P ops (Hp E Lst) Q pl a w) := fun a w hfr hw hx =>
  St.wpFork_act ho (by simp [Region.wanted, hg]) hx
theorem nxpga {j : Nat} {b : Bool} {oj : Oper} {d : Nat} (ho : ops[i]? = some o) (hg : o.guard = some (j, b)) (hj : ops[j]? = some oj) (hd : oj.dst = some d) (hv : lk l d = some (.bool b)) : Nx P n l E L o (St.wpFork P ops (Hp E Lst) Q i snk pl) (fun a w => Hp E Lst w ∧ St.wpPlan P ops (Hp E Lst) Q pl a w) := fun a w hfr hw hx =>
  St.wpFork_act ho (by rw [wanted_of hfr hg hj hd hv]; simp) hx
theorem nxpl (ho : ops[i]? = some o) (hg : o.guard = none) : Nx P n l E L o (St.wpFork P ops (Hp E Lst) Q i true .done) (St.wpPlan P ops (Hp E Lst) Q .done) := fun a w hfr hw hx =>
  St.wpFork_last ho (by simp [Region.wanted, hg]) hx
theorem op_pskip {S : World → Prop} {j : Nat} {b c : Bool} {oj : Oper} {d e : Nat} (ho : ops[i]? = some o) (hg : o.guard = some (j, b)) (hj : ops[j]? = some oj) (hd : oj.dst = some d) (hv : lk l d = some (.bool c)) (hc : (c == b) = false) (he : o.dst = some e) (hn : Nat.ble (e + 1) n = true)
    (h : At n ((e, undef) :: l) E L (St.wpPlan P ops S Q pl)) : At n l E L (St.wpPlan P ops S Q (.take i pl)) := fun a w hf hw =>
  St.wpPlan_skip ho (by rw [wanted_of hf hg hj hd hv, hc]) (by rw [he]; exact h _ _ (hf.put (Nat.le_of_ble_eq_true hn)) hw)
theorem op_ppass {S : World → Prop} {j : Nat} {b c : Bool} {oj : Oper} {d e : Nat} (ho : ops[i]? = some o) (hg : o.guard = some (j, b)) (hj : ops[j]? = some oj) (hd : oj.dst = some d) (hv : lk l d = some (.bool c)) (hc : (c == b) = false) (he : o.dst = some e) (hn : Nat.ble (e + 1) n = true)
    (h : At n ((e, undef) :: l) E L (St.wpPlan P ops S Q pl)) : At n l E L (St.wpFork P ops S Q i snk pl) := fun a w hf hw =>
  St.wpFork_pass ho (by rw [wanted_of hf hg hj hd hv, hc]) (by rw [he]; exact h _ _ (hf.put (Nat.le_of_ble_eq_true hn)) hw)
theorem op_sskip {S : World → Prop} {j : Nat} {b c : Bool} {oj : Oper} {d e : Nat} (ho : ops[i]? = some o) (hg : o.guard = some (j, b)) (hj : ops[j]? = some oj) (hd : oj.dst = some d) (hv : lk l d = some (.bool c)) (hc : (c == b) = false) (he : o.dst = some e) (hn : Nat.ble (e + 1) n = true)
    (h : At n ((e, undef) :: l) E L (St.wpOne P ops S sink Q is)) : At n l E L (St.wpOne P ops S sink Q (i :: is)) := fun a w hf hw =>
  St.wpOne_skip ho (by rw [wanted_of hf hg hj hd hv, hc]) (by rw [he]; exact h _ _ (hf.put (Nat.le_of_ble_eq_true hn)) hw)

/-! Operations that give a value and leave the world alone. -/
section
variable {d : Nat} {ty t t' : TypeId} {pos : String} {aft : Array Edge} {g : Option (Nat × Bool)} {v : Value} {x y z : Operand}
theorem op_val (s : NxF P n l E L Ls o X Y) (hr : ∀ a w, Fr n l a → Hp E Ls w → (execOp a.eval o).run P w = .ok (.value v) w) (hd : o.dst = some d) (hn : Nat.ble (d + 1) n = true) (h : At n ((d, v) :: l) E L Y) : At n l E L X := fun a w hf hw =>
  s a w v hf hw (fun w' hw' => hr a w' hf hw') (by rw [hd]; exact h _ _ (hf.put (Nat.le_of_ble_eq_true hn)) hw)
theorem op_move (s : NxF P n l E L Ls ⟨some d, .move x, ty, pos, aft, g⟩ X Y) (hx : ev l x = some v) (hn : Nat.ble (d + 1) n = true) (h : At n ((d, v) :: l) E L Y) : At n l E L X :=
  op_val s (fun a w hf _ => by simp [execOp, hf.eval hx]) rfl hn h
theorem op_assign (s : NxF P n l E L Ls ⟨some d, .assign x, ty, pos, aft, g⟩ X Y) (hx : ev l x = some v) (hn : Nat.ble (d + 1) n = true) (h : At n ((d, v) :: l) E L Y) : At n l E L X :=
  op_val s (fun a w hf _ => by simp [execOp, hf.eval hx]) rfl hn h
theorem op_pickT (s : NxF P n l E L Ls ⟨some d, .pick z x y, ty, pos, aft, g⟩ X Y) (hz : ev l z = some (.bool true)) (hx : ev l x = some v) (hn : Nat.ble (d + 1) n = true) (h : At n ((d, v) :: l) E L Y) : At n l E L X :=
  op_val s (fun a w hf _ => by simp [execOp, hf.eval hz, hf.eval hx, asBool]) rfl hn h
theorem op_pickF (s : NxF P n l E L Ls ⟨some d, .pick z x y, ty, pos, aft, g⟩ X Y) (hz : ev l z = some (.bool false)) (hx : ev l y = some v) (hn : Nat.ble (d + 1) n = true) (h : At n ((d, v) :: l) E L Y) : At n l E L X :=
  op_val s (fun a w hf _ => by simp [execOp, hf.eval hz, hf.eval hx, asBool]) rfl hn h
theorem op_bin {op : BinOp} {vx vy : Value} (s : NxF P n l E L Ls ⟨some d, .binOp op t x y t', ty, pos, aft, g⟩ X Y) (hx : ev l x = some vx) (hy : ev l y = some vy) (hg : ∀ w, (eqGuard op t x y vx vy).run P w = .ok () w) (hr : ∀ w, (binOp op t vx vy).run P w = .ok v w) (hn : Nat.ble (d + 1) n = true) (h : At n ((d, v) :: l) E L Y) : At n l E L X :=
  op_val s (fun a w hf _ => by
    have e : (execOp a.eval ⟨some d, .binOp op t x y t', ty, pos, aft, g⟩) = (do let v ← (do eqGuard op t x y (a.eval x) (a.eval y); binOp op t (a.eval x) (a.eval y)); pure (.value v) : Sem Next) := rfl
    rw [e, hf.eval hx, hf.eval hy, Sem.run_bind, Sem.run_bind, hg w]
    simp [hr]) rfl hn h
theorem eqGuard_int {op : BinOp} {k k' : IntKind} {p q : Int} (w : World) : (eqGuard op t x y (.int k p) (.int k' q)).run P w = .ok () w := by
  unfold eqGuard
  by_cases h : (!(op matches .eql | .neq)) = true <;> simp [h]
variable {k : IntKind} {p q : Int}
theorem op_int {op : BinOp} (s : NxF P n l E L Ls ⟨some d, .binOp op t x y t', ty, pos, aft, g⟩ X Y) (hx : ev l x = some (.int k p)) (hy : ev l y = some (.int k q)) (hr : ∀ w, (binOp op t (.int k p) (.int k q)).run P w = .ok v w) (hn : Nat.ble (d + 1) n = true) (h : At n ((d, v) :: l) E L Y) : At n l E L X :=
  op_bin s hx hy (fun w => eqGuard_int w) hr hn h
theorem op_sh {op : BinOp} {k' : IntKind} (s : NxF P n l E L Ls ⟨some d, .binOp op t x y t', ty, pos, aft, g⟩ X Y) (hx : ev l x = some (.int k p)) (hy : ev l y = some (.int k' q)) (hr : ∀ w, (binOp op t (.int k p) (.int k' q)).run P w = .ok v w) (hn : Nat.ble (d + 1) n = true) (h : At n ((d, v) :: l) E L Y) : At n l E L X :=
  op_bin s hx hy (fun w => eqGuard_int w) hr hn h
/-! comparisons of integers of whatever kind -/
theorem op_eql (s : NxF P n l E L Ls ⟨some d, .binOp .eql t x y t', ty, pos, aft, g⟩ X Y) (hx : ev l x = some (.int k p)) (hy : ev l y = some (.int k q)) (hn : Nat.ble (d + 1) n = true) (h : At n ((d, .bool (decide (p = q))) :: l) E L Y) : At n l E L X :=
  op_int s hx hy (fun w => by simp [binOp, Op.intCmp]; rfl) hn h
theorem op_neq (s : NxF P n l E L Ls ⟨some d, .binOp .neq t x y t', ty, pos, aft, g⟩ X Y) (hx : ev l x = some (.int k p)) (hy : ev l y = some (.int k q)) (hn : Nat.ble (d + 1) n = true) (h : At n ((d, .bool (decide (p ≠ q))) :: l) E L Y) : At n l E L X :=
  op_int s hx hy (fun w => by
    have : (p != q) = decide (p ≠ q) := by rw [bne, show (p == q) = decide (p = q) from rfl, decide_not]
    simp [binOp, Op.intCmp, this]) hn h
theorem op_lss (s : NxF P n l E L Ls ⟨some d, .binOp .lss t x y t', ty, pos, aft, g⟩ X Y) (hx : ev l x = some (.int k p)) (hy : ev l y = some (.int k q)) (hn : Nat.ble (d + 1) n = true) (h : At n ((d, .bool (decide (p < q))) :: l) E L Y) : At n l E L X :=
  op_int s hx hy (fun w => by simp [binOp, Op.intCmp]) hn h
theorem op_leq (s : NxF P n l E L Ls ⟨some d, .binOp .leq t x y t', ty, pos, aft, g⟩ X Y) (hx : ev l x = some (.int k p)) (hy : ev l y = some (.int k q)) (hn : Nat.ble (d + 1) n = true) (h : At n ((d, .bool (decide (p ≤ q))) :: l) E L Y) : At n l E L X :=
  op_int s hx hy (fun w => by simp [binOp, Op.intCmp]) hn h
theorem op_gtr (s : NxF P n l E L Ls ⟨some d, .binOp .gtr t x y t', ty, pos, aft, g⟩ X Y) (hx : ev l x = some (.int k p)) (hy : ev l y = some (.int k q)) (hn : Nat.ble (d + 1) n = true) (h : At n ((d, .bool (decide (q < p))) :: l) E L Y) : At n l E L X :=
  op_int s hx hy (fun w => by simp [binOp, Op.intCmp]) hn h
theorem op_geq (s : NxF P n l E L Ls ⟨some d, .binOp .geq t x y t', ty, pos, aft, g⟩ X Y) (hx : ev l x = some (.int k p)) (hy : ev l y = some (.int k q)) (hn : Nat.ble (d + 1) n = true) (h : At n ((d, .bool (decide (q ≤ p))) :: l) E L Y) : At n l E L X :=
  op_int s hx hy (fun w => by simp [binOp, Op.intCmp]) hn h
/-! int: no sum leaves the range -/
theorem wrap_i64 {a : Int} (h1 : -9223372036854775808 ≤ a) (h2 : a ≤ 9223372036854775807) : IntKind.i64.wrap a = a := by
  unfold IntKind.wrap
  simp only [IntKind.bits, IntKind.signed, Bool.true_and, decide_eq_true_eq, show (2 : Int) ^ 64 = 18446744073709551616 from rfl, show (2 : Int) ^ (64 - 1) = 9223372036854775808 from rfl]
  split <;> omega
theorem op_addI (s : NxF P n l E L Ls ⟨some d, .binOp .add t x y t', ty, pos, aft, g⟩ X Y) (hx : ev l x = some (.int .i64 p)) (hy : ev l y = some (.int .i64 q)) (h1 : -9223372036854775808 ≤ p + q) (h2 : p + q ≤ 9223372036854775807) (hn : Nat.ble (d + 1) n = true) (h : At n ((d, .int .i64 (p + q)) :: l) E L Y) : At n l E L X :=
  op_int s hx hy (fun w => by simp [binOp, Op.intArith, wrap_i64 h1 h2]) hn h
theorem op_subI (s : NxF P n l E L Ls ⟨some d, .binOp .sub t x y t', ty, pos, aft, g⟩ X Y) (hx : ev l x = some (.int .i64 p)) (hy : ev l y = some (.int .i64 q)) (h1 : -9223372036854775808 ≤ p - q) (h2 : p - q ≤ 9223372036854775807) (hn : Nat.ble (d + 1) n = true) (h : At n ((d, .int .i64 (p - q)) :: l) E L Y) : At n l E L X :=
  op_int s hx hy (fun w => by simp [binOp, Op.intArith, wrap_i64 h1 h2]) hn h
theorem op_mulI (s : NxF P n l E L Ls ⟨some d, .binOp .mul t x y t', ty, pos, aft, g⟩ X Y) (hx : ev l x = some (.int .i64 p)) (hy : ev l y = some (.int .i64 q)) (h1 : -9223372036854775808 ≤ p * q) (h2 : p * q ≤ 9223372036854775807) (hn : Nat.ble (d + 1) n = true) (h : At n ((d, .int .i64 (p * q)) :: l) E L Y) : At n l E L X :=
  op_int s hx hy (fun w => by simp [binOp, Op.intArith, wrap_i64 h1 h2]) hn h
theorem op_quoI (s : NxF P n l E L Ls ⟨some d, .binOp .quo t x y t', ty, pos, aft, g⟩ X Y) (hx : ev l x = some (.int .i64 p)) (hy : ev l y = some (.int .i64 q)) (h1 : 0 ≤ p) (h2 : 0 < q) (h3 : p ≤ 9223372036854775807) (hn : Nat.ble (d + 1) n = true) (h : At n ((d, .int .i64 (p / q)) :: l) E L Y) : At n l E L X :=
  op_int s hx hy (fun w => by
    have e : q ≠ 0 := by omega
    have e2 : p / q ≤ p := Int.ediv_le_self _ h1
    have e3 : 0 ≤ p / q := Int.ediv_nonneg h1 (by omega)
    simp [binOp, Op.intDiv, e, Int.tdiv_eq_ediv_of_nonneg h1, wrap_i64 (show -9223372036854775808 ≤ p / q by omega) (by omega)]) hn h
theorem op_rem (s : NxF P n l E L Ls ⟨some d, .binOp .rem t x y t', ty, pos, aft, g⟩ X Y) (hx : ev l x = some (.int k p)) (hy : ev l y = some (.int k q)) (h1 : 0 ≤ p) (h2 : 0 < q) (hn : Nat.ble (d + 1) n = true) (h : At n ((d, .int k (p % q)) :: l) E L Y) : At n l E L X :=
  op_int s hx hy (fun w => by
    have e : q ≠ 0 := by omega
    simp [binOp, Op.intDiv, e, Int.tmod_eq_emod_of_nonneg h1]) hn h
theorem op_remT (s : NxF P n l E L Ls ⟨some d, .binOp .rem t x y t', ty, pos, aft, g⟩ X Y) (hx : ev l x = some (.int k p)) (hy : ev l y = some (.int k q)) (h2 : q ≠ 0) (hn : Nat.ble (d + 1) n = true) (h : At n ((d, .int k (p.tmod q)) :: l) E L Y) : At n l E L X :=
  op_int s hx hy (fun w => by simp [binOp, Op.intDiv, h2]) hn h
/-- The sum, the difference, the product, whatever the kind. -/
theorem op_addW (s : NxF P n l E L Ls ⟨some d, .binOp .add t x y t', ty, pos, aft, g⟩ X Y) (hx : ev l x = some (.int k p)) (hy : ev l y = some (.int k q)) (hn : Nat.ble (d + 1) n = true) (h : At n ((d, .int k (k.wrap (p + q))) :: l) E L Y) : At n l E L X :=
  op_int s hx hy (fun w => by simp [binOp, Op.intArith]) hn h
theorem op_subW (s : NxF P n l E L Ls ⟨some d, .binOp .sub t x y t', ty, pos, aft, g⟩ X Y) (hx : ev l x = some (.int k p)) (hy : ev l y = some (.int k q)) (hn : Nat.ble (d + 1) n = true) (h : At n ((d, .int k (k.wrap (p - q))) :: l) E L Y) : At n l E L X :=
  op_int s hx hy (fun w => by simp [binOp, Op.intArith]) hn h
theorem op_mulW (s : NxF P n l E L Ls ⟨some d, .binOp .mul t x y t', ty, pos, aft, g⟩ X Y) (hx : ev l x = some (.int k p)) (hy : ev l y = some (.int k q)) (hn : Nat.ble (d + 1) n = true) (h : At n ((d, .int k (k.wrap (p * q))) :: l) E L Y) : At n l E L X :=
  op_int s hx hy (fun w => by simp [binOp, Op.intArith]) hn h
theorem op_shlW {k' : IntKind} (s : NxF P n l E L Ls ⟨some d, .binOp .shl t x y t', ty, pos, aft, g⟩ X Y) (hx : ev l x = some (.int k p)) (hy : ev l y = some (.int k' q)) (h1 : 0 ≤ q) (hn : Nat.ble (d + 1) n = true) (h : At n ((d, .int k (k.wrap (p * 2 ^ (min q.toNat k.bits)))) :: l) E L Y) : At n l E L X :=
  op_sh s hx hy (fun w => by simp [binOp, Op.shift, show ¬ q < 0 by omega]) hn h
theorem op_shrW {k' : IntKind} (s : NxF P n l E L Ls ⟨some d, .binOp .shr t x y t', ty, pos, aft, g⟩ X Y) (hx : ev l x = some (.int k p)) (hy : ev l y = some (.int k' q)) (h1 : 0 ≤ q) (h0 : 0 ≤ p) (hn : Nat.ble (d + 1) n = true) (h : At n ((d, .int k (p / 2 ^ (min q.toNat k.bits))) :: l) E L Y) : At n l E L X :=
  op_sh s hx hy (fun w => by simp [binOp, Op.shift, show ¬ q < 0 by omega, Int.fdiv_eq_ediv_of_nonneg p (show (0:Int) ≤ 2 ^ (min q.toNat k.bits) from Int.le_of_lt (Int.pow_pos (by decide)))]) hn h
theorem op_bits {op : BinOp} (hop : op = .and ∨ op = .or ∨ op = .xor ∨ op = .andNot) (s : NxF P n l E L Ls ⟨some d, .binOp op t x y t', ty, pos, aft, g⟩ X Y) (hx : ev l x = some (.int k p)) (hy : ev l y = some (.int k q)) (hn : Nat.ble (d + 1) n = true) (h : At n ((d, .int k (bits op k p q)) :: l) E L Y) : At n l E L X :=
  op_int s hx hy (fun w => by rcases hop with rfl | rfl | rfl | rfl <;> simp [binOp, Op.intBits, bits]) hn h
theorem op_not {b : Bool} (s : NxF P n l E L Ls ⟨some d, .unOp .not t x, ty, pos, aft, g⟩ X Y) (hx : ev l x = some (.bool b)) (hn : Nat.ble (d + 1) n = true) (h : At n ((d, .bool (!b)) :: l) E L Y) : At n l E L X :=
  op_val s (fun a w hf _ => by simp [execOp, hf.eval hx, Op.unary]) rfl hn h
theorem op_notP {b : Prop} [Decidable b] (s : NxF P n l E L Ls ⟨some d, .unOp .not t x, ty, pos, aft, g⟩ X Y) (hx : ev l x = some (.bool (decide b))) (hn : Nat.ble (d + 1) n = true) (h : At n ((d, .bool (decide (¬ b))) :: l) E L Y) : At n l E L X :=
  op_not s hx hn (by rw [← decide_not]; exact h)
theorem op_negI (s : NxF P n l E L Ls ⟨some d, .unOp .neg t x, ty, pos, aft, g⟩ X Y) (hx : ev l x = some (.int .i64 p)) (h1 : -9223372036854775808 ≤ 0 - p) (h2 : 0 - p ≤ 9223372036854775807) (hn : Nat.ble (d + 1) n = true) (h : At n ((d, .int .i64 (0 - p)) :: l) E L Y) : At n l E L X :=
  op_val s (fun a w hf _ => by simp only [execOp, hf.eval hx, Op.unary, Op.intArith, wrap_i64 h1 h2]; rfl) rfl hn h
end
end
end Go.Proofs.Ytbmlhdecnfplaaa
