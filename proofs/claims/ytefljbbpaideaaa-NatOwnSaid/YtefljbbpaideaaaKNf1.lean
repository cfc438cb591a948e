/- Package nat: forms, orders, bits, sums, differences, products, quotients. Condition: numbers of at most 2^38 bytes. -/
import Derived.Test.YtefljbbpaideaaaK4
import Derived.Test.YtefljbbpaideaaaK3
namespace Go.Proofs.Ytefljbbpaideaaa
set_option linter.unusedVariables false
set_option linter.unusedSimpArgs false
open Go Go.RowKit
/-- A number's bytes in new memory. -/
def BytesP (V : Nat) (v : Value) (L : List Heaplet) : Prop :=
  ∃ M a c, v = .slice a (bytesOf V).length c ∧ L = [M] ∧ Row M 5 1 a (bytesOf V).length c (u8s (bytesOf V))
theorem limbs_be_len (l : List UInt8) : (limbsOf (be l)).length ≤ l.length := by
  rw [length_limbsOf]
  have h := be_lt l
  have h2 : bitLen (be l) ≤ 8 * l.length := bitLen_le.2 (by rw [Nat.pow_mul]; exact h)
  omega
theorem limbs_zero {V : Nat} : (limbsOf V).length = 0 ↔ V = 0 := by
  rw [length_limbsOf]
  constructor
  · intro h
    rcases Nat.eq_zero_or_pos V with h0 | h0
    · exact h0
    · have := bitLen_pos h0; omega
  · rintro rfl; rfl
theorem limbs_le_of {V n : Nat} (h : V < 2 ^ (64 * n)) : (limbsOf V).length ≤ n := by rw [length_limbsOf]; exact limbLen_le.2 h
theorem NTrim_f {N : Heaplet} {ao : Option Addr} {n cap : Nat} {l : List UInt8} (h : RSl N 1 ao n cap (u8s l)) (hn : n ≤ 274877906944) : Fn Try.prog 67 #[.slice ao n cap] [] [N] (BytesP (be l)) := by
  have hlen := h.len8
  have hll := limbs_be_len l
  refine Fn.enter (vs := [.slice ao n cap]) Try.func67 rfl rfl rfl ?_
  intro E R hR
  have h := h.le (hR N (by simp))
  change At _ _ E [R] _
  refine At.seq fun K1 hk_1 => ?_
  refine At.region ?_
  refine op_assign (nxlf rfl) rfl rfl ?_
  refine At.opsNil ?_
  refine At.norm (hk_1 ?_)
  refine At.seq fun K2 hk_2 => ?_
  refine At.region ?_
  refine op_move (nxlf rfl) rfl rfl ?_
  refine op_callA (nxla rfl) (.cons rfl .nil) (From_f h (by omega)) Try.func119 rfl rfl (by simp) rfl ?_
  rintro v4 L4 ⟨M4, p4, rfl, rfl, s4⟩
  change At _ _ _ [M4, R] _
  refine op_callA (nxla rfl) (.cons rfl .nil) (Bytes_f s4 (by omega)) Try.func121 rfl rfl (by simp) rfl ?_
  rintro v5 L5 ⟨M5, p5, rfl, rfl, r5⟩
  change At _ _ _ [M5, M4, R] _
  refine op_assign (nxlf rfl) rfl rfl ?_
  refine At.opsNil ?_
  refine At.norm (hk_2 ?_)
  refine At.ret (?_)
  refine At.sub (L' := [M5, R]) (.cons_cons _ (.cons _ (.cons_cons _ (.slnil)))) ?_
  refine At.ret1 (L1 := [M5]) rfl (.tmp rfl .nil) (.refl _) (.refl _) ?_
  rw [v64_limbsOf] at r5 ⊢
  exact ⟨M5, p5, _, rfl, rfl, r5⟩
section
variable {N M : Heaplet} {ao bo : Option Addr} {n m ca cb : Nat} {a b : List UInt8}
theorem NCmp_f (ha : RSl N 1 ao n ca (u8s a)) (hb : RSl M 1 bo m cb (u8s b)) (hn : n ≤ 274877906944) (hm : m ≤ 274877906944) : Fn Try.prog 75 #[.slice ao n ca, .slice bo m cb] [] [N, M] (fun v L => v = .int .i64 (cmpN (be a) (be b)) ∧ L = []) := by
  have hal := ha.len8
  have hbl := hb.len8
  have hxa := limbs_be_len a
  have hxb := limbs_be_len b
  refine Fn.enter (vs := [.slice ao n ca, .slice bo m cb]) Try.func75 rfl rfl rfl ?_
  intro E R hR
  have ha := ha.le (hR N (by simp))
  have hb := hb.le (hR M (by simp))
  change At _ _ E [R] _
  refine At.seq fun K1 hk_1 => ?_
  refine At.region ?_
  refine op_assign (nxlf rfl) rfl rfl ?_
  refine At.opsNil ?_
  refine At.norm (hk_1 ?_)
  refine At.seq fun K2 hk_2 => ?_
  refine At.region ?_
  refine op_move (nxlf rfl) rfl rfl ?_
  refine op_callA (nxla rfl) (.cons rfl .nil) (From_f ha (by omega)) Try.func119 rfl rfl (by simp) rfl ?_
  rintro v6 L6 ⟨M6, p6, rfl, rfl, s6⟩
  change At _ _ _ [M6, R] _
  refine op_move (nxlf rfl) rfl rfl ?_
  refine op_callA (nxla rfl) (.cons rfl .nil) (From_f hb (by omega)) Try.func119 rfl rfl (by simp) rfl ?_
  rintro v8 L8 ⟨M8, p8, rfl, rfl, s8⟩
  change At _ _ _ [M8, M6, R] _
  refine op_callA (nxla rfl) (.cons rfl (.cons rfl .nil)) (Cmp_f s6 s8 (by omega) (by omega)) Try.func133 rfl rfl (by simp) rfl ?_
  rintro v9 L9 ⟨rfl, rfl⟩
  change At _ _ _ [M8, M6, R] _
  refine op_assign (nxlf rfl) rfl rfl ?_
  refine At.opsNil ?_
  refine At.norm (hk_2 ?_)
  refine At.ret (?_)
  refine At.sub (L' := [R]) (.cons _ (.cons _ (.cons_cons _ (.slnil)))) ?_
  refine At.ret1 (L1 := []) rfl (.tmp rfl .nil) (.refl _) (.refl _) ?_
  rw [v64_limbsOf, v64_limbsOf]
  exact ⟨rfl, rfl⟩
theorem NBits_f (ha : RSl N 1 ao n ca (u8s a)) (hn : n ≤ 274877906944) : Fn Try.prog 77 #[.slice ao n ca] [] [N] (fun v L => v = .int .i64 ((bitLen (be a) : Nat) : Int) ∧ L = []) := by
  have hal := ha.len8
  have hxa := limbs_be_len a
  refine Fn.enter (vs := [.slice ao n ca]) Try.func77 rfl rfl rfl ?_
  intro E R hR
  have ha := ha.le (hR N (by simp))
  change At _ _ E [R] _
  refine At.seq fun K1 hk_1 => ?_
  refine At.region ?_
  refine op_assign (nxlf rfl) rfl rfl ?_
  refine At.opsNil ?_
  refine At.norm (hk_1 ?_)
  refine At.seq fun K2 hk_2 => ?_
  refine At.region ?_
  refine op_move (nxlf rfl) rfl rfl ?_
  refine op_callA (nxla rfl) (.cons rfl .nil) (From_f ha (by omega)) Try.func119 rfl rfl (by simp) rfl ?_
  rintro v4 L4 ⟨M4, p4, rfl, rfl, s4⟩
  change At _ _ _ [M4, R] _
  refine op_callA (nxla rfl) (.cons rfl .nil) (Bits_f s4 (by omega)) Try.func128 rfl rfl (by simp) rfl ?_
  rintro v5 L5 ⟨rfl, rfl⟩
  change At _ _ _ [M4, R] _
  refine op_assign (nxlf rfl) rfl rfl ?_
  refine At.opsNil ?_
  refine At.norm (hk_2 ?_)
  refine At.ret (?_)
  refine At.sub (L' := [R]) (.cons _ (.cons_cons _ (.slnil))) ?_
  refine At.ret1 (L1 := []) rfl (.tmp rfl .nil) (.refl _) (.refl _) ?_
  rw [v64_limbsOf]
  exact ⟨rfl, rfl⟩
theorem NBit_neg {i : Int} (ha : RSl N 1 ao n ca (u8s a)) (hn : n ≤ 274877906944) (hi : i < 0) : Fn Try.prog 78 #[.slice ao n ca, .int .i64 i] [] [N] (fun v L => v = .int .i64 0 ∧ L = []) := by
  have hal := ha.len8
  refine Fn.enter (vs := [.slice ao n ca, .int .i64 i]) Try.func78 rfl rfl rfl ?_
  intro E R hR
  have ha := ha.le (hR N (by simp))
  change At _ _ E [R] _
  refine At.seq fun K1 hk_1 => ?_
  refine At.region ?_
  refine op_assign (nxlf rfl) rfl rfl ?_
  refine At.opsNil ?_
  refine At.norm (hk_1 ?_)
  refine At.seq fun K2 hk_2 => ?_
  refine At.region ?_
  refine op_move (nxlf rfl) rfl rfl ?_
  refine op_callA (nxla rfl) (.cons rfl .nil) (From_f ha (by omega)) Try.func119 rfl rfl (by simp) rfl ?_
  rintro v6 L6 ⟨M6, p6, rfl, rfl, s6⟩
  change At _ _ _ [M6, R] _
  refine op_move (nxlf rfl) rfl rfl ?_
  refine op_callA (nxla rfl) (.cons rfl (.cons rfl .nil)) (Bit_neg hi) Try.func129 rfl rfl (by simp) rfl ?_
  rintro v8 L8 ⟨rfl, rfl⟩
  change At _ _ _ [M6, R] _
  refine op_convI (nxlf rfl) (und_some Try.underlying22) Try.underlying3 rfl (by omega) (by omega) rfl ?_
  refine op_assign (nxlf rfl) rfl rfl ?_
  refine At.opsNil ?_
  refine At.norm (hk_2 ?_)
  refine At.ret (?_)
  refine At.sub (L' := [R]) (.cons _ (.cons_cons _ (.slnil))) ?_
  refine At.ret1 (L1 := []) rfl (.tmp rfl .nil) (.refl _) (.refl _) ?_
  exact ⟨rfl, rfl⟩
theorem NBit_f (ha : RSl N 1 ao n ca (u8s a)) (hn : n ≤ 274877906944) (i : Nat) (hi : i ≤ 9223372036854775807) : Fn Try.prog 78 #[.slice ao n ca, .int .i64 (i : Int)] [] [N] (fun v L => v = .int .i64 ((be a / 2 ^ i % 2 : Nat) : Int) ∧ L = []) := by
  have hal := ha.len8
  have hxa := limbs_be_len a
  refine Fn.enter (vs := [.slice ao n ca, .int .i64 (i : Int)]) Try.func78 rfl rfl rfl ?_
  intro E R hR
  have ha := ha.le (hR N (by simp))
  change At _ _ E [R] _
  refine At.seq fun K1 hk_1 => ?_
  refine At.region ?_
  refine op_assign (nxlf rfl) rfl rfl ?_
  refine At.opsNil ?_
  refine At.norm (hk_1 ?_)
  refine At.seq fun K2 hk_2 => ?_
  refine At.region ?_
  refine op_move (nxlf rfl) rfl rfl ?_
  refine op_callA (nxla rfl) (.cons rfl .nil) (From_f ha (by omega)) Try.func119 rfl rfl (by simp) rfl ?_
  rintro v6 L6 ⟨M6, p6, rfl, rfl, s6⟩
  change At _ _ _ [M6, R] _
  refine op_move (nxlf rfl) rfl rfl ?_
  refine op_callA (nxla rfl) (.cons rfl (.cons rfl .nil)) (Bit_f s6 i hi) Try.func129 rfl rfl (by simp) rfl ?_
  rintro v8 L8 ⟨rfl, rfl⟩
  change At _ _ _ [M6, R] _
  rw [v64_limbsOf]
  have h2 : be a / 2 ^ i % 2 < 2 := Nat.mod_lt _ (by decide)
  generalize be a / 2 ^ i % 2 = z at *
  refine op_convI (nxlf rfl) (und_some Try.underlying22) Try.underlying3 rfl (by omega) (by omega) rfl ?_
  refine op_assign (nxlf rfl) rfl rfl ?_
  refine At.opsNil ?_
  refine At.norm (hk_2 ?_)
  refine At.ret (?_)
  refine At.sub (L' := [R]) (.cons _ (.cons_cons _ (.slnil))) ?_
  refine At.ret1 (L1 := []) rfl (.tmp rfl .nil) (.refl _) (.refl _) ?_
  exact ⟨rfl, rfl⟩
theorem NAdd_f (ha : RSl N 1 ao n ca (u8s a)) (hb : RSl M 1 bo m cb (u8s b)) (hn : n ≤ 274877906944) (hm : m ≤ 274877906944) : Fn Try.prog 70 #[.slice ao n ca, .slice bo m cb] [] [N, M] (BytesP (be a + be b)) := by
  have hal := ha.len8
  have hbl := hb.len8
  have hxa := limbs_be_len a
  have hxb := limbs_be_len b
  have hs : (limbsOf (be a + be b)).length ≤ n + m + 1 := by
    refine limbs_le_of ?_
    have h1 := be_lt a
    have h2 := be_lt b
    have h3 : (256 : Nat) ^ a.length ≤ 2 ^ (64 * (n + m)) := by rw [show (256 : Nat) = 2 ^ 8 from rfl, ← Nat.pow_mul]; exact Nat.pow_le_pow_right (by decide) (by omega)
    have h4 : (256 : Nat) ^ b.length ≤ 2 ^ (64 * (n + m)) := by rw [show (256 : Nat) = 2 ^ 8 from rfl, ← Nat.pow_mul]; exact Nat.pow_le_pow_right (by decide) (by omega)
    rw [pow64]; omega
  refine Fn.enter (vs := [.slice ao n ca, .slice bo m cb]) Try.func70 rfl rfl rfl ?_
  intro E R hR
  have ha := ha.le (hR N (by simp))
  have hb := hb.le (hR M (by simp))
  change At _ _ E [R] _
  refine At.seq fun K1 hk_1 => ?_
  refine At.region ?_
  refine op_assign (nxlf rfl) rfl rfl ?_
  refine At.opsNil ?_
  refine At.norm (hk_1 ?_)
  refine At.seq fun K2 hk_2 => ?_
  refine At.region ?_
  refine op_move (nxlf rfl) rfl rfl ?_
  refine op_callA (nxla rfl) (.cons rfl .nil) (From_f ha (by omega)) Try.func119 rfl rfl (by simp) rfl ?_
  rintro v6 L6 ⟨M6, p6, rfl, rfl, s6⟩
  change At _ _ _ [M6, R] _
  refine op_move (nxlf rfl) rfl rfl ?_
  refine op_callA (nxla rfl) (.cons rfl .nil) (From_f hb (by omega)) Try.func119 rfl rfl (by simp) rfl ?_
  rintro v8 L8 ⟨M8, p8, rfl, rfl, s8⟩
  change At _ _ _ [M8, M6, R] _
  refine op_callA (nxla rfl) (.cons rfl (.cons rfl .nil)) (Add_f s6 s8 (by omega) (by omega)) Try.func132 rfl rfl (by simp) rfl ?_
  rintro v9 L9 ⟨M9, p9, c9, rfl, rfl, s9⟩
  change At _ _ _ [M9, M8, M6, R] _
  rw [v64_limbsOf, v64_limbsOf] at s9 ⊢
  refine op_callA (nxla rfl) (.cons rfl .nil) (Bytes_f s9 (by omega)) Try.func121 rfl rfl (by simp) rfl ?_
  rintro v10 L10 ⟨M10, p10, rfl, rfl, r10⟩
  change At _ _ _ [M10, M9, M8, M6, R] _
  refine op_assign (nxlf rfl) rfl rfl ?_
  refine At.opsNil ?_
  refine At.norm (hk_2 ?_)
  refine At.ret (?_)
  refine At.sub (L' := [M10, R]) (.cons_cons _ (.cons _ (.cons _ (.cons _ (.cons_cons _ (.slnil)))))) ?_
  refine At.ret1 (L1 := [M10]) rfl (.tmp rfl .nil) (.refl _) (.refl _) ?_
  rw [v64_limbsOf] at r10 ⊢
  exact ⟨M10, p10, _, rfl, rfl, r10⟩
theorem NMul_f (ha : RSl N 1 ao n ca (u8s a)) (hb : RSl M 1 bo m cb (u8s b)) (hn : n ≤ 274877906944) (hm : m ≤ 274877906944) : Fn Try.prog 69 #[.slice ao n ca, .slice bo m cb] [] [N, M] (BytesP (be a * be b)) := by
  have hal := ha.len8
  have hbl := hb.len8
  have hxa := limbs_be_len a
  have hxb := limbs_be_len b
  have hs : (limbsOf (be a * be b)).length ≤ n + m := by
    refine limbs_le_of ?_
    have h1 := be_lt a
    have h2 := be_lt b
    have h3 : (256 : Nat) ^ a.length ≤ 2 ^ (64 * n) := by rw [show (256 : Nat) = 2 ^ 8 from rfl, ← Nat.pow_mul]; exact Nat.pow_le_pow_right (by decide) (by omega)
    have h4 : (256 : Nat) ^ b.length ≤ 2 ^ (64 * m) := by rw [show (256 : Nat) = 2 ^ 8 from rfl, ← Nat.pow_mul]; exact Nat.pow_le_pow_right (by decide) (by omega)
    rw [Nat.mul_add, Nat.pow_add]
    exact Nat.mul_lt_mul'' (Nat.lt_of_lt_of_le h1 h3) (Nat.lt_of_lt_of_le h2 h4)
  refine Fn.enter (vs := [.slice ao n ca, .slice bo m cb]) Try.func69 rfl rfl rfl ?_
  intro E R hR
  have ha := ha.le (hR N (by simp))
  have hb := hb.le (hR M (by simp))
  change At _ _ E [R] _
  refine At.seq fun K1 hk_1 => ?_
  refine At.region ?_
  refine op_assign (nxlf rfl) rfl rfl ?_
  refine At.opsNil ?_
  refine At.norm (hk_1 ?_)
  refine At.seq fun K2 hk_2 => ?_
  refine At.region ?_
  refine op_move (nxlf rfl) rfl rfl ?_
  refine op_callA (nxla rfl) (.cons rfl .nil) (From_f ha (by omega)) Try.func119 rfl rfl (by simp) rfl ?_
  rintro v6 L6 ⟨M6, p6, rfl, rfl, s6⟩
  change At _ _ _ [M6, R] _
  refine op_move (nxlf rfl) rfl rfl ?_
  refine op_callA (nxla rfl) (.cons rfl .nil) (From_f hb (by omega)) Try.func119 rfl rfl (by simp) rfl ?_
  rintro v8 L8 ⟨M8, p8, rfl, rfl, s8⟩
  change At _ _ _ [M8, M6, R] _
  refine op_callA (nxla rfl) (.cons rfl (.cons rfl .nil)) (Mul_f s6 s8 (by omega) (by omega)) Try.func127 rfl rfl (by simp) rfl ?_
  rintro v9 L9 ⟨M9, p9, c9, rfl, rfl, s9⟩
  change At _ _ _ [M9, M8, M6, R] _
  rw [v64_limbsOf, v64_limbsOf] at s9 ⊢
  refine op_callA (nxla rfl) (.cons rfl .nil) (Bytes_f s9 (by omega)) Try.func121 rfl rfl (by simp) rfl ?_
  rintro v10 L10 ⟨M10, p10, rfl, rfl, r10⟩
  change At _ _ _ [M10, M9, M8, M6, R] _
  refine op_assign (nxlf rfl) rfl rfl ?_
  refine At.opsNil ?_
  refine At.norm (hk_2 ?_)
  refine At.ret (?_)
  refine At.sub (L' := [M10, R]) (.cons_cons _ (.cons _ (.cons _ (.cons _ (.cons_cons _ (.slnil)))))) ?_
  refine At.ret1 (L1 := [M10]) rfl (.tmp rfl .nil) (.refl _) (.refl _) ?_
  rw [v64_limbsOf] at r10 ⊢
  exact ⟨M10, p10, _, rfl, rfl, r10⟩
def SubP (A B : Nat) (v : Value) (L : List Heaplet) : Prop :=
  ∃ M p c, v = .tuple #[.slice p (bytesOf (A - B)).length c, .bool (decide (B ≤ A))] ∧ L = [M] ∧ Row M 5 1 p (bytesOf (A - B)).length c (u8s (bytesOf (A - B)))
theorem cmpN_neg {x y : Nat} : cmpN x y < 0 ↔ x < y := by
  unfold cmpN
  split
  · omega
  · split <;> omega
theorem NSub_f (ha : RSl N 1 ao n ca (u8s a)) (hb : RSl M 1 bo m cb (u8s b)) (hn : n ≤ 274877906944) (hm : m ≤ 274877906944) : Fn Try.prog 94 #[.slice ao n ca, .slice bo m cb] [] [N, M] (SubP (be a) (be b)) := by
  have hal := ha.len8
  have hbl := hb.len8
  have hxa := limbs_be_len a
  have hxb := limbs_be_len b
  have hs : (limbsOf (be a - be b)).length ≤ (limbsOf (be a)).length := limbs_mono (Nat.sub_le _ _)
  have hcn := cmpN_neg (x := be a) (y := be b)
  refine Fn.enter (vs := [.slice ao n ca, .slice bo m cb]) Try.func94 rfl rfl rfl ?_
  intro E R hR
  have ha := ha.le (hR N (by simp))
  have hb := hb.le (hR M (by simp))
  change At _ _ E [R] _
  refine At.seq fun K1 hk_1 => ?_
  refine At.region ?_
  refine op_assign (nxlf rfl) rfl rfl ?_
  refine op_assign (nxlf rfl) rfl rfl ?_
  refine At.opsNil ?_
  refine At.norm (hk_1 ?_)
  refine At.seq fun K2 hk_2 => ?_
  refine At.region ?_
  refine op_move (nxlf rfl) rfl rfl ?_
  refine op_callA (nxla rfl) (.cons rfl .nil) (From_f ha (by omega)) Try.func119 rfl rfl (by simp) rfl ?_
  rintro v9 L9 ⟨M9, p9, rfl, rfl, s9⟩
  change At _ _ _ [M9, R] _
  refine op_move (nxlf rfl) rfl rfl ?_
  refine op_callA (nxla rfl) (.cons rfl .nil) (From_f hb (by omega)) Try.func119 rfl rfl (by simp) rfl ?_
  rintro v11 L11 ⟨M11, p11, rfl, rfl, s11⟩
  change At _ _ _ [M11, M9, R] _
  refine op_assign (nxlf rfl) rfl rfl ?_
  refine op_assign (nxlf rfl) rfl rfl ?_
  refine At.opsNil ?_
  refine At.norm (hk_2 ?_)
  refine At.seq fun K3 hk_3 => ?_
  refine At.seq fun K4 hk_4 => ?_
  refine At.region ?_
  refine op_move (nxlf rfl) rfl rfl ?_
  refine op_move (nxlf rfl) rfl rfl ?_
  refine op_callA (nxla rfl) (.cons rfl (.cons rfl .nil)) (Cmp_f s9 s11 (by omega) (by omega)) Try.func133 rfl rfl (by simp) rfl ?_
  rintro v14 L14 ⟨rfl, rfl⟩
  change At _ _ _ [M11, M9, R] _
  rw [v64_limbsOf, v64_limbsOf]
  refine op_lss (nxlf rfl) rfl rfl rfl ?_
  refine At.opsNil ?_
  refine At.norm (hk_4 ?_)
  refine At.condP rfl (fun c15 => ?_) (fun c15 => ?_)
  · refine At.seq fun K5 hk_5 => ?_
    refine At.region ?_
    refine op_assign (nxlf rfl) rfl rfl ?_
    refine op_assign (nxlf rfl) rfl rfl ?_
    refine At.opsNil ?_
    refine At.norm (hk_5 ?_)
    refine At.ret (At.thenRet (?_))
    refine At.empty ?_
    refine At.sub (L' := [nilH, R]) (.cons_cons _ (.cons _ (.cons _ (.cons_cons _ (.slnil))))) ?_
    refine At.retN (L1 := [nilH]) rfl (.tmp rfl (.tmp rfl .nil)) rfl (.refl _) (.refl _) ?_
    have hlt := hcn.1 c15
    have e : be a - be b = 0 := by omega
    refine ⟨nilH, none, 0, ?_, rfl, ?_⟩
    · rw [e, decide_eq_false (by omega)]; rfl
    · rw [e]; exact Row.nil _ _ _
  · refine At.skip ?_
    refine At.norm (hk_3 ?_)
    refine At.seq fun K6 hk_6 => ?_
    refine At.region ?_
    refine op_move (nxlf rfl) rfl rfl ?_
    refine op_move (nxlf rfl) rfl rfl ?_
    have hge : be b ≤ be a := by
      rcases Nat.lt_or_ge (be a) (be b) with h | h
      · exact absurd (hcn.2 h) c15
      · exact h
    refine op_callA (nxla rfl) (.cons rfl (.cons rfl .nil)) (Sub_f s9 s11 (by omega) (by omega) (by rw [v64_limbsOf, v64_limbsOf]; exact hge)) Try.func136 rfl rfl (by simp) rfl ?_
    rintro v18 L18 ⟨M18, p18, c18, rfl, rfl, s18⟩
    change At _ _ _ [M18, M11, M9, R] _
    rw [v64_limbsOf, v64_limbsOf] at s18 ⊢
    refine op_callA (nxla rfl) (.cons rfl .nil) (Bytes_f s18 (by omega)) Try.func121 rfl rfl (by simp) rfl ?_
    rintro v19 L19 ⟨M19, p19, rfl, rfl, r19⟩
    change At _ _ _ [M19, M18, M11, M9, R] _
    refine op_assign (nxlf rfl) rfl rfl ?_
    refine op_assign (nxlf rfl) rfl rfl ?_
    refine At.opsNil ?_
    refine At.norm (hk_6 ?_)
    refine At.ret (?_)
    refine At.sub (L' := [M19, R]) (.cons_cons _ (.cons _ (.cons _ (.cons _ (.cons_cons _ (.slnil)))))) ?_
    refine At.retN (L1 := [M19]) rfl (.tmp rfl (.tmp rfl .nil)) rfl (.refl _) (.refl _) ?_
    rw [v64_limbsOf] at r19 ⊢
    exact ⟨M19, p19, _, by rw [decide_eq_true hge], rfl, r19⟩
def DivModP (A B : Nat) (v : Value) (L : List Heaplet) : Prop :=
  ∃ M1 p1 c1 M2 p2 c2, v = .tuple #[.slice p1 (bytesOf (A / B)).length c1, .slice p2 (bytesOf (A % B)).length c2, .bool true] ∧ L = [M1, M2] ∧ Row M1 5 1 p1 (bytesOf (A / B)).length c1 (u8s (bytesOf (A / B))) ∧ Row M2 5 1 p2 (bytesOf (A % B)).length c2 (u8s (bytesOf (A % B)))
theorem NDivMod_0 (hb : RSl M 1 bo m cb (u8s b)) (hm : m ≤ 274877906944) (h0 : be b = 0) : Fn Try.prog 39 #[.slice ao n ca, .slice bo m cb] [] [M] (fun v L => v = .tuple #[.slice none 0 0, .slice none 0 0, .bool false] ∧ L = []) := by
  have hbl := hb.len8
  have hz := limbs_zero.2 h0
  refine Fn.enter (vs := [.slice ao n ca, .slice bo m cb]) Try.func39 rfl rfl rfl ?_
  intro E R hR
  have hb := hb.le (hR M (by simp))
  change At _ _ E [R] _
  refine At.seq fun K1 hk_1 => ?_
  refine At.region ?_
  refine op_assign (nxlf rfl) rfl rfl ?_
  refine op_assign (nxlf rfl) rfl rfl ?_
  refine op_assign (nxlf rfl) rfl rfl ?_
  refine At.opsNil ?_
  refine At.norm (hk_1 ?_)
  refine At.seq fun K2 hk_2 => ?_
  refine At.region ?_
  refine op_move (nxlf rfl) rfl rfl ?_
  refine op_callA (nxla rfl) (.cons rfl .nil) (From_f hb (by omega)) Try.func119 rfl rfl (by simp) rfl ?_
  rintro v11 L11 ⟨M11, p11, rfl, rfl, s11⟩
  change At _ _ _ [M11, R] _
  refine op_assign (nxlf rfl) rfl rfl ?_
  refine At.opsNil ?_
  refine At.norm (hk_2 ?_)
  refine At.seq fun K3 hk_3 => ?_
  refine At.seq fun K4 hk_4 => ?_
  refine At.region ?_
  refine op_move (nxlf rfl) rfl rfl ?_
  refine op_lenS (nxlf rfl) se95 rfl rfl ?_
  refine op_eql (nxlf rfl) rfl rfl rfl ?_
  refine At.opsNil ?_
  refine At.norm (hk_4 ?_)
  refine At.condP rfl (fun c14 => ?_) (fun c14 => ?_)
  · refine At.seq fun K5 hk_5 => ?_
    refine At.region ?_
    refine op_assign (nxlf rfl) rfl rfl ?_
    refine op_assign (nxlf rfl) rfl rfl ?_
    refine op_assign (nxlf rfl) rfl rfl ?_
    refine At.opsNil ?_
    refine At.norm (hk_5 ?_)
    refine At.ret (At.thenRet (?_))
    refine At.sub (L' := [R]) (.cons _ (.cons_cons _ (.slnil))) ?_
    refine At.retN (L1 := []) rfl (.tmp rfl (.tmp rfl (.tmp rfl .nil))) rfl (.refl _) (.refl _) ?_
    exact ⟨rfl, rfl⟩
  · exfalso; omega
theorem NDivMod_f (ha : RSl N 1 ao n ca (u8s a)) (hb : RSl M 1 bo m cb (u8s b)) (hn : n ≤ 274877906944) (hm : m ≤ 274877906944) (h0 : 0 < be b) : Fn Try.prog 39 #[.slice ao n ca, .slice bo m cb] [] [N, M] (DivModP (be a) (be b)) := by
  have hal := ha.len8
  have hbl := hb.len8
  have hxa := limbs_be_len a
  have hxb := limbs_be_len b
  have hz : (limbsOf (be b)).length ≠ 0 := fun h => by have := limbs_zero.1 h; omega
  have hs1 : (limbsOf (be a / be b)).length ≤ (limbsOf (be a)).length := limbs_mono (Nat.div_le_self _ _)
  have hs2 : (limbsOf (be a % be b)).length ≤ (limbsOf (be b)).length := limbs_mono (Nat.le_of_lt (Nat.mod_lt _ h0))
  refine Fn.enter (vs := [.slice ao n ca, .slice bo m cb]) Try.func39 rfl rfl rfl ?_
  intro E R hR
  have ha := ha.le (hR N (by simp))
  have hb := hb.le (hR M (by simp))
  change At _ _ E [R] _
  refine At.seq fun K1 hk_1 => ?_
  refine At.region ?_
  refine op_assign (nxlf rfl) rfl rfl ?_
  refine op_assign (nxlf rfl) rfl rfl ?_
  refine op_assign (nxlf rfl) rfl rfl ?_
  refine At.opsNil ?_
  refine At.norm (hk_1 ?_)
  refine At.seq fun K2 hk_2 => ?_
  refine At.region ?_
  refine op_move (nxlf rfl) rfl rfl ?_
  refine op_callA (nxla rfl) (.cons rfl .nil) (From_f hb (by omega)) Try.func119 rfl rfl (by simp) rfl ?_
  rintro v11 L11 ⟨M11, p11, rfl, rfl, s11⟩
  change At _ _ _ [M11, R] _
  refine op_assign (nxlf rfl) rfl rfl ?_
  refine At.opsNil ?_
  refine At.norm (hk_2 ?_)
  refine At.seq fun K3 hk_3 => ?_
  refine At.seq fun K4 hk_4 => ?_
  refine At.region ?_
  refine op_move (nxlf rfl) rfl rfl ?_
  refine op_lenS (nxlf rfl) se95 rfl rfl ?_
  refine op_eql (nxlf rfl) rfl rfl rfl ?_
  refine At.opsNil ?_
  refine At.norm (hk_4 ?_)
  refine At.condP rfl (fun c14 => ?_) (fun c14 => ?_)
  · exfalso; omega
  · refine At.skip ?_
    refine At.norm (hk_3 ?_)
    refine At.seq fun K5 hk_5 => ?_
    refine At.region ?_
    refine op_move (nxlf rfl) rfl rfl ?_
    refine op_callA (nxla rfl) (.cons rfl .nil) (From_f ha (by omega)) Try.func119 rfl rfl (by simp) rfl ?_
    rintro v17 L17 ⟨M17, p17, rfl, rfl, s17⟩
    change At _ _ _ [M17, M11, R] _
    refine op_move (nxlf rfl) rfl rfl ?_
    refine op_callA (nxla rfl) (.cons rfl (.cons rfl .nil)) (DivMod_f s17 s11 (by omega) (by omega) (by rw [v64_limbsOf]; exact h0)) Try.func120 rfl rfl (by simp) rfl ?_
    rintro v19 L19 ⟨Mq, pq, cq, Mr, pr, cr, rfl, rfl, sq, sr⟩
    change At _ _ _ [Mq, Mr, M17, M11, R] _
    rw [v64_limbsOf, v64_limbsOf] at sq sr ⊢
    refine op_move (nxlf rfl) rfl rfl ?_
    refine op_extract (nxlf rfl) rfl rfl rfl ?_
    refine op_extract (nxlf rfl) rfl rfl rfl ?_
    refine op_assign (nxlf rfl) rfl rfl ?_
    refine op_assign (nxlf rfl) rfl rfl ?_
    refine At.opsNil ?_
    refine At.norm (hk_5 ?_)
    refine At.seq fun K6 hk_6 => ?_
    refine At.region ?_
    refine op_move (nxlf rfl) rfl rfl ?_
    refine op_callA (nxla rfl) (.cons rfl .nil) (Bytes_f sq (by omega)) Try.func121 rfl rfl (by simp) rfl ?_
    rintro v23 L23 ⟨M23, p23, rfl, rfl, r23⟩
    change At _ _ _ [M23, Mq, Mr, M17, M11, R] _
    refine op_move (nxlf rfl) rfl rfl ?_
    refine op_callA (nxla rfl) (.cons rfl .nil) (Bytes_f sr (by omega)) Try.func121 rfl rfl (by simp) rfl ?_
    rintro v25 L25 ⟨M25, p25, rfl, rfl, r25⟩
    change At _ _ _ [M25, M23, Mq, Mr, M17, M11, R] _
    refine op_assign (nxlf rfl) rfl rfl ?_
    refine op_assign (nxlf rfl) rfl rfl ?_
    refine op_assign (nxlf rfl) rfl rfl ?_
    refine At.opsNil ?_
    refine At.norm (hk_6 ?_)
    refine At.ret (?_)
    refine At.sub (L' := [M25, M23, R]) (.cons_cons _ (.cons_cons _ (.cons _ (.cons _ (.cons _ (.cons _ (.cons_cons _ (.slnil)))))))) ?_
    refine At.perm sel2 ?_
    refine At.perm sel1 ?_
    refine At.perm sel2 ?_
    refine At.retN (L1 := [M23, M25]) rfl (.tmp rfl (.tmp rfl (.tmp rfl .nil))) rfl (.refl _) (.refl _) ?_
    rw [v64_limbsOf] at r23 r25 ⊢
    rw [v64_limbsOf]
    exact ⟨M23, p23, _, M25, p25, _, rfl, rfl, r23, r25⟩
theorem NFill_no {w : Int} (ha : RSl N 1 ao n ca (u8s a)) (hn : n ≤ 274877906944) (hw : w < 0 ∨ 65536 < w ∨ w < ((bytesOf (be a)).length : Int)) : Fn Try.prog 72 #[.slice ao n ca, .int .i64 w] [] [N] (fun v L => v = .tuple #[.slice none 0 0, .bool false] ∧ L = []) := by
  have hal := ha.len8
  refine Fn.enter (vs := [.slice ao n ca, .int .i64 w]) Try.func72 rfl rfl rfl ?_
  intro E R hR
  have ha := ha.le (hR N (by simp))
  change At _ _ E [R] _
  refine At.seq fun K1 hk_1 => ?_
  refine At.region ?_
  refine op_assign (nxlf rfl) rfl rfl ?_
  refine op_assign (nxlf rfl) rfl rfl ?_
  refine At.opsNil ?_
  refine At.norm (hk_1 ?_)
  refine At.seq fun K2 hk_2 => ?_
  refine At.region ?_
  refine op_move (nxlf rfl) rfl rfl ?_
  refine op_callA (nxla rfl) (.cons rfl .nil) (NTrim_f ha hn) Try.func67 rfl rfl (by simp) rfl ?_
  rintro v8 L8 ⟨M8, p8, c8, rfl, rfl, r8⟩
  change At _ _ _ [M8, R] _
  refine op_assign (nxlf rfl) rfl rfl ?_
  refine At.opsNil ?_
  refine At.norm (hk_2 ?_)
  refine At.seq fun K3 hk_3 => ?_
  refine At.seq fun K4 hk_4 => ?_
  refine At.region ?_
  refine op_move (nxlf rfl) rfl rfl ?_
  refine op_lss (nxlf rfl) rfl rfl rfl ?_
  refine op_move (nxlf rfl) rfl rfl ?_
  refine At.partP (d := 11) rfl (fun g11 => ?_) (fun g11 => ?_)
  · refine op_skip rfl rfl rfl rfl rfl rfl rfl ?_
    refine op_skip rfl rfl rfl rfl rfl rfl rfl ?_
    refine op_pickT (nxlf rfl) rfl rfl rfl ?_
    refine op_move (nxlf rfl) rfl rfl ?_
    refine op_skip rfl rfl rfl rfl rfl rfl rfl ?_
    refine op_skip rfl rfl rfl rfl rfl rfl rfl ?_
    refine op_skip rfl rfl rfl rfl rfl rfl rfl ?_
    refine op_skip rfl rfl rfl rfl rfl rfl rfl ?_
    refine op_pickT (nxlf rfl) rfl rfl rfl ?_
    refine At.opsNil ?_
    refine At.norm (hk_4 ?_)
    refine At.condT rfl ?_
    refine At.seq fun K5 hk_5 => ?_
    refine At.region ?_
    refine op_assign (nxlf rfl) rfl rfl ?_
    refine op_assign (nxlf rfl) rfl rfl ?_
    refine At.opsNil ?_
    refine At.norm (hk_5 ?_)
    refine At.ret (At.thenRet (?_))
    refine At.sub (L' := [R]) (.cons _ (.cons_cons _ (.slnil))) ?_
    refine At.retN (L1 := []) rfl (.tmp rfl (.tmp rfl .nil)) rfl (.refl _) (.refl _) ?_
    exact ⟨rfl, rfl⟩
  · refine op_move (nxgf rfl rfl rfl rfl) rfl rfl ?_
    refine op_gtr (nxgf rfl rfl rfl rfl) rfl rfl rfl ?_
    refine op_pickF (nxlf rfl) rfl rfl rfl ?_
    refine op_move (nxlf rfl) rfl rfl ?_
    refine At.partP (d := 15) rfl (fun g15 => ?_) (fun g15 => ?_)
    · refine op_skip rfl rfl rfl rfl rfl rfl rfl ?_
      refine op_skip rfl rfl rfl rfl rfl rfl rfl ?_
      refine op_skip rfl rfl rfl rfl rfl rfl rfl ?_
      refine op_skip rfl rfl rfl rfl rfl rfl rfl ?_
      refine op_pickT (nxlf rfl) rfl rfl rfl ?_
      refine At.opsNil ?_
      refine At.norm (hk_4 ?_)
      refine At.condT rfl ?_
      refine At.seq fun K6 hk_6 => ?_
      refine At.region ?_
      refine op_assign (nxlf rfl) rfl rfl ?_
      refine op_assign (nxlf rfl) rfl rfl ?_
      refine At.opsNil ?_
      refine At.norm (hk_6 ?_)
      refine At.ret (At.thenRet (?_))
      refine At.sub (L' := [R]) (.cons _ (.cons_cons _ (.slnil))) ?_
      refine At.retN (L1 := []) rfl (.tmp rfl (.tmp rfl .nil)) rfl (.refl _) (.refl _) ?_
      exact ⟨rfl, rfl⟩
    · refine op_move (nxgf rfl rfl rfl rfl) rfl rfl ?_
      refine op_lenS (nxgf rfl rfl rfl rfl) se34 rfl rfl ?_
      refine op_move (nxgf rfl rfl rfl rfl) rfl rfl ?_
      refine op_gtr (nxgf rfl rfl rfl rfl) rfl rfl rfl ?_
      refine op_pickF (nxlf rfl) rfl rfl rfl ?_
      refine At.opsNil ?_
      refine At.norm (hk_4 ?_)
      refine At.condP rfl (fun c20 => ?_) (fun c20 => ?_)
      · refine At.seq fun K7 hk_7 => ?_
        refine At.region ?_
        refine op_assign (nxlf rfl) rfl rfl ?_
        refine op_assign (nxlf rfl) rfl rfl ?_
        refine At.opsNil ?_
        refine At.norm (hk_7 ?_)
        refine At.ret (At.thenRet (?_))
        refine At.sub (L' := [R]) (.cons _ (.cons_cons _ (.slnil))) ?_
        refine At.retN (L1 := []) rfl (.tmp rfl (.tmp rfl .nil)) rfl (.refl _) (.refl _) ?_
        exact ⟨rfl, rfl⟩
      · exfalso; omega
theorem NFill_f {w : Nat} (ha : RSl N 1 ao n ca (u8s a)) (hn : n ≤ 274877906944) (hw : w ≤ 65536) (hl : (bytesOf (be a)).length ≤ w) : Fn Try.prog 72 #[.slice ao n ca, .int .i64 (w : Int)] [] [N] (fun v L => ∃ M p c, v = .tuple #[.slice p w c, .bool true] ∧ L = [M] ∧ Row M 5 1 p w c (u8s (bytesN w (be a)))) := by
  have hal := ha.len8
  have hV : be a < 256 ^ w := byteLen_le.1 (by rw [← length_bytesOf]; exact hl)
  refine Fn.enter (vs := [.slice ao n ca, .int .i64 (w : Int)]) Try.func72 rfl rfl rfl ?_
  intro E R hR
  have ha := ha.le (hR N (by simp))
  change At _ _ E [R] _
  refine At.seq fun K1 hk_1 => ?_
  refine At.region ?_
  refine op_assign (nxlf rfl) rfl rfl ?_
  refine op_assign (nxlf rfl) rfl rfl ?_
  refine At.opsNil ?_
  refine At.norm (hk_1 ?_)
  refine At.seq fun K2 hk_2 => ?_
  refine At.region ?_
  refine op_move (nxlf rfl) rfl rfl ?_
  refine op_callA (nxla rfl) (.cons rfl .nil) (NTrim_f ha hn) Try.func67 rfl rfl (by simp) rfl ?_
  rintro v8 L8 ⟨M8, p8, c8, rfl, rfl, r8⟩
  change At _ _ _ [M8, R] _
  have s8 := r8.rsl
  refine op_assign (nxlf rfl) rfl rfl ?_
  refine At.opsNil ?_
  refine At.norm (hk_2 ?_)
  refine At.seq fun K3 hk_3 => ?_
  refine At.seq fun K4 hk_4 => ?_
  refine At.region ?_
  refine op_move (nxlf rfl) rfl rfl ?_
  refine op_lss (nxlf rfl) rfl rfl rfl ?_
  refine op_move (nxlf rfl) rfl rfl ?_
  refine At.partP (d := 11) rfl (fun g11 => ?_) (fun g11 => ?_)
  · exfalso; omega
  · refine op_move (nxgf rfl rfl rfl rfl) rfl rfl ?_
    refine op_gtr (nxgf rfl rfl rfl rfl) rfl rfl rfl ?_
    refine op_pickF (nxlf rfl) rfl rfl rfl ?_
    refine op_move (nxlf rfl) rfl rfl ?_
    refine At.partP (d := 15) rfl (fun g15 => ?_) (fun g15 => ?_)
    · exfalso; omega
    · refine op_move (nxgf rfl rfl rfl rfl) rfl rfl ?_
      refine op_lenS (nxgf rfl rfl rfl rfl) se34 rfl rfl ?_
      refine op_move (nxgf rfl rfl rfl rfl) rfl rfl ?_
      refine op_gtr (nxgf rfl rfl rfl rfl) rfl rfl rfl ?_
      refine op_pickF (nxlf rfl) rfl rfl rfl ?_
      refine At.opsNil ?_
      refine At.norm (hk_4 ?_)
      refine At.condP rfl (fun c20 => ?_) (fun c20 => ?_)
      · exfalso; omega
      · refine At.skip ?_
        refine At.norm (hk_3 ?_)
        refine At.seq fun K5 hk_5 => ?_
        refine At.region ?_
        refine op_move (nxlf rfl) rfl rfl ?_
        refine op_move (nxlf rfl) rfl rfl ?_
        refine op_lenS (nxlf rfl) se34 rfl rfl ?_
        refine op_subI (nxlf rfl) rfl rfl (by omega) (by omega) rfl ?_
        refine op_make (nxla rfl) Try.underlying34 te5 rfl rfl (show _ = (((w - (bytesOf (be a)).length : Nat)) : Int) from by omega) (show _ = (((w - (bytesOf (be a)).length : Nat)) : Int) from by omega) (by omega) (by unfold maxLen; omega) rfl (fun N25 a25 r25 => ?_)
        rw [made_one _ _ rfl, zero_u8s] at r25
        have s25 := r25.rsl
        refine op_move (nxlf rfl) rfl rfl ?_
        refine op_append (nxl rfl) Try.underlying34 Try.underlying34 te5 rfl rfl r25 s8 (by first | exact mem0 | exact mem1 | exact mem2 | exact mem3 | exact mem4 | exact mem5 | exact mem6 | exact mem7 | exact mem8 | exact mem9) (by first | exact one_u8s _ | exact one_u64s _ | exact one_u32s _ | (intro u hu; simp at hu; subst hu; rfl)) (by omega) (by omega) sel0 rfl (fun N27 a27 p27 r27 => ?_)
        have s27 := r27.rsl
        refine op_assign (nxlf rfl) rfl rfl ?_
        refine op_assign (nxlf rfl) rfl rfl ?_
        refine At.opsNil ?_
        refine At.norm (hk_5 ?_)
        refine At.ret (?_)
        refine At.sub (L' := [N27, R]) (.cons_cons _ (.cons _ (.cons_cons _ (.slnil)))) ?_
        refine At.retN (L1 := [N27]) rfl (.tmp rfl (.tmp rfl .nil)) rfl (.refl _) (.refl _) ?_
        rw [show u8s (List.replicate (w - (bytesOf (be a)).length) 0) ++ u8s (bytesOf (be a)) = u8s (List.replicate (w - (bytesOf (be a)).length) 0 ++ bytesOf (be a)) by simp [u8s], bytesN_pad hV, show w - (bytesOf (be a)).length + (bytesOf (be a)).length = w by omega] at r27
        rw [show w - (bytesOf (be a)).length + (bytesOf (be a)).length = w by omega]
        exact ⟨N27, _, _, rfl, rfl, r27⟩
end
end Go.Proofs.Ytefljbbpaideaaa
