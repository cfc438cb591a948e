/- Several texts in one: see the remarks ahead of each part. No condition but those told there. -/
import Derived.Test.YtbmlhdecnfplaaaKRf4
import Derived.Test.YtbmlhdecnfplaaaK15
import Derived.Test.YtbmlhdecnfplaaaK14
import Derived.Test.YtbmlhdecnfplaaaK19
/- The reference's DivMod, Mod, ModExp in full. Condition: numbers of at most some 2^40 digits; the divisor is not 0. -/
namespace Go.Proofs.Ytbmlhdecnfplaaa
set_option linter.unusedVariables false
set_option linter.unusedSimpArgs false
open Go Go.RowKit
theorem Hp.empty {E w : World} {L : List Heaplet} (h : Hp E L w) : Hp E (nilH :: L) w :=
  ⟨h.os, h.tape, h.output, fun N hN => by
    rcases List.mem_cons.1 hN with rfl | hN
    · intro k o hk; cases hk
    · exact h.sub N hN, List.pairwise_cons.2 ⟨fun N _ k => .inl rfl, h.sep⟩⟩
theorem Fn.liftR {P : Program} {f : FuncId} {args : Array Value} {L0 Lr : List Heaplet} {R : Heaplet} {Post : Value → List Heaplet → Prop} (h : Fn P f args L0 Lr Post) (hl : ∀ N ∈ Lr, N.le R) : Fn P f args L0 [R] Post := fun E w F hp hr =>
  h E w F hp fun M hM => Heaplet.le_trans (hl M hM) (hr R (by simp))
/-- A quotient in new memory, and a rest that may be what was divided. -/
def DivR (N : Heaplet) (A B : Nat) (v : Value) (L : List Heaplet) : Prop :=
  ∃ Mq aq cq Mr ar cr, v = .tuple #[.slice aq (digsOf A).length cq, .slice ar (digsOf B).length cr] ∧ L = [Mq, Mr] ∧ RSl Mq 1 aq (digsOf A).length cq (u32s (digsOf A)) ∧ (RSl Mr 1 ar (digsOf B).length cr (u32s (digsOf B)) ∨ RSl N 1 ar (digsOf B).length cr (u32s (digsOf B)))
def ModR (N : Heaplet) (V : Nat) (v : Value) (L : List Heaplet) : Prop :=
  ∃ Q p c, v = .slice p (digsOf V).length c ∧ L = [Q] ∧ (RSl Q 1 p (digsOf V).length c (u32s (digsOf V)) ∨ RSl N 1 p (digsOf V).length c (u32s (digsOf V)))
section
variable {N M : Heaplet} {ax bx : Option Addr} {na nb ca cb A B : Nat}
theorem rDivMod_f (ha : RSl N 1 ax na ca (u32s (digsOf A))) (hb : RSl M 1 bx nb cb (u32s (digsOf B))) (hn : na ≤ 1099511627770) (hm : nb ≤ 1099511627770) (hB : 0 < B) :
    Fn Try.prog 38 #[.slice ax na ca, .slice bx nb cb] [] [N, M] (DivR N (A / B) (A % B)) := by
  rcases Nat.lt_or_ge A B with h | h
  · intro E w R hw hr
    refine (rDivMod_lt ha hb h E w R hw hr).mono ?_
    rintro e w' ⟨v, L1, rfl, ⟨rfl, rfl⟩, hp⟩
    have hal := ha.len32
    refine ⟨_, [nilH, nilH], rfl, ⟨nilH, none, 0, nilH, ax, ca, ?_, rfl, ?_, .inr ?_⟩, hp.empty.empty⟩
    · rw [Nat.div_eq_of_lt h, Nat.mod_eq_of_lt h, hal]; rfl
    · rw [Nat.div_eq_of_lt h]; exact RSl.nil _ _
    · rw [Nat.mod_eq_of_lt h, hal]; exact ha
  · refine (rDivMod_ge ha hb hn hm h hB).mono fun v L hP => ?_
    obtain ⟨M1, a1, c1, M2, a2, c2, rfl, rfl, h1, h2⟩ := hP
    exact ⟨M1, a1, c1, M2, a2, c2, rfl, rfl, h1, .inl h2⟩
/-- A slice that lies in one of two parts of the memory. -/
theorem or_mul {Q R : Heaplet} {xo : Option Addr} {nx cx X : Nat} (ha : RSl N 1 ax na ca (u32s (digsOf A))) (hx : RSl Q 1 xo nx cx (u32s (digsOf X)) ∨ RSl R 1 xo nx cx (u32s (digsOf X))) (hn : na ≤ 1099511627776) (hm : nx ≤ 1099511627776) :
    Fn Try.prog 36 #[.slice ax na ca, .slice xo nx cx] [] [N, Q, R] (DigsP (A * X)) := by
  rcases hx with h | h
  · have := rMul_f ha h hn hm
    rw [v32_digsOf, v32_digsOf] at this
    exact this.more (by simp)
  · have := rMul_f ha h hn hm
    rw [v32_digsOf, v32_digsOf] at this
    exact this.more (by simp)
end
theorem digs_mul {X Y n : Nat} (hx : (digsOf X).length ≤ n) (hy : (digsOf Y).length ≤ n) : (digsOf (X * Y)).length ≤ 2 * n := by
  rw [length_digsOf]
  refine digLen_le.2 ?_
  have h1 : X < 2 ^ (32 * n) := digLen_le.1 (by rw [← length_digsOf]; exact hx)
  have h2 : Y < 2 ^ (32 * n) := digLen_le.1 (by rw [← length_digsOf]; exact hy)
  rw [show 32 * (2 * n) = 32 * n + 32 * n by omega, Nat.pow_add]
  exact Nat.mul_lt_mul'' h1 h2
section
variable {N M Nm : Heaplet} {bx ex mx : Option Addr} {nb ne nm cb ce cm B E' Mv : Nat}
end
end Go.Proofs.Ytbmlhdecnfplaaa
/- The reference's words: sums, products, quotients, with signs and without. No condition. -/
namespace Go.Proofs.Ytbmlhdecnfplaaa
set_option linter.unusedVariables false
set_option linter.unusedSimpArgs false
open Go Go.RowKit
theorem rN_w {x : Nat} (hx : x < WW) : Fn Try.prog 13 #[wo x] [] [] (DigsP x) := by
  obtain ⟨a, b, c, d, h⟩ := four (length_wl x)
  have hv := v64_wl_lt hx
  rw [h] at hv
  have := rN_f a b c d
  rw [hv] at this
  have e : wo x = .agg #[.int .u64 (a.toNat : Int), .int .u64 (b.toNat : Int), .int .u64 (c.toNat : Int), .int .u64 (d.toNat : Int)] := by rw [wo, h]; rfl
  rw [e]
  exact this
theorem rW_w {N : Heaplet} {p : Option Addr} {n c X : Nat} (h : RSl N 1 p n c (u32s (digsOf X))) : Fn Try.prog 40 #[.slice p n c] [] [N] (fun v L => v = wo X ∧ L = []) := by
  refine (rW_f h).mono ?_
  rintro v L ⟨rfl, a, b, c, d, rfl, hv⟩
  rw [v32_digsOf] at hv
  refine ⟨?_, rfl⟩
  rw [wo, ← wl_of (w := [a, b, c, d]) rfl hv]; rfl
theorem or_W {Q N : Heaplet} {p : Option Addr} {n c X : Nat} (h : RSl Q 1 p n c (u32s (digsOf X)) ∨ RSl N 1 p n c (u32s (digsOf X))) : Fn Try.prog 40 #[.slice p n c] [] [Q, N] (fun v L => v = wo X ∧ L = []) := by
  rcases h with h | h
  · exact (rW_w h).more (by simp)
  · exact (rW_w h).more (by simp)
theorem or_sub {N Q R : Heaplet} {ax xo : Option Addr} {na ca nx cx A X : Nat} (ha : RSl N 1 ax na ca (u32s (digsOf A))) (hx : RSl Q 1 xo nx cx (u32s (digsOf X)) ∨ RSl R 1 xo nx cx (u32s (digsOf X))) (hn : na ≤ 1099511627776) (hm : (digsOf X).length ≤ (digsOf A).length) (hge : X ≤ A) :
    Fn Try.prog 18 #[.slice ax na ca, .slice xo nx cx] [] [N, Q, R] (DigsP (A - X)) := by
  have hal := ha.len32
  rcases hx with h | h
  · have hxl := h.len32
    have := rSub_f ha h hn (by omega) (by rw [v32_digsOf, v32_digsOf]; exact hge)
    rw [v32_digsOf, v32_digsOf] at this
    exact this.more (by simp)
  · have hxl := h.len32
    have := rSub_f ha h hn (by omega) (by rw [v32_digsOf, v32_digsOf]; exact hge)
    rw [v32_digsOf, v32_digsOf] at this
    exact this.more (by simp)
theorem top_f : Fn Try.prog 66 #[] [] [] (DigsP WW) := by
  refine Fn.enter (vs := []) Try.func66 rfl rfl rfl ?_
  intro E R hR
  change At _ _ E [R] _
  refine At.seq fun K1 hk_1 => ?_
  refine At.region ?_
  refine op_assign (nxlf rfl) rfl rfl ?_
  refine At.opsNil ?_
  refine At.norm (hk_1 ?_)
  refine At.seq fun K2 hk_2 => ?_
  refine At.region ?_
  refine op_lit (nxla rfl) Try.underlying43 ze80 sz80 (.cons rfl .nil) rfl rfl (by simp [Value.cells]) rfl rfl rfl (fun N1 a1 r1 => ?_)
  simp only [flatV, List.flatMap_cons, List.flatMap_nil, Value.cells, List.append_nil, List.cons_append, List.nil_append] at r1
  have s1 := r1.rsl
  change Row N1 _ 1 a1 1 1 (u32s [1]) at r1
  have s1 := r1.rsl
  refine op_callA (nxla rfl) (.cons rfl (.cons rfl .nil)) (rShl_f s1 256 (by omega) (by omega)) Try.func41 rfl rfl (by simp) rfl ?_
  rintro v2 L2 ⟨M2, p2, c2, rfl, rfl, s2⟩
  change At _ _ _ [M2, N1, R] _
  rw [show v32 [1] * 2 ^ 256 = WW from by rw [show v32 [1] = 1 from rfl, Nat.one_mul]; rfl] at s2 ⊢
  refine op_assign (nxlf rfl) rfl rfl ?_
  refine At.opsNil ?_
  refine At.norm (hk_2 ?_)
  refine At.ret (?_)
  refine At.sub (L' := [M2, R]) (.cons_cons _ (.cons _ (.cons_cons _ (.slnil)))) ?_
  refine At.ret1 (L1 := [M2]) rfl (.tmp rfl .nil) (.refl _) (.refl _) ?_
  exact ⟨M2, p2, c2, rfl, rfl, s2⟩
theorem dig_w {x : Nat} (hx : x < WW) : (digsOf x).length ≤ 8 := by rw [length_digsOf]; exact digLen_le.2 hx
theorem two_pow_lt (m k : Nat) (h : m + 1 < k) : 2 * 2 ^ m < 2 ^ k := by
  rw [← Nat.pow_succ']
  exact Nat.pow_lt_pow_right (by decide) h
theorem WW_lt (k : Nat) (hk : 9 ≤ k) : 2 * WW < 2 ^ (32 * k) := two_pow_lt 256 (32 * k) (by omega)
theorem dig_2top {X : Nat} (h : X ≤ 2 * WW) : (digsOf X).length ≤ 9 := by
  obtain ⟨k, hk⟩ : ∃ k : Nat, k = 9 := ⟨_, rfl⟩
  rw [← hk, length_digsOf]
  exact digLen_le.2 (Nat.lt_of_le_of_lt h (WW_lt k (by omega)))
theorem dig_top : (digsOf WW).length ≤ 9 := dig_2top (by omega)
end Go.Proofs.Ytbmlhdecnfplaaa
/- The reference of package head: fits, part, the excess, the price of blob gas. No condition. -/
namespace Go.Proofs.Ytbmlhdecnfplaaa
set_option linter.unusedVariables false
set_option linter.unusedSimpArgs false
open Go Go.RowKit
theorem digs_le {V k : Nat} (h : V < 2 ^ k) : (digsOf V).length ≤ (k + 31) / 32 := by
  rw [length_digsOf]
  have := bitLen_le.2 h
  omega
theorem digs_nil {V : Nat} : (digsOf V).length = 0 ↔ V = 0 := by
  rw [length_digsOf]
  have h := bitLen_le (n := V) (k := 0)
  rw [Nat.pow_zero] at h
  omega
theorem digs_mul2 {A B p q V : Nat} (ha : A < 2 ^ p) (hb : B < 2 ^ q) (hv : V ≤ A * B) : (digsOf V).length ≤ (p + q + 31) / 32 := by
  refine digs_le ?_
  rw [Nat.pow_add]
  exact Nat.lt_of_le_of_lt hv (Nat.mul_lt_mul'' ha hb)
theorem digs_add2 {A B m : Nat} (ha : (digsOf A).length ≤ m) (hb : (digsOf B).length ≤ m) : (digsOf (A + B)).length ≤ m + 1 := by
  rw [length_digsOf] at ha hb ⊢
  have h1 : A < 2 ^ (32 * m) := bitLen_le.1 (by omega)
  have h2 : B < 2 ^ (32 * m) := bitLen_le.1 (by omega)
  have h3 : bitLen (A + B) ≤ 32 * m + 1 := bitLen_le.2 (by rw [Nat.pow_succ]; omega)
  omega
theorem dword_len {A : Nat} (h : A < WW) : (digsOf A).length ≤ 8 := digs_le (k := 256) h
theorem du64_len (x : UInt64) : (digsOf x.toNat).length ≤ 2 := digs_le (k := 64) x.toNat_lt
theorem dpart_len {b g a : Nat} (hb : b < WW) (ha : a < 2 ^ 64) : (digsOf (partN b g a)).length ≤ 10 := digs_mul2 (p := 256) (q := 64) hb ha (Nat.le_trans (Nat.div_le_self ..) (Nat.div_le_self ..))
theorem dmore_len {b g a : Nat} (hb : b < WW) (ha : a < 2 ^ 64) : (digsOf (moreN b g a)).length ≤ 10 := by
  unfold moreN
  split
  · exact Nat.le_trans (digs_le (V := 1) (k := 1) (by decide)) (by decide)
  · exact dpart_len hb ha
theorem dbase_len {gl gu b : Nat} (hb : b < WW) (hu : gu < 2 ^ 64) : (digsOf (baseF gl gu b)).length ≤ 11 := by
  unfold baseF
  split
  · exact digs_add2 (Nat.le_trans (dword_len hb) (by decide)) (dmore_len hb (Nat.lt_of_le_of_lt (Nat.sub_le ..) hu))
  · exact Nat.le_trans (digs_mono (Nat.sub_le ..)) (Nat.le_trans (dword_len hb) (by decide))
section
variable {N M : Heaplet} {p q : Option Addr} {n m c k A B : Nat}
theorem dAdd_f (ha : RSl N 1 p n c (u32s (digsOf A))) (hb : RSl M 1 q m k (u32s (digsOf B))) (hn : n ≤ 1099511627776) (hm : m ≤ 1099511627776) : Fn Try.prog 14 #[.slice p n c, .slice q m k] [] [N, M] (DigsP (A + B)) := by
  have := rAdd_f ha hb hn hm
  rw [v32_digsOf, v32_digsOf] at this
  exact this
theorem dSub_f (ha : RSl N 1 p n c (u32s (digsOf A))) (hb : RSl M 1 q m k (u32s (digsOf B))) (hn : n ≤ 1099511627776) (hge : B ≤ A) : Fn Try.prog 18 #[.slice p n c, .slice q m k] [] [N, M] (DigsP (A - B)) := by
  have ea := ha.len32
  have eb := hb.len32
  have := rSub_f ha hb hn (by rw [← ea, ← eb]; exact digs_mono hge) (by rw [v32_digsOf, v32_digsOf]; exact hge)
  rw [v32_digsOf, v32_digsOf] at this
  exact this
theorem dMul_f (ha : RSl N 1 p n c (u32s (digsOf A))) (hb : RSl M 1 q m k (u32s (digsOf B))) (hn : n ≤ 1099511627776) (hm : m ≤ 1099511627776) : Fn Try.prog 36 #[.slice p n c, .slice q m k] [] [N, M] (DigsP (A * B)) := by
  have := rMul_f ha hb hn hm
  rw [v32_digsOf, v32_digsOf] at this
  exact this
theorem dShr_f (ha : RSl N 1 p n c (u32s (digsOf A))) (s : Nat) (hn : n ≤ 1099511627776) (hs : s ≤ 1099511627776) : Fn Try.prog 15 #[.slice p n c, .int .i64 (s : Int)] [] [N] (DigsP (A / 2 ^ s)) := by
  have := rShr_f ha s hn hs
  rw [v32_digsOf] at this
  exact this
theorem dLen_f (ha : RSl N 1 p n c (u32s (digsOf A))) (hn : n ≤ 1099511627776) : Fn Try.prog 53 #[.slice p n c] [] [N] (fun v L => v = .int .i64 ((bitLen A : Nat) : Int) ∧ L = []) := by
  have := rLen_f ha hn
  rw [v32_digsOf] at this
  exact this
theorem rfits_n (h : RSl N 1 p n c (u32s (digsOf A))) (hn : n ≤ 1099511627776) (ha : ¬ A < WW) : Fn Try.prog 42 #[.slice p n c] [] [N] (fun v L => v = .tuple #[wo 0, .bool false] ∧ L = []) := by
  have hb : ¬ bitLen A ≤ 256 := fun h1 => ha (bitLen_le.1 h1)
  refine Fn.enter (vs := [.slice p n c]) Try.func42 rfl rfl rfl ?_
  intro E R hR
  have h := h.le (hR N (by simp))
  change At _ _ E [R] _
  refine At.seq fun K1 hk_1 => ?_
  refine At.region ?_
  refine op_alloc (nxla rfl) ze29 rfl (fun N2 b2 B2 => ?_)
  change Blk N2 b2 _ [.int .u64 0, .int .u64 0, .int .u64 0, .int .u64 0] at B2
  refine op_assign (nxlf rfl) rfl rfl ?_
  refine At.opsNil ?_
  refine At.norm (hk_1 ?_)
  refine At.seq fun K2 hk_2 => ?_
  refine At.seq fun K3 hk_3 => ?_
  refine At.region ?_
  refine op_move (nxlf rfl) rfl rfl ?_
  refine op_callA (nxla rfl) (.cons rfl .nil) (dLen_f h hn) Try.func53 rfl rfl (by simp) rfl ?_
  rintro v5 L5 ⟨rfl, rfl⟩
  change At _ _ _ [N2, R] _
  refine op_gtr (nxlf rfl) rfl rfl rfl ?_
  refine At.opsNil ?_
  refine At.norm (hk_3 ?_)
  refine At.condP rfl (fun c6 => ?_) (fun c6 => ?_)
  · refine At.seq fun K4 hk_4 => ?_
    refine At.region ?_
    refine op_buildA (out := [.int .u64 0, .int .u64 0, .int .u64 0, .int .u64 0]) (nxlf rfl) ze29 ae29 .nil rfl rfl ?_
    refine op_store (nxl rfl) sz29 rfl rfl rfl rfl rfl B2 (by simp) sel0 (fun N2 B2 => ?_)
    simp only [setL, List.set] at B2
    refine op_assign (nxlf rfl) rfl rfl ?_
    refine At.opsNil ?_
    refine At.norm (hk_4 ?_)
    refine At.ret (At.thenRet (?_))
    refine At.retN (L1 := []) rfl (.cell rfl (res_agg (ds := [_, _, _, _]) ag29 B2 rfl rfl mem0) (.tmp rfl .nil)) rfl (.cons _ (.refl _)) (.refl _) ?_
    exact ⟨by rw [wo_zero], rfl⟩
  · exfalso; omega
theorem rfits_y (h : RSl N 1 p n c (u32s (digsOf A))) (hn : n ≤ 1099511627776) (ha : A < WW) : Fn Try.prog 42 #[.slice p n c] [] [N] (fun v L => v = .tuple #[wo A, .bool true] ∧ L = []) := by
  have hb : bitLen A ≤ 256 := bitLen_le.2 ha
  refine Fn.enter (vs := [.slice p n c]) Try.func42 rfl rfl rfl ?_
  intro E R hR
  have h := h.le (hR N (by simp))
  change At _ _ E [R] _
  refine At.seq fun K1 hk_1 => ?_
  refine At.region ?_
  refine op_alloc (nxla rfl) ze29 rfl (fun N2 b2 B2 => ?_)
  change Blk N2 b2 _ [.int .u64 0, .int .u64 0, .int .u64 0, .int .u64 0] at B2
  refine op_assign (nxlf rfl) rfl rfl ?_
  refine At.opsNil ?_
  refine At.norm (hk_1 ?_)
  refine At.seq fun K2 hk_2 => ?_
  refine At.seq fun K3 hk_3 => ?_
  refine At.region ?_
  refine op_move (nxlf rfl) rfl rfl ?_
  refine op_callA (nxla rfl) (.cons rfl .nil) (dLen_f h hn) Try.func53 rfl rfl (by simp) rfl ?_
  rintro v5 L5 ⟨rfl, rfl⟩
  change At _ _ _ [N2, R] _
  refine op_gtr (nxlf rfl) rfl rfl rfl ?_
  refine At.opsNil ?_
  refine At.norm (hk_3 ?_)
  refine At.condP rfl (fun c6 => ?_) (fun c6 => ?_)
  · exfalso; omega
  · refine At.skip ?_
    refine At.norm (hk_2 ?_)
    refine At.seq fun K4 hk_4 => ?_
    refine At.region ?_
    refine op_move (nxlf rfl) rfl rfl ?_
    refine op_callA (nxla rfl) (.cons rfl .nil) (rW_w h) Try.func40 rfl rfl (by simp) rfl ?_
    rintro v9 L9 ⟨rfl, rfl⟩
    change At _ _ _ [N2, R] _
    refine op_store (nxl rfl) sz29 rfl rfl rfl rfl rfl B2 (by simp) sel0 (fun N2 B2 => ?_)
    rw [setL_whole (by simp)] at B2
    refine op_assign (nxlf rfl) rfl rfl ?_
    refine At.opsNil ?_
    refine At.norm (hk_4 ?_)
    refine At.ret (?_)
    refine At.retN (L1 := []) rfl (.cell rfl (res_agg (ds := u64s (wl A)) ag29 B2 (by first | (rw [List.drop_zero, List.take_of_length_le (by first | (simp; done) | (simp; omega))]; done) | rfl) (by first | (simp; done) | (simp; omega)) mem0) (.tmp rfl .nil)) rfl (.cons _ (.refl _)) (.refl _) ?_
    exact ⟨rfl, rfl⟩
theorem rfits_f (h : RSl N 1 p n c (u32s (digsOf A))) (hn : n ≤ 1099511627776) : Fn Try.prog 42 #[.slice p n c] [] [N] (fun v L => v = .tuple #[wo (fitV A), .bool (decide (A < WW))] ∧ L = []) := by
  by_cases ha : A < WW
  · rw [fitV_y ha, decide_eq_true ha]; exact rfits_y h hn ha
  · rw [fitV_n ha, decide_eq_false ha]; exact rfits_n h hn ha
theorem rpart_f (h : RSl N 1 p n c (u32s (digsOf A))) (hA : A < WW) (a g : UInt64) (hg : 0 < g.toNat) : Fn Try.prog 50 #[.slice p n c, .int .u64 (a.toNat : Int), .int .u64 (g.toNat : Int)] [] [N] (DigsP (partN A g.toNat a.toNat)) := by
  have e := h.len32
  have hl := dword_len hA
  have h1 := du64_len a
  have h2 := du64_len g
  have h3 : (digsOf (A * a.toNat)).length ≤ 10 := digs_mul2 (p := 256) (q := 64) hA a.toNat_lt (Nat.le_refl _)
  have h4 : (digsOf (A * a.toNat / g.toNat)).length ≤ 10 := Nat.le_trans (digs_mono (Nat.div_le_self ..)) h3
  refine Fn.enter (vs := [.slice p n c, .int .u64 (a.toNat : Int), .int .u64 (g.toNat : Int)]) Try.func50 rfl rfl rfl ?_
  intro E R hR
  have h := h.le (hR N (by simp))
  change At _ _ E [R] _
  refine At.seq fun K1 hk_1 => ?_
  refine At.region ?_
  refine op_assign (nxlf rfl) rfl rfl ?_
  refine At.opsNil ?_
  refine At.norm (hk_1 ?_)
  refine At.seq fun K2 hk_2 => ?_
  refine At.region ?_
  refine op_move (nxlf rfl) rfl rfl ?_
  refine op_move (nxlf rfl) rfl rfl ?_
  refine op_callA (nxla rfl) (.cons rfl .nil) (Of32_f a) Try.func16 rfl rfl (by simp) rfl ?_
  rintro v12 L12 ⟨N12, p12, c12, rfl, rfl, s12⟩
  change At _ _ _ [N12, R] _
  refine op_callA (nxla rfl) (.cons rfl (.cons rfl .nil)) (dMul_f h s12 (by omega) (by omega)) Try.func36 rfl rfl (by simp) rfl ?_
  rintro v13 L13 ⟨N13, p13, c13, rfl, rfl, s13⟩
  change At _ _ _ [N13, N12, R] _
  refine op_move (nxlf rfl) rfl rfl ?_
  refine op_callA (nxla rfl) (.cons rfl .nil) (Of32_f g) Try.func16 rfl rfl (by simp) rfl ?_
  rintro v15 L15 ⟨N15, p15, c15, rfl, rfl, s15⟩
  change At _ _ _ [N15, N13, N12, R] _
  refine op_callA (nxla rfl) (.cons rfl (.cons rfl .nil)) (rDivMod_f s13 s15 (by omega) (by omega) hg) Try.func38 rfl rfl (by simp) rfl ?_
  rintro v16 L16 ⟨Mq, pq, cq, Mr, pr, cr, rfl, rfl, sq, sr⟩
  change At _ _ _ [Mq, Mr, N15, N13, N12, R] _
  refine op_move (nxlf rfl) rfl rfl ?_
  refine op_extract (nxlf rfl) rfl rfl rfl ?_
  refine op_extract (nxlf rfl) rfl rfl rfl ?_
  refine op_assign (nxlf rfl) rfl rfl ?_
  refine op_assign (nxlf rfl) rfl rfl ?_
  refine At.opsNil ?_
  refine At.norm (hk_2 ?_)
  refine At.seq fun K3 hk_3 => ?_
  refine At.region ?_
  refine op_move (nxlf rfl) rfl rfl ?_
  refine op_callA (nxla rfl) (.cons rfl (.cons rfl .nil)) (dShr_f sq 3 (by omega) (by omega)) Try.func15 rfl rfl (by simp) rfl ?_
  rintro v20 L20 ⟨N20, p20, c20, rfl, rfl, s20⟩
  change At _ _ _ [N20, Mq, Mr, N15, N13, N12, R] _
  refine op_assign (nxlf rfl) rfl rfl ?_
  refine At.opsNil ?_
  refine At.norm (hk_3 ?_)
  refine At.ret (?_)
  refine At.sub (L' := [N20, R]) (.cons_cons _ (.cons _ (.cons _ (.cons _ (.cons _ (.cons _ (.cons_cons _ (.slnil)))))))) ?_
  refine At.ret1 (L1 := [N20]) rfl (.tmp rfl .nil) (.refl _) (.refl _) ?_
  exact ⟨N20, p20, c20, rfl, rfl, s20⟩
end
theorem index0 {n : Nat} (h : n < 18446744073709551616) : ∃ z : UInt64, z.toNat = n := ⟨UInt64.ofNat n, by rw [UInt64.toNat_ofNat']; exact Nat.mod_eq_of_lt h⟩
set_option maxRecDepth 100000 in
theorem rExcess_f {h : Hd} {ao : Option Addr} {n cap : Nat} (hk : h.Ok) : Fn Try.prog 21 #[.agg (h.cells ao n cap).toArray] [] [] (fun v L => v = .int .u64 (exF h.ex.toNat h.bg.toNat : Int) ∧ L = []) := by
  have hex := h.ex.toNat_lt
  have hbg := h.bg.toNat_lt
  have l1 := du64_len h.ex
  have l2 := du64_len h.bg
  have l3 := digs_add2 l1 l2
  obtain ⟨t, ht⟩ : ∃ t, h.ex.toNat + h.bg.toNat = t := ⟨_, rfl⟩
  rw [ht] at l3
  have l4 : (digsOf (t - 393216)).length ≤ 3 := Nat.le_trans (digs_mono (Nat.sub_le ..)) l3
  have l5 := du64_len 393216
  have e5 : (393216 : UInt64).toNat = 393216 := rfl
  refine Fn.enter (vs := [.agg (h.cells ao n cap).toArray]) Try.func21 rfl rfl rfl ?_
  intro E R hR
  change At _ _ E [R] _
  refine At.seq fun K1 hk_1 => ?_
  refine At.region ?_
  refine op_box (nxla rfl) rfl rfl rfl (fun N1 b1 B1 => ?_)
  change Blk N1 b1 _ (h.cells ao n cap) at B1
  refine op_assign (nxlf rfl) rfl rfl ?_
  refine At.opsNil ?_
  refine At.norm (hk_1 ?_)
  refine At.seq fun K2 hk_2 => ?_
  refine At.drawn [5,6] [0,1,3,4,2,5,6,7] (by kernel_rfl) (by kernel_rfl) ?_
  refine op_fieldAddr (nxof rfl rfl rfl (by kernel_rfl)) fl33_19 rfl rfl ?_
  refine op_loadB (nxof rfl rfl rfl (by kernel_rfl)) sc27 rfl B1 (by first | rfl | exact Hd.ex_at hk | exact Hd.bg_at hk) mem0 rfl ?_
  refine op_fieldAddr (nxof rfl rfl rfl (by kernel_rfl)) fl33_18 rfl rfl ?_
  refine op_loadB (nxof rfl rfl rfl (by kernel_rfl)) sc27 rfl B1 (by first | rfl | exact Hd.ex_at hk | exact Hd.bg_at hk) mem0 rfl ?_
  refine op_callA (nxoa rfl rfl rfl) (.cons rfl .nil) (Of32_f h.ex) Try.func16 rfl rfl (by simp) rfl ?_
  rintro v6 L6 ⟨N6, p6, c6, rfl, rfl, s6⟩
  change At _ _ _ [N6, N1, R] _
  refine op_callA (nxosa rfl rfl rfl rfl) (.cons rfl .nil) (Of32_f h.bg) Try.func16 rfl rfl (by simp) rfl ?_
  rintro v9 L9 ⟨N9, p9, c9, rfl, rfl, s9⟩
  change At _ _ _ [N9, N6, N1, R] _
  refine op_callA (nxosa rfl rfl rfl rfl) (.cons rfl (.cons rfl .nil)) (dAdd_f s6 s9 (by omega) (by omega)) Try.func14 rfl rfl (by simp) rfl ?_
  rintro v10 L10 ⟨N10, p10, c10, rfl, rfl, s10⟩
  change At _ _ _ [N10, N9, N6, N1, R] _
  rw [ht] at s10 ⊢
  refine op_assign (nxof rfl rfl rfl (by kernel_rfl)) rfl rfl ?_
  refine At.oneNil ?_
  refine At.norm (hk_2 ?_)
  refine At.seq fun K3 hk_3 => ?_
  refine At.seq fun K4 hk_4 => ?_
  refine At.region ?_
  refine op_move (nxlf rfl) rfl rfl ?_
  refine op_callA (nxla rfl) (.cons rfl .nil) (Of32_f 393216) Try.func16 rfl rfl (by simp) rfl ?_
  rintro v12 L12 ⟨N12, p12, c12, rfl, rfl, s12⟩
  change At _ _ _ [N12, N10, N9, N6, N1, R] _
  refine op_callA (nxla rfl) (.cons rfl (.cons rfl .nil)) (Cmp32_f s10 s12) Try.func17 rfl rfl (by simp) rfl ?_
  rintro v13 L13 ⟨rfl, rfl⟩
  change At _ _ _ [N12, N10, N9, N6, N1, R] _
  refine op_lss (nxlf rfl) rfl rfl rfl ?_
  refine At.opsNil ?_
  refine At.norm (hk_4 ?_)
  refine At.condP rfl (fun c14 => ?_) (fun c14 => ?_)
  · have hlt : t < 393216 := by
      rw [e5] at c14
      unfold cmpI at c14
      split at c14
      · assumption
      · split at c14 <;> omega
    refine At.seq fun K5 hk_5 => ?_
    refine At.region ?_
    refine op_assign (nxlf rfl) rfl rfl ?_
    refine At.opsNil ?_
    refine At.norm (hk_5 ?_)
    refine At.ret (At.thenRet (?_))
    refine At.sub (L' := [R]) (.cons _ (.cons _ (.cons _ (.cons _ (.cons _ (.cons_cons _ (.slnil))))))) ?_
    refine At.ret1 (L1 := []) rfl (.tmp rfl .nil) (.refl _) (.refl _) ?_
    refine ⟨?_, rfl⟩
    rw [exF, if_pos (by omega)]; rfl
  · have hge : 393216 ≤ t := by
      rw [e5] at c14
      unfold cmpI at c14
      split at c14
      · omega
      · omega
    refine At.skip ?_
    refine At.norm (hk_3 ?_)
    refine At.seq fun K6 hk_6 => ?_
    refine At.region ?_
    refine op_move (nxlf rfl) rfl rfl ?_
    refine op_callA (nxla rfl) (.cons rfl .nil) (Of32_f 393216) Try.func16 rfl rfl (by simp) rfl ?_
    rintro v16 L16 ⟨N16, p16, c16, rfl, rfl, s16⟩
    change At _ _ _ [N16, N12, N10, N9, N6, N1, R] _
    refine op_callA (nxla rfl) (.cons rfl (.cons rfl .nil)) (dSub_f s10 s16 (by omega) (by rw [e5]; exact hge)) Try.func18 rfl rfl (by simp) rfl ?_
    rintro v17 L17 ⟨N17, p17, c17, rfl, rfl, s17⟩
    change At _ _ _ [N17, N16, N12, N10, N9, N6, N1, R] _
    rw [e5] at s17 ⊢
    refine op_assign (nxlf rfl) rfl rfl ?_
    refine At.opsNil ?_
    refine At.norm (hk_6 ?_)
    refine At.seq fun K7 hk_7 => ?_
    refine At.seq fun K8 hk_8 => ?_
    refine At.region ?_
    refine op_move (nxlf rfl) rfl rfl ?_
    refine op_callA (nxla rfl) (.cons rfl .nil) (dLen_f s17 (by omega)) Try.func53 rfl rfl (by simp) rfl ?_
    rintro v19 L19 ⟨rfl, rfl⟩
    change At _ _ _ [N17, N16, N12, N10, N9, N6, N1, R] _
    refine op_gtr (nxlf rfl) rfl rfl rfl ?_
    refine At.opsNil ?_
    refine At.norm (hk_8 ?_)
    refine At.condP rfl (fun c20 => ?_) (fun c20 => ?_)
    · have hbig : ¬ t - 393216 < 18446744073709551616 := fun h1 => by
        have := bitLen_le.2 (show t - 393216 < 2 ^ 64 from h1)
        omega
      refine At.seq fun K9 hk_9 => ?_
      refine At.region ?_
      refine op_assign (nxlf rfl) rfl rfl ?_
      refine At.opsNil ?_
      refine At.norm (hk_9 ?_)
      refine At.ret (At.thenRet (?_))
      refine At.sub (L' := [R]) (.cons _ (.cons _ (.cons _ (.cons _ (.cons _ (.cons _ (.cons _ (.cons_cons _ (.slnil))))))))) ?_
      refine At.ret1 (L1 := []) rfl (.tmp rfl .nil) (.refl _) (.refl _) ?_
      refine ⟨?_, rfl⟩
      rw [exF, if_neg (by omega), if_pos (by omega)]; rfl
    · have hsm : t - 393216 < 18446744073709551616 := bitLen_le.1 (show bitLen (t - 393216) ≤ 64 by omega)
      obtain ⟨z, hz⟩ := index0 hsm
      refine At.skip ?_
      refine At.norm (hk_7 ?_)
      refine At.seq fun K10 hk_10 => ?_
      refine At.region ?_
      refine op_move (nxlf rfl) rfl rfl ?_
      refine op_callA (nxla rfl) (.cons rfl .nil) (rW_w s17) Try.func40 rfl rfl (by simp) rfl ?_
      rintro v22 L22 ⟨rfl, rfl⟩
      change At _ _ _ [N17, N16, N12, N10, N9, N6, N1, R] _
      rw [← hz, wo_small]
      refine op_idxV (nxlf rfl) ae29 sc27 rfl rfl (show _ = (((0 : Nat)) : Int) from by omega) (by omega) rfl rfl ?_
      refine op_assign (nxlf rfl) rfl rfl ?_
      refine At.opsNil ?_
      refine At.norm (hk_10 ?_)
      refine At.ret (?_)
      refine At.sub (L' := [R]) (.cons _ (.cons _ (.cons _ (.cons _ (.cons _ (.cons _ (.cons _ (.cons_cons _ (.slnil))))))))) ?_
      refine At.ret1 (L1 := []) rfl (.tmp rfl .nil) (.refl _) (.refl _) ?_
      refine ⟨?_, rfl⟩
      rw [exF, if_neg (by omega), if_neg (by omega)]
      exact congrArg (Value.int .u64) (by omega)
theorem dT_len {x k : Nat} (h : x ≤ 600000000) (hk : k ≤ 700) : (digsOf (bT x k)).length ≤ 200 := Nat.le_trans (digs_le (bT_lt h)) (by omega)
theorem dS_len {x k : Nat} (h : x ≤ 600000000) (hk : k ≤ 700) : (digsOf (bS x k)).length ≤ 200 := Nat.le_trans (digs_le (bS_lt h k)) (by omega)
theorem dTx_len {x k : Nat} (h : x ≤ 600000000) (hk : k ≤ 700) : (digsOf (bT x k * x)).length ≤ 200 := Nat.le_trans (digs_le (bTx_lt h)) (by omega)
theorem dQ_len {x k : Nat} (h : x ≤ 600000000) (h0 : bT x k = 0) (hk : k ≤ 700) : (digsOf (blobQ x)).length ≤ 200 := by
  rw [← blobQ_eq h0 hk]
  exact Nat.le_trans (digs_le (Nat.lt_of_le_of_lt (Nat.div_le_self ..) (bS_lt h k))) (by omega)
end Go.Proofs.Ytbmlhdecnfplaaa
/- The reference's words: quotients, with signs and without. No condition. -/
namespace Go.Proofs.Ytbmlhdecnfplaaa
set_option linter.unusedVariables false
set_option linter.unusedSimpArgs false
open Go Go.RowKit
theorem absW_0 : absW 0 = 0 := (absW_zero WW_pos).2 rfl
theorem wo_WW : wo WW = wo 0 := wo_congr (by rw [Nat.mod_self, Nat.zero_mod])
theorem sgn_0 (m : Bool) : wo (sgn m 0) = wo 0 := by
  cases m
  · rfl
  · rw [sgn, if_pos rfl, Nat.sub_zero, wo_WW]
end Go.Proofs.Ytbmlhdecnfplaaa
/- The reference's words: in and out, orders. No condition. -/
namespace Go.Proofs.Ytbmlhdecnfplaaa
set_option linter.unusedVariables false
set_option linter.unusedSimpArgs false
open Go Go.RowKit
theorem wo_four {x : Nat} (hx : x < WW) : ∃ a b c d : UInt64, wo x = .agg #[.int .u64 (a.toNat : Int), .int .u64 (b.toNat : Int), .int .u64 (c.toNat : Int), .int .u64 (d.toNat : Int)] ∧ v64 [a, b, c, d] = x := by
  obtain ⟨a, b, c, d, h⟩ := four (length_wl x)
  have hv := v64_wl_lt hx
  rw [h] at hv
  exact ⟨a, b, c, d, by rw [wo, h]; rfl, hv⟩
theorem rOf_w (n : UInt64) : Fn Try.prog 49 #[.int .u64 (n.toNat : Int)] [] [] (fun v L => v = wo n.toNat ∧ L = []) := by
  have e := wl_small n
  refine Fn.enter (vs := [.int .u64 (n.toNat : Int)]) Try.func49 rfl rfl rfl ?_
  intro E R hR
  change At _ _ E [R] _
  refine At.seq fun K1 hk_1 => ?_
  refine At.region ?_
  refine op_alloc (nxla rfl) ze29 rfl (fun N2 b2 B2 => ?_)
  change Blk N2 b2 _ [.int .u64 0, .int .u64 0, .int .u64 0, .int .u64 0] at B2
  refine At.opsNil ?_
  refine At.norm (hk_1 ?_)
  refine At.seq fun K2 hk_2 => ?_
  refine At.region ?_
  refine op_move (nxlf rfl) rfl rfl ?_
  refine op_buildA (out := [_, .int .u64 0, .int .u64 0, .int .u64 0]) (nxlf rfl) ze29 ae29 (.cons rfl .nil) rfl rfl ?_
  refine op_store (nxl rfl) sz29 rfl rfl rfl rfl rfl B2 (by simp) sel0 (fun N2 B2 => ?_)
  rw [setL_whole (by simp)] at B2
  refine At.opsNil ?_
  refine At.norm (hk_2 ?_)
  refine At.ret (?_)
  refine At.ret1 (L1 := []) rfl (.cell rfl (res_agg (ds := [_, _, _, _]) ag29 B2 rfl rfl mem0) .nil) (.cons _ (.refl _)) (.refl _) ?_
  exact ⟨by rw [wo_small], rfl⟩
set_option maxRecDepth 100000 in
theorem rCmp_w {x y : Nat} (hx : x < WW) (hy : y < WW) : Fn Try.prog 9 #[wo x, wo y] [] [] (fun v L => v = .int .i64 (cmpI x y) ∧ L = []) := by
  refine Fn.enter (vs := [wo x, wo y]) Try.func9 rfl rfl rfl ?_
  intro E R hR
  change At _ _ E [R] _
  refine At.seq fun K1 hk_1 => ?_
  refine At.region ?_
  refine op_box (nxla rfl) rfl rfl rfl (fun N2 b2 B2 => ?_)
  change Blk N2 b2 _ (u64s (wl x)) at B2
  refine op_box (nxla rfl) rfl rfl rfl (fun N3 b3 B3 => ?_)
  change Blk N3 b3 _ (u64s (wl y)) at B3
  refine op_assign (nxlf rfl) rfl rfl ?_
  refine At.opsNil ?_
  refine At.norm (hk_1 ?_)
  refine At.seq fun K2 hk_2 => ?_
  refine At.perm sel2 ?_
  refine At.perm sel1 ?_
  refine At.perm sel2 ?_
  refine At.drawnS [N2, N3, R] [3,4] [] [0,2,1,3,4,5] (by kernel_rfl) (by kernel_rfl) (.refl _) ?_
  refine op_loadAggB (ds := u64s (wl x)) (nxsf rfl rfl rfl) ag29 rfl B2 (by first | (rw [List.drop_zero, List.take_of_length_le (by first | (simp; done) | (simp; omega))]; done) | rfl) (by first | (simp; done) | (simp; omega)) mem0 rfl ?_
  refine op_loadAggB (ds := u64s (wl y)) (nxsf rfl rfl rfl) ag29 rfl B3 (by first | (rw [List.drop_zero, List.take_of_length_le (by first | (simp; done) | (simp; omega))]; done) | rfl) (by first | (simp; done) | (simp; omega)) mem1 rfl ?_
  refine op_callA (Nx.agree (nxsm rfl rfl rfl)) (.cons rfl .nil) (rN_w hx) Try.func13 rfl rfl (by simp) rfl ?_
  rintro v6 L6 ⟨M6, p6, c6, rfl, rfl, s6⟩
  change At _ _ _ [M6, N2, N3, R] _
  refine At.moreS (Lst := [N2, N3, R]) (Lst' := [M6, N2, N3, R]) (.cons _ (.refl _)) (.refl _) ?_
  refine op_callA (Nx.agree (nxss rfl rfl rfl rfl)) (.cons rfl .nil) (rN_w hy) Try.func13 rfl rfl (by simp) rfl ?_
  rintro v8 L8 ⟨M8, p8, c8, rfl, rfl, s8⟩
  change At _ _ _ [M8, M6, N2, N3, R] _
  refine At.anyS (.refl _) ?_
  refine op_callA (Nx.agree (nxss rfl rfl rfl rfl)) (.cons rfl (.cons rfl .nil)) (Cmp32_f s6 s8) Try.func17 rfl rfl (by simp) rfl ?_
  rintro v9 L9 ⟨rfl, rfl⟩
  change At _ _ _ [M8, M6, N2, N3, R] _
  refine At.anyS (.refl _) ?_
  refine op_assign (nxsf rfl rfl rfl) rfl rfl ?_
  refine At.sNil ?_
  refine At.norm (hk_2 ?_)
  refine At.ret (?_)
  refine At.sub (L' := [R]) (.cons _ (.cons _ (.cons _ (.cons _ (.cons_cons _ (.slnil)))))) ?_
  refine At.ret1 (L1 := []) rfl (.tmp rfl .nil) (.refl _) (.refl _) ?_
  exact ⟨rfl, rfl⟩
theorem cmpI_eq (x y : Nat) : cmpI x y = cmpN x y := rfl
theorem small3 {x : Nat} (hx : x < WW) : (((wl x).getD 1 0).toNat = 0 ∧ ((wl x).getD 2 0).toNat = 0 ∧ ((wl x).getD 3 0).toNat = 0) ↔ x < 2 ^ 64 := by
  rw [← small_iff hx, ← UInt64.toNat_inj, UInt64.toNat_or, UInt64.toNat_or]
  show _ ↔ _ = 0
  rw [Nat.or_eq_zero_iff, Nat.or_eq_zero_iff, and_assoc]
theorem rSmall_no {x : Nat} (hx : x < WW) (h : ¬ x < 2 ^ 64) : Fn Try.prog 39 #[wo x] [] [] (fun v L => v = .tuple #[.int .u64 0, .bool false] ∧ L = []) := by
  have hl := length_wl x
  have hs := small3 hx
  refine Fn.enter (vs := [wo x]) Try.func39 rfl rfl rfl ?_
  intro E R hR
  change At _ _ E [R] _
  refine At.seq fun K1 hk_1 => ?_
  refine At.region ?_
  refine op_box (nxla rfl) rfl rfl rfl (fun N1 b1 B1 => ?_)
  change Blk N1 b1 _ (u64s (wl x)) at B1
  refine op_assign (nxlf rfl) rfl rfl ?_
  refine op_assign (nxlf rfl) rfl rfl ?_
  refine At.opsNil ?_
  refine At.norm (hk_1 ?_)
  refine At.seq fun K2 hk_2 => ?_
  refine At.seq fun K3 hk_3 => ?_
  refine At.region ?_
  refine op_idxA (nxlf rfl) ae29 rfl rfl (show _ = ((1 : Nat) : Int) from rfl) (by omega) rfl ?_
  refine op_loadB (nxlf rfl) sc27 rfl B1 (by first | exact get64A (by omega) | rfl) mem0 rfl ?_
  refine op_neq (nxlf rfl) rfl rfl rfl ?_
  refine op_move (nxlf rfl) rfl rfl ?_
  refine At.partP (d := 7) rfl (fun g7 => ?_) (fun g7 => ?_)
  · refine op_skip rfl rfl rfl rfl rfl rfl rfl ?_
    refine op_skip rfl rfl rfl rfl rfl rfl rfl ?_
    refine op_skip rfl rfl rfl rfl rfl rfl rfl ?_
    refine op_pickT (nxlf rfl) rfl rfl rfl ?_
    refine op_move (nxlf rfl) rfl rfl ?_
    refine op_skip rfl rfl rfl rfl rfl rfl rfl ?_
    refine op_skip rfl rfl rfl rfl rfl rfl rfl ?_
    refine op_skip rfl rfl rfl rfl rfl rfl rfl ?_
    refine op_pickT (nxlf rfl) rfl rfl rfl ?_
    refine At.opsNil ?_
    refine At.norm (hk_3 ?_)
    refine At.condT rfl ?_
    refine At.seq fun K4 hk_4 => ?_
    refine At.region ?_
    refine op_assign (nxlf rfl) rfl rfl ?_
    refine op_assign (nxlf rfl) rfl rfl ?_
    refine At.opsNil ?_
    refine At.norm (hk_4 ?_)
    refine At.ret (At.thenRet (?_))
    refine At.sub (L' := [R]) (.cons _ (.cons_cons _ (.slnil))) ?_
    refine At.retN (L1 := []) rfl (.tmp rfl (.tmp rfl .nil)) rfl (.refl _) (.refl _) ?_
    exact ⟨rfl, rfl⟩
  · refine op_idxA (nxgf rfl rfl rfl rfl) ae29 rfl rfl (show _ = ((2 : Nat) : Int) from rfl) (by omega) rfl ?_
    refine op_loadB (nxgf rfl rfl rfl rfl) sc27 rfl B1 (by first | exact get64A (by omega) | rfl) mem0 rfl ?_
    refine op_neq (nxgf rfl rfl rfl rfl) rfl rfl rfl ?_
    refine op_pickF (nxlf rfl) rfl rfl rfl ?_
    refine op_move (nxlf rfl) rfl rfl ?_
    refine At.partP (d := 12) rfl (fun g12 => ?_) (fun g12 => ?_)
    · refine op_skip rfl rfl rfl rfl rfl rfl rfl ?_
      refine op_skip rfl rfl rfl rfl rfl rfl rfl ?_
      refine op_skip rfl rfl rfl rfl rfl rfl rfl ?_
      refine op_pickT (nxlf rfl) rfl rfl rfl ?_
      refine At.opsNil ?_
      refine At.norm (hk_3 ?_)
      refine At.condT rfl ?_
      refine At.seq fun K5 hk_5 => ?_
      refine At.region ?_
      refine op_assign (nxlf rfl) rfl rfl ?_
      refine op_assign (nxlf rfl) rfl rfl ?_
      refine At.opsNil ?_
      refine At.norm (hk_5 ?_)
      refine At.ret (At.thenRet (?_))
      refine At.sub (L' := [R]) (.cons _ (.cons_cons _ (.slnil))) ?_
      refine At.retN (L1 := []) rfl (.tmp rfl (.tmp rfl .nil)) rfl (.refl _) (.refl _) ?_
      exact ⟨rfl, rfl⟩
    · refine op_idxA (nxgf rfl rfl rfl rfl) ae29 rfl rfl (show _ = ((3 : Nat) : Int) from rfl) (by omega) rfl ?_
      refine op_loadB (nxgf rfl rfl rfl rfl) sc27 rfl B1 (by first | exact get64A (by omega) | rfl) mem0 rfl ?_
      refine op_neq (nxgf rfl rfl rfl rfl) rfl rfl rfl ?_
      refine op_pickF (nxlf rfl) rfl rfl rfl ?_
      refine At.opsNil ?_
      refine At.norm (hk_3 ?_)
      refine At.condP rfl (fun c16 => ?_) (fun c16 => ?_)
      · refine At.seq fun K6 hk_6 => ?_
        refine At.region ?_
        refine op_assign (nxlf rfl) rfl rfl ?_
        refine op_assign (nxlf rfl) rfl rfl ?_
        refine At.opsNil ?_
        refine At.norm (hk_6 ?_)
        refine At.ret (At.thenRet (?_))
        refine At.sub (L' := [R]) (.cons _ (.cons_cons _ (.slnil))) ?_
        refine At.retN (L1 := []) rfl (.tmp rfl (.tmp rfl .nil)) rfl (.refl _) (.refl _) ?_
        exact ⟨rfl, rfl⟩
      · exact absurd (hs.1 ⟨by omega, by omega, by omega⟩) h
theorem rSmall_y {x : Nat} (hx : x < WW) (h : x < 2 ^ 64) : Fn Try.prog 39 #[wo x] [] [] (fun v L => v = .tuple #[.int .u64 (x : Int), .bool true] ∧ L = []) := by
  have hl := length_wl x
  obtain ⟨h1, h2, h3⟩ := (small3 hx).2 h
  have hv := small_val h
  refine Fn.enter (vs := [wo x]) Try.func39 rfl rfl rfl ?_
  intro E R hR
  change At _ _ E [R] _
  refine At.seq fun K1 hk_1 => ?_
  refine At.region ?_
  refine op_box (nxla rfl) rfl rfl rfl (fun N1 b1 B1 => ?_)
  change Blk N1 b1 _ (u64s (wl x)) at B1
  refine op_assign (nxlf rfl) rfl rfl ?_
  refine op_assign (nxlf rfl) rfl rfl ?_
  refine At.opsNil ?_
  refine At.norm (hk_1 ?_)
  refine At.seq fun K2 hk_2 => ?_
  refine At.seq fun K3 hk_3 => ?_
  refine At.region ?_
  refine op_idxA (nxlf rfl) ae29 rfl rfl (show _ = ((1 : Nat) : Int) from rfl) (by omega) rfl ?_
  refine op_loadB (nxlf rfl) sc27 rfl B1 (by first | exact get64A (by omega) | rfl) mem0 rfl ?_
  refine op_neq (nxlf rfl) rfl rfl rfl ?_
  refine op_move (nxlf rfl) rfl rfl ?_
  refine At.partP (d := 7) rfl (fun g7 => ?_) (fun g7 => ?_)
  · exfalso; omega
  · refine op_idxA (nxgf rfl rfl rfl rfl) ae29 rfl rfl (show _ = ((2 : Nat) : Int) from rfl) (by omega) rfl ?_
    refine op_loadB (nxgf rfl rfl rfl rfl) sc27 rfl B1 (by first | exact get64A (by omega) | rfl) mem0 rfl ?_
    refine op_neq (nxgf rfl rfl rfl rfl) rfl rfl rfl ?_
    refine op_pickF (nxlf rfl) rfl rfl rfl ?_
    refine op_move (nxlf rfl) rfl rfl ?_
    refine At.partP (d := 12) rfl (fun g12 => ?_) (fun g12 => ?_)
    · exfalso; omega
    · refine op_idxA (nxgf rfl rfl rfl rfl) ae29 rfl rfl (show _ = ((3 : Nat) : Int) from rfl) (by omega) rfl ?_
      refine op_loadB (nxgf rfl rfl rfl rfl) sc27 rfl B1 (by first | exact get64A (by omega) | rfl) mem0 rfl ?_
      refine op_neq (nxgf rfl rfl rfl rfl) rfl rfl rfl ?_
      refine op_pickF (nxlf rfl) rfl rfl rfl ?_
      refine At.opsNil ?_
      refine At.norm (hk_3 ?_)
      refine At.condP rfl (fun c16 => ?_) (fun c16 => ?_)
      · exfalso; omega
      · refine At.skip ?_
        refine At.norm (hk_2 ?_)
        refine At.seq fun K4 hk_4 => ?_
        refine At.region ?_
        refine op_idxA (nxlf rfl) ae29 rfl rfl (show _ = ((0 : Nat) : Int) from rfl) (by omega) rfl ?_
        refine op_loadB (nxlf rfl) sc27 rfl B1 (by first | exact get64A (by omega) | rfl) mem0 rfl ?_
        rw [hv]
        refine op_assign (nxlf rfl) rfl rfl ?_
        refine op_assign (nxlf rfl) rfl rfl ?_
        refine At.opsNil ?_
        refine At.norm (hk_4 ?_)
        refine At.ret (?_)
        refine At.sub (L' := [R]) (.cons _ (.cons_cons _ (.slnil))) ?_
        refine At.retN (L1 := []) rfl (.tmp rfl (.tmp rfl .nil)) rfl (.refl _) (.refl _) ?_
        exact ⟨rfl, rfl⟩
theorem getD_bytesN {n N k : Nat} (h : k < n) : (bytesN n N).getD k 0 = UInt8.ofNat (N / 256 ^ (n - 1 - k)) := by
  rw [List.getD_eq_getElem?_getD, List.getElem?_eq_getElem (by rw [length_bytesN]; exact h), Option.getD_some]
  simp [bytesN]
end Go.Proofs.Ytbmlhdecnfplaaa
