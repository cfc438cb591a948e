/- nat.ModExp: powers modulo a number. Condition: numbers of at most 2^34 bytes. -/
import Derived.Test.YtefljbbpaideaaaKNf1
namespace Go.Proofs.Ytefljbbpaideaaa
set_option linter.unusedVariables false
set_option linter.unusedSimpArgs false
open Go Go.RowKit
theorem Blk.one {N : Heaplet} {b : Nat} {e : TypeId} {v : Value} (h : Blk N b e [v]) : RSl N 1 (some ⟨b, 0, none⟩) 1 1 [v] :=
  ⟨rfl, Nat.le_refl _, by decide, fun _ => ⟨b, 0, rfl, h.rng⟩⟩
section
variable {N M Nb Nm : Heaplet} {ao bo mo : Option Addr} {n m nm ca cb cm bb : Nat} {e : TypeId} {a b l : List UInt64}
set_option maxRecDepth 100000 in
theorem times_f (ha : RSl N 1 ao n ca (u64s a)) (hb : RSl M 1 bo m cb (u64s b)) (hB : Blk Nb bb e [.slice mo nm cm]) (hl : RSl Nm 1 mo nm cm (u64s l)) (hn : n ≤ 274877906944) (hm : m ≤ 274877906944) (hnm : nm ≤ 274877906944) (h0 : 0 < v64 l) :
    Fn Try.prog 126 #[.slice ao n ca, .slice bo m cb, .pointer (some ⟨bb, 0, none⟩)] [] [N, M, Nb, Nm] (LimbsP (v64 a * v64 b % v64 l)) := by
  have hal := ha.len64
  have hbl := hb.len64
  have hs : (limbsOf (v64 a * v64 b)).length ≤ n + m := by
    refine limbs_le_of ?_
    rw [Nat.mul_add, Nat.pow_add, ← hal, ← hbl]
    exact Nat.mul_lt_mul'' (v64_lt a) (v64_lt b)
  refine Fn.enter (vs := [.slice ao n ca, .slice bo m cb, .pointer (some ⟨bb, 0, none⟩)]) Try.func126 rfl rfl rfl ?_
  intro E R hR
  have ha := ha.le (hR N (by simp))
  have hb := hb.le (hR M (by simp))
  have hBs := (hB.le (hR Nb (by simp))).one
  have hl := hl.le (hR Nm (by simp))
  change At _ _ E [R] _
  refine At.seq fun K1 hk_1 => ?_
  refine At.region ?_
  refine op_assign (nxlf rfl) rfl rfl ?_
  refine At.opsNil ?_
  refine At.norm (hk_1 ?_)
  refine At.seq fun K2 hk_2 => ?_
  refine At.drawnS [R] [4] [] [0,1,3,2,4,5,6,7,8,9] (by kernel_rfl) (by kernel_rfl) (.refl _) ?_
  refine op_move (nxsf rfl rfl rfl) rfl rfl ?_
  refine op_move (nxsf rfl rfl rfl) rfl rfl ?_
  refine op_loadE (ao := some ⟨bb, 0, none⟩) (j := 0) (nxsf rfl rfl rfl) sc95 rfl hBs rfl (by first | exact mem0 | exact mem1 | exact mem2) rfl ?_
  refine op_callA (Nx.agree (nxsm rfl rfl rfl)) (.cons rfl (.cons rfl .nil)) (Mul_f ha hb (by omega) (by omega)) Try.func127 rfl rfl (by simp) rfl ?_
  rintro v11 L11 ⟨M11, p11, c11, rfl, rfl, s11⟩
  change At _ _ _ [M11, R] _
  refine At.moreS (Lst := [R]) (Lst' := [M11, R]) (.cons _ (.refl _)) (.refl _) ?_
  refine op_callA (Nx.agree (nxss rfl rfl rfl rfl)) (.cons rfl (.cons rfl .nil)) (DivMod_f s11 hl (by omega) (by omega) h0) Try.func120 rfl rfl (by simp) rfl ?_
  rintro v13 L13 ⟨Mq, pq, cq, Mr, pr, cr, rfl, rfl, sq, sr⟩
  change At _ _ _ [Mq, Mr, M11, R] _
  refine At.anyS (.refl _) ?_
  rw [v64_limbsOf] at sq sr ⊢
  refine op_move (nxsf rfl rfl rfl) rfl rfl ?_
  refine op_extract (nxsf rfl rfl rfl) rfl rfl rfl ?_
  refine op_extract (nxsf rfl rfl rfl) rfl rfl rfl ?_
  refine op_assign (nxsf rfl rfl rfl) rfl rfl ?_
  refine op_assign (nxsf rfl rfl rfl) rfl rfl ?_
  refine At.sNil ?_
  refine At.norm (hk_2 ?_)
  refine At.seq fun K3 hk_3 => ?_
  refine At.region ?_
  refine op_move (nxlf rfl) rfl rfl ?_
  refine op_assign (nxlf rfl) rfl rfl ?_
  refine At.opsNil ?_
  refine At.norm (hk_3 ?_)
  refine At.ret (?_)
  refine At.sub (L' := [Mr, R]) (.cons _ (.cons_cons _ (.cons _ (.cons_cons _ (.slnil))))) ?_
  refine At.ret1 (L1 := [Mr]) rfl (.tmp rfl .nil) (.refl _) (.refl _) ?_
  exact ⟨Mr, pr, cr, rfl, rfl, sr⟩
end
/-- One bit more of the exponent. -/
theorem pow_bit {b E m j : Nat} (hj : 0 < j) : b ^ (E / 2 ^ (j - 1)) % m = (b ^ (E / 2 ^ j) % m * (b ^ (E / 2 ^ j) % m) % m) * (if E / 2 ^ (j - 1) % 2 = 1 then b % m else 1) % m := by
  have e : E / 2 ^ j = E / 2 ^ (j - 1) / 2 := by rw [Nat.div_div_eq_div_mul, ← Nat.pow_succ, show (j - 1).succ = j by omega]
  rw [e]
  generalize E / 2 ^ (j - 1) = q
  have h := Nat.div_add_mod q 2
  have h2 : q % 2 < 2 := Nat.mod_lt _ (by decide)
  split
  · rename_i h1
    conv => lhs; rw [← h, h1, Nat.pow_add, Nat.pow_mul, Nat.pow_one]
    rw [Nat.mul_mod_mod, Nat.mod_mul_mod, Nat.pow_right_comm, Nat.pow_two, Nat.mul_mod (b ^ (q / 2) * b ^ (q / 2)) b, Nat.mul_mod (b ^ (q / 2)) (b ^ (q / 2)), ← Nat.mul_mod _ b]
  · rename_i h1
    conv => lhs; rw [← h, show q % 2 = 0 by omega, Nat.add_zero, Nat.pow_mul, Nat.pow_right_comm, Nat.pow_two]
    rw [Nat.mul_one, Nat.mod_mod, ← Nat.mul_mod]
section
variable {N M Nm : Heaplet} {ao bo mo : Option Addr} {n m nm ca cb cm : Nat} {a b l : List UInt8}
theorem NModExp_0 (hl : RSl Nm 1 mo nm cm (u8s l)) (hb : RSl M 1 bo m cb (u8s b)) (hm : m ≤ 17179869184) (hnm : nm ≤ 17179869184) (h0 : be l = 0) : Fn Try.prog 44 #[.slice ao n ca, .slice bo m cb, .slice mo nm cm] [] [M, Nm] (fun v L => v = .slice none 0 0 ∧ L = []) := by
  have hll := hl.len8
  have hbl := hb.len8
  have hz := limbs_zero.2 h0
  refine Fn.enter (vs := [.slice ao n ca, .slice bo m cb, .slice mo nm cm]) Try.func44 rfl rfl rfl ?_
  intro E R hR
  have hl := hl.le (hR Nm (by simp))
  have hb := hb.le (hR M (by simp))
  change At _ _ E [R] _
  refine At.seq fun K1 hk_1 => ?_
  refine At.region ?_
  refine op_assign (nxlf rfl) rfl rfl ?_
  refine At.opsNil ?_
  refine At.norm (hk_1 ?_)
  refine At.seq fun K2 hk_2 => ?_
  refine At.region ?_
  refine op_move (nxlf rfl) rfl rfl ?_
  refine op_callA (nxla rfl) (.cons rfl .nil) (From_f hl (by omega)) Try.func119 rfl rfl (by simp) rfl ?_
  rintro v15 L15 ⟨M15, p15, rfl, rfl, s15⟩
  change At _ _ _ [M15, R] _
  refine op_move (nxlf rfl) rfl rfl ?_
  refine op_callA (nxla rfl) (.cons rfl .nil) (From_f hb (by omega)) Try.func119 rfl rfl (by simp) rfl ?_
  rintro v17 L17 ⟨M17, p17, rfl, rfl, s17⟩
  change At _ _ _ [M17, M15, R] _
  refine op_alloc (nxla rfl) ze95 rfl (fun N7 b7 B7 => ?_)
  change Blk N7 b7 _ [.slice none 0 0] at B7
  refine op_store (nxl rfl) sz95 rfl rfl rfl rfl rfl B7 (by simp) sel0 (fun N7 B7 => ?_)
  simp only [setL, List.set] at B7
  refine op_assign (nxlf rfl) rfl rfl ?_
  refine At.opsNil ?_
  refine At.norm (hk_2 ?_)
  refine At.seq fun K3 hk_3 => ?_
  refine At.seq fun K4 hk_4 => ?_
  refine At.region ?_
  refine op_loadB (nxlf rfl) sc95 rfl B7 (by first | rfl) mem0 rfl ?_
  refine op_lenS (nxlf rfl) se95 rfl rfl ?_
  refine op_eql (nxlf rfl) rfl rfl rfl ?_
  refine At.opsNil ?_
  refine At.norm (hk_4 ?_)
  refine At.condP rfl (fun c20 => ?_) (fun c20 => ?_)
  · refine At.seq fun K5 hk_5 => ?_
    refine At.region ?_
    refine op_assign (nxlf rfl) rfl rfl ?_
    refine At.opsNil ?_
    refine At.norm (hk_5 ?_)
    refine At.ret (At.thenRet (?_))
    refine At.sub (L' := [R]) (.cons _ (.cons _ (.cons _ (.cons_cons _ (.slnil))))) ?_
    refine At.ret1 (L1 := []) rfl (.tmp rfl .nil) (.refl _) (.refl _) ?_
    exact ⟨rfl, rfl⟩
  · exfalso; omega
set_option maxRecDepth 100000 in
theorem NModExp_f (ha : RSl N 1 ao n ca (u8s a)) (hb : RSl M 1 bo m cb (u8s b)) (hl : RSl Nm 1 mo nm cm (u8s l)) (hn : n ≤ 17179869184) (hm : m ≤ 17179869184) (hnm : nm ≤ 17179869184) (h0 : 0 < be l) : Fn Try.prog 44 #[.slice ao n ca, .slice bo m cb, .slice mo nm cm] [] [N, M, Nm] (BytesP (be a ^ be b % be l)) := by
  have hll := hl.len8
  have hal := ha.len8
  have hbl := hb.len8
  have hxa := limbs_be_len a
  have hxb := limbs_be_len b
  have hxl := limbs_be_len l
  have hz : (limbsOf (be l)).length ≠ 0 := fun h => by have := limbs_zero.1 h; omega
  have hmod : ∀ V : Nat, (limbsOf (V % be l)).length ≤ 17179869184 := fun V => by
    have := limbs_mono (Nat.le_of_lt (Nat.mod_lt V h0)); omega
  have hvl : 0 < v64 (limbsOf (be l)) := by rw [v64_limbsOf]; exact h0
  refine Fn.enter (vs := [.slice ao n ca, .slice bo m cb, .slice mo nm cm]) Try.func44 rfl rfl rfl ?_
  intro E R hR
  have ha := ha.le (hR N (by simp))
  have hl := hl.le (hR Nm (by simp))
  have hb := hb.le (hR M (by simp))
  change At _ _ E [R] _
  refine At.seq fun K1 hk_1 => ?_
  refine At.region ?_
  refine op_assign (nxlf rfl) rfl rfl ?_
  refine At.opsNil ?_
  refine At.norm (hk_1 ?_)
  refine At.seq fun K2 hk_2 => ?_
  refine At.region ?_
  refine op_move (nxlf rfl) rfl rfl ?_
  refine op_callA (nxla rfl) (.cons rfl .nil) (From_f hl (by omega)) Try.func119 rfl rfl (by simp) rfl ?_
  rintro v15 L15 ⟨M15, p15, rfl, rfl, s15⟩
  change At _ _ _ [M15, R] _
  refine op_move (nxlf rfl) rfl rfl ?_
  refine op_callA (nxla rfl) (.cons rfl .nil) (From_f hb (by omega)) Try.func119 rfl rfl (by simp) rfl ?_
  rintro v17 L17 ⟨M17, p17, rfl, rfl, s17⟩
  change At _ _ _ [M17, M15, R] _
  refine op_alloc (nxla rfl) ze95 rfl (fun N7 b7 B7 => ?_)
  change Blk N7 b7 _ [.slice none 0 0] at B7
  refine op_store (nxl rfl) sz95 rfl rfl rfl rfl rfl B7 (by simp) sel0 (fun N7 B7 => ?_)
  simp only [setL, List.set] at B7
  refine op_assign (nxlf rfl) rfl rfl ?_
  refine At.opsNil ?_
  refine At.norm (hk_2 ?_)
  refine At.seq fun K3 hk_3 => ?_
  refine At.seq fun K4 hk_4 => ?_
  refine At.region ?_
  refine op_loadB (nxlf rfl) sc95 rfl B7 (by first | rfl) mem0 rfl ?_
  refine op_lenS (nxlf rfl) se95 rfl rfl ?_
  refine op_eql (nxlf rfl) rfl rfl rfl ?_
  refine At.opsNil ?_
  refine At.norm (hk_4 ?_)
  refine At.condP rfl (fun c20 => ?_) (fun c20 => ?_)
  · exfalso; omega
  · refine At.skip ?_
    refine At.norm (hk_3 ?_)
    refine At.seq fun K5 hk_5 => ?_
    refine At.region ?_
    refine op_mkF (nxlf rfl) .nil (.cons rfl .nil) rfl ?_
    refine op_assign (nxlf rfl) rfl rfl ?_
    refine At.opsNil ?_
    refine At.norm (hk_5 ?_)
    refine At.seq fun K6 hk_6 => ?_
    refine At.region ?_
    refine op_lit (nxla rfl) Try.underlying95 ze22 sz22 (.cons rfl .nil) rfl rfl (by simp [Value.cells]) rfl rfl rfl (fun N22 a22 r22 => ?_)
    simp only [flatV, List.flatMap_cons, List.flatMap_nil, Value.cells, List.append_nil, List.cons_append, List.nil_append] at r22
    have s22 := r22.rsl
    change Row N22 _ 1 a22 1 1 (u64s [1]) at r22
    have s22 := r22.rsl
    have hv1 : v64 [1] = 1 := rfl
    refine op_assign (nxlf rfl) rfl rfl ?_
    refine At.opsNil ?_
    refine At.norm (hk_6 ?_)
    refine At.seq fun K7 hk_7 => ?_
    refine At.region ?_
    refine op_move (nxlf rfl) rfl rfl ?_
    refine op_move (nxlf rfl) rfl rfl ?_
    refine op_callA (nxla rfl) (.cons rfl .nil) (From_f ha (by omega)) Try.func119 rfl rfl (by simp) rfl ?_
    rintro v25 L25 ⟨M25, p25, rfl, rfl, s25⟩
    change At _ _ _ [M25, N22, N7, M17, M15, R] _
    refine op_move (nxlf rfl) rfl rfl ?_
    refine op_callV (nxl rfl) rfl (.cons rfl (.cons rfl .nil)) (times_f s25 s22 B7 s15 (by omega) (by omega) (by omega) hvl) (F := [M25, N22, N7, M17, M15, R]) Try.func126 rfl rfl (.refl _) (by simp) rfl ?_
    rintro v27 L27 ⟨M27, p27, c27, rfl, rfl, s27⟩
    change At _ _ _ [M27, M25, N22, N7, M17, M15, R] _
    rw [v64_limbsOf, v64_limbsOf, hv1, Nat.mul_one] at s27 ⊢
    refine op_assign (nxlf rfl) rfl rfl ?_
    refine At.opsNil ?_
    refine At.norm (hk_7 ?_)
    refine At.seq fun K8 hk_8 => ?_
    refine At.region ?_
    refine op_move (nxlf rfl) rfl rfl ?_
    refine op_move (nxlf rfl) rfl rfl ?_
    refine op_move (nxlf rfl) rfl rfl ?_
    refine op_callV (nxl rfl) rfl (.cons rfl (.cons rfl .nil)) (times_f s22 s22 B7 s15 (by omega) (by omega) (by omega) hvl) (F := [M27, M25, N22, N7, M17, M15, R]) Try.func126 rfl rfl (.refl _) (by simp) rfl ?_
    rintro v31 L31 ⟨M31, p31, c31, rfl, rfl, s31⟩
    change At _ _ _ [M31, M27, M25, N22, N7, M17, M15, R] _
    rw [v64_limbsOf, hv1, Nat.mul_one] at s31 ⊢
    refine op_assign (nxlf rfl) rfl rfl ?_
    refine At.opsNil ?_
    refine At.norm (hk_8 ?_)
    refine At.seq fun K9 hk_9 => ?_
    refine At.seq fun K10 hk_10 => ?_
    refine At.region ?_
    refine op_move (nxlf rfl) rfl rfl ?_
    refine op_callA (nxla rfl) (.cons rfl .nil) (Bits_f s17 (by omega)) Try.func128 rfl rfl (by simp) rfl ?_
    rintro v33 L33 ⟨rfl, rfl⟩
    change At _ _ _ [M31, M27, M25, N22, N7, M17, M15, R] _
    rw [v64_limbsOf]
    have hbb : bitLen (be b) ≤ 8 * b.length := bitLen_le.2 (by rw [Nat.pow_mul]; exact be_lt b)
    refine op_subI (nxlf rfl) rfl rfl (by omega) (by omega) rfl ?_
    refine op_assign (nxlf rfl) rfl rfl ?_
    refine At.opsNil ?_
    refine At.norm (hk_10 ?_)
    refine At.block ?_
    refine At.sub (L' := [M31, M27, N7, M17, M15, R]) (.cons_cons _ (.cons_cons _ (.cons _ (.cons _ (.cons_cons _ (.cons_cons _ (.cons_cons _ (.cons_cons _ (.slnil))))))))) ?_
    refine At.perm sel5 ?_
    refine At.perm sel3 ?_
    refine At.perm sel5 ?_
    refine At.perm sel5 ?_
    refine At.perm sel5 ?_
    refine At.perm sel5 ?_
    refine At.loop (fun fr_ hp_ ms_ => ∃ (j : Nat) (V : Nat) (xo : Option Addr) (xc : Nat) (Nx : Heaplet), fr_ = [(8, .slice p17 (limbsOf (be b)).length (limbsOf (be b)).length), (9, .func (.func 126) #[] #[.pointer (some ⟨b7, 0, none⟩)]), (11, .slice p27 (limbsOf (be a % be l)).length c27), (12, .slice xo (limbsOf V).length xc), (13, .int .i64 ((j : Int) - 1))] ∧ hp_ = [Nx, M27, M17, M15, N7, R] ∧ j = ms_ ∧ (j ≤ bitLen (be b)) ∧ (V = be a ^ (be b / 2 ^ j) % be l) ∧ (RSl Nx 1 xo (limbsOf V).length xc (u64s (limbsOf V)))) ?_ (.refl _) ⟨bitLen (be b), 1 % be l, p31, c31, M31, rfl, rfl, rfl, by omega, by rw [Nat.div_eq_of_lt (lt_bitLen _), Nat.pow_zero], s31⟩ ?_
    · exact .cons (by first | exact lkI rfl (by omega) | rfl) (.cons (by first | exact lkI rfl (by omega) | rfl) (.cons (by first | exact lkI rfl (by omega) | rfl) (.cons (by first | exact lkI rfl (by omega) | rfl) (.cons (by first | exact lkI rfl (by omega) | rfl) .nil))))
    rintro _ _ _ ⟨j, V, xo, xc, Nx, rfl, rfl, rfl, hj, hV, sx⟩
    have hVl : (limbsOf V).length ≤ 17179869184 := by rw [hV]; exact hmod _
    refine At.seq fun K11 hk_11 => ?_
    refine At.seq fun K12 hk_12 => ?_
    refine At.region ?_
    refine op_move (nxlf rfl) rfl rfl ?_
    refine op_geq (nxlf rfl) rfl rfl rfl ?_
    refine At.opsNil ?_
    refine At.norm (hk_12 ?_)
    refine At.condP rfl (fun c36 => ?_) (fun c36 => ?_)
    · refine At.skip ?_
      refine At.norm (hk_11 ?_)
      refine At.seq fun K13 hk_13 => ?_
      refine At.block ?_
      refine At.seq fun K14 hk_14 => ?_
      refine At.region ?_
      refine op_move (nxlf rfl) rfl rfl ?_
      refine op_move (nxlf rfl) rfl rfl ?_
      refine op_move (nxlf rfl) rfl rfl ?_
      refine op_callV (nxl rfl) rfl (.cons rfl (.cons rfl .nil)) (times_f sx sx B7 s15 (by omega) (by omega) (by omega) hvl) (F := [Nx, M27, M17, M15, N7, R]) Try.func126 rfl rfl (.refl _) (by simp) rfl ?_
      rintro v42 L42 ⟨M42, p42, c42, rfl, rfl, s42⟩
      change At _ _ _ [M42, Nx, M27, M17, M15, N7, R] _
      rw [v64_limbsOf, v64_limbsOf] at s42 ⊢
      have h42 := hmod (V * V)
      refine op_assign (nxlf rfl) rfl rfl ?_
      refine At.opsNil ?_
      refine At.norm (hk_14 ?_)
      refine At.seq fun K15 hk_15 => ?_
      refine At.region ?_
      refine op_move (nxlf rfl) rfl rfl ?_
      refine op_move (nxlf rfl) rfl rfl ?_
      rw [show (j : Int) - 1 = ((j - 1 : Nat) : Int) by omega]
      refine op_callA (nxla rfl) (.cons rfl (.cons rfl .nil)) (Bit_f s17 (j - 1) (by omega)) Try.func129 rfl rfl (by simp) rfl ?_
      rintro v45 L45 ⟨rfl, rfl⟩
      change At _ _ _ [M42, Nx, M27, M17, M15, N7, R] _
      rw [v64_limbsOf]
      refine op_eql (nxlf rfl) rfl rfl rfl ?_
      refine At.opsNil ?_
      refine At.norm (hk_15 ?_)
      refine At.condP rfl (fun c46 => ?_) (fun c46 => ?_)
      · have hbit : be b / 2 ^ (j - 1) % 2 = 1 := by
          generalize be b / 2 ^ (j - 1) = z at *
          omega
        refine At.region ?_
        refine op_move (nxlf rfl) rfl rfl ?_
        refine op_move (nxlf rfl) rfl rfl ?_
        refine op_move (nxlf rfl) rfl rfl ?_
        refine op_callV (nxl rfl) rfl (.cons rfl (.cons rfl .nil)) (times_f s42 s27 B7 s15 (by omega) (by have := hmod (be a); omega) (by omega) hvl) (F := [M42, Nx, M27, M17, M15, N7, R]) Try.func126 rfl rfl (.refl _) (by simp) rfl ?_
        rintro v50 L50 ⟨M50, p50, c50, rfl, rfl, s50⟩
        change At _ _ _ [M50, M42, Nx, M27, M17, M15, N7, R] _
        rw [v64_limbsOf, v64_limbsOf, v64_limbsOf] at s50 ⊢
        refine op_assign (nxlf rfl) rfl rfl ?_
        refine At.opsNil ?_
        refine At.inNorm ?_
        refine At.norm (hk_13 ?_)
        refine At.region ?_
        refine op_move (nxlf rfl) rfl rfl ?_
        refine op_subI (nxlf rfl) rfl rfl (by omega) (by omega) rfl ?_
        refine op_assign (nxlf rfl) rfl rfl ?_
        refine At.opsNil ?_
        refine At.norm ?_
        refine At.sub (L' := [M50, M27, M17, M15, N7, R]) (.cons_cons _ (.cons _ (.cons _ (.cons_cons _ (.cons_cons _ (.cons_cons _ (.cons_cons _ (.cons_cons _ (.slnil))))))))) ?_
        refine At.back ?_ (.refl _) ⟨j - 1, _, p50, c50, M50, rfl, rfl, rfl, by omega, by rw [pow_bit (by omega), if_pos hbit, ← hV], s50⟩ ?_
        · exact .cons (by first | exact lkI rfl (by omega) | rfl) (.cons (by first | exact lkI rfl (by omega) | rfl) (.cons (by first | exact lkI rfl (by omega) | rfl) (.cons (by first | exact lkI rfl (by omega) | rfl) (.cons (by first | exact lkI rfl (by omega) | rfl) .nil))))
        · omega
      · have hbit : ¬ be b / 2 ^ (j - 1) % 2 = 1 := by
          generalize be b / 2 ^ (j - 1) = z at *
          omega
        refine At.skip ?_
        refine At.inNorm ?_
        refine At.norm (hk_13 ?_)
        refine At.region ?_
        refine op_move (nxlf rfl) rfl rfl ?_
        refine op_subI (nxlf rfl) rfl rfl (by omega) (by omega) rfl ?_
        refine op_assign (nxlf rfl) rfl rfl ?_
        refine At.opsNil ?_
        refine At.norm ?_
        refine At.sub (L' := [M42, M27, M17, M15, N7, R]) (.cons_cons _ (.cons _ (.cons_cons _ (.cons_cons _ (.cons_cons _ (.cons_cons _ (.cons_cons _ (.slnil)))))))) ?_
        refine At.back ?_ (.refl _) ⟨j - 1, _, p42, c42, M42, rfl, rfl, rfl, by omega, by rw [pow_bit (by omega), if_neg hbit, ← hV, Nat.mul_one, Nat.mod_mod], s42⟩ ?_
        · exact .cons (by first | exact lkI rfl (by omega) | rfl) (.cons (by first | exact lkI rfl (by omega) | rfl) (.cons (by first | exact lkI rfl (by omega) | rfl) (.cons (by first | exact lkI rfl (by omega) | rfl) (.cons (by first | exact lkI rfl (by omega) | rfl) .nil))))
        · omega
    · refine At.exit (At.thenExit (At.thenExit (At.inHit ?_)))
      refine At.norm (hk_9 ?_)
      refine At.seq fun K16 hk_16 => ?_
      refine At.region ?_
      refine op_move (nxlf rfl) rfl rfl ?_
      refine op_callA (nxla rfl) (.cons rfl .nil) (Bytes_f sx (by omega)) Try.func121 rfl rfl (by simp) rfl ?_
      rintro v52 L52 ⟨M52, p52, rfl, rfl, r52⟩
      change At _ _ _ [M52, Nx, M27, M17, M15, N7, R] _
      refine op_assign (nxlf rfl) rfl rfl ?_
      refine At.opsNil ?_
      refine At.norm (hk_16 ?_)
      refine At.ret (?_)
      refine At.sub (L' := [M52, R]) (.cons_cons _ (.cons _ (.cons _ (.cons _ (.cons _ (.cons _ (.cons_cons _ (.slnil)))))))) ?_
      refine At.ret1 (L1 := [M52]) rfl (.tmp rfl .nil) (.refl _) (.refl _) ?_
      rw [v64_limbsOf, hV, show j = 0 by omega, Nat.pow_zero, Nat.div_one] at r52 ⊢
      exact ⟨M52, p52, _, rfl, rfl, r52⟩
end
end Go.Proofs.Ytefljbbpaideaaa
