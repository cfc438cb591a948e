/- The reference's DivMod, Mod, ModExp in full. Condition: numbers of at most some 2^40 digits; the divisor is not 0. -/
import Derived.Test.YtefljbbpaideaaaKRf4
import Derived.Test.YtefljbbpaideaaaKNf2
namespace Go.Proofs.Ytefljbbpaideaaa
set_option linter.unusedVariables false
set_option linter.unusedSimpArgs false
open Go Go.RowKit
theorem Hp.empty {E w : World} {L : List Heaplet} (h : Hp E L w) : Hp E (nilH :: L) w :=
  ⟨h.os, h.tape, h.output, fun N hN => by
    rcases List.mem_cons.1 hN with rfl | hN
    · intro k o hk; cases hk
    · exact h.sub N hN, List.pairwise_cons.2 ⟨fun N _ k => .inl rfl, h.sep⟩⟩
theorem Fn.liftR {P : Program} {f : FuncId} {args : Array Value} {L0 Lr : List Heaplet} {R : Heaplet} {Post : Value → List Heaplet → Prop} (h : Fn P f args L0 Lr Post) (hl : ∀ N ∈ Lr, N.le R) : Fn P f args L0 [R] Post := fun E w F hp hr =>
  h E w F hp fun M hM => Heaplet.le_trans (hl M hM) (hr R (by simp))
/-- A quotient in new memory, and a rest that may be what was divided. -/
def DivR (N : Heaplet) (A B : Nat) (v : Value) (L : List Heaplet) : Prop :=
  ∃ Mq aq cq Mr ar cr, v = .tuple #[.slice aq (digsOf A).length cq, .slice ar (digsOf B).length cr] ∧ L = [Mq, Mr] ∧ RSl Mq 1 aq (digsOf A).length cq (u32s (digsOf A)) ∧ (RSl Mr 1 ar (digsOf B).length cr (u32s (digsOf B)) ∨ RSl N 1 ar (digsOf B).length cr (u32s (digsOf B)))
def ModR (N : Heaplet) (V : Nat) (v : Value) (L : List Heaplet) : Prop :=
  ∃ Q p c, v = .slice p (digsOf V).length c ∧ L = [Q] ∧ (RSl Q 1 p (digsOf V).length c (u32s (digsOf V)) ∨ RSl N 1 p (digsOf V).length c (u32s (digsOf V)))
section
variable {N M : Heaplet} {ax bx : Option Addr} {na nb ca cb A B : Nat}
theorem rDivMod_f (ha : RSl N 1 ax na ca (u32s (digsOf A))) (hb : RSl M 1 bx nb cb (u32s (digsOf B))) (hn : na ≤ 1099511627770) (hm : nb ≤ 1099511627770) (hB : 0 < B) :
    Fn Try.prog 41 #[.slice ax na ca, .slice bx nb cb] [] [N, M] (DivR N (A / B) (A % B)) := by
  rcases Nat.lt_or_ge A B with h | h
  · intro E w R hw hr
    refine (rDivMod_lt ha hb h E w R hw hr).mono ?_
    rintro e w' ⟨v, L1, rfl, ⟨rfl, rfl⟩, hp⟩
    have hal := ha.len32
    refine ⟨_, [nilH, nilH], rfl, ⟨nilH, none, 0, nilH, ax, ca, ?_, rfl, ?_, .inr ?_⟩, hp.empty.empty⟩
    · rw [Nat.div_eq_of_lt h, Nat.mod_eq_of_lt h, hal]; rfl
    · rw [Nat.div_eq_of_lt h]; exact RSl.nil _ _
    · rw [Nat.mod_eq_of_lt h, hal]; exact ha
  · refine (rDivMod_ge ha hb hn hm h hB).mono fun v L hP => ?_
    obtain ⟨M1, a1, c1, M2, a2, c2, rfl, rfl, h1, h2⟩ := hP
    exact ⟨M1, a1, c1, M2, a2, c2, rfl, rfl, h1, .inl h2⟩
theorem rMod_f (ha : RSl N 1 ax na ca (u32s (digsOf A))) (hb : RSl M 1 bx nb cb (u32s (digsOf B))) (hn : na ≤ 1099511627770) (hm : nb ≤ 1099511627770) (hB : 0 < B) :
    Fn Try.prog 106 #[.slice ax na ca, .slice bx nb cb] [] [N, M] (ModR N (A % B)) := by
  refine Fn.enter (vs := [.slice ax na ca, .slice bx nb cb]) Try.func106 rfl rfl rfl ?_
  intro E R hR
  change At _ _ E [R] _
  refine At.seq fun K1 hk_1 => ?_
  refine At.region ?_
  refine op_assign (nxlf rfl) rfl rfl ?_
  refine At.opsNil ?_
  refine At.norm (hk_1 ?_)
  refine At.seq fun K2 hk_2 => ?_
  refine At.region ?_
  refine op_move (nxlf rfl) rfl rfl ?_
  refine op_move (nxlf rfl) rfl rfl ?_
  refine op_callA (nxla rfl) (.cons rfl (.cons rfl .nil)) ((rDivMod_f ha hb hn hm hB).liftR hR) Try.func41 rfl rfl (by simp) rfl ?_
  rintro v10 L10 ⟨Mq, pq, cq, Mr, pr, cr, rfl, rfl, sq, sr⟩
  change At _ _ _ [Mq, Mr, R] _
  refine op_move (nxlf rfl) rfl rfl ?_
  refine op_extract (nxlf rfl) rfl rfl rfl ?_
  refine op_extract (nxlf rfl) rfl rfl rfl ?_
  refine op_assign (nxlf rfl) rfl rfl ?_
  refine op_assign (nxlf rfl) rfl rfl ?_
  refine At.opsNil ?_
  refine At.norm (hk_2 ?_)
  refine At.seq fun K3 hk_3 => ?_
  refine At.region ?_
  refine op_move (nxlf rfl) rfl rfl ?_
  refine op_assign (nxlf rfl) rfl rfl ?_
  refine At.opsNil ?_
  refine At.norm (hk_3 ?_)
  refine At.ret (?_)
  refine At.sub (L' := [Mr, R]) (.cons _ (.cons_cons _ (.cons_cons _ (.slnil)))) ?_
  refine At.ret1 (L1 := [Mr]) rfl (.tmp rfl .nil) (.refl _) (.refl _) ?_
  exact ⟨Mr, pr, cr, rfl, rfl, sr⟩
/-- A slice that lies in one of two parts of the memory. -/
theorem or_mul {Q R : Heaplet} {xo : Option Addr} {nx cx X : Nat} (ha : RSl N 1 ax na ca (u32s (digsOf A))) (hx : RSl Q 1 xo nx cx (u32s (digsOf X)) ∨ RSl R 1 xo nx cx (u32s (digsOf X))) (hn : na ≤ 1099511627776) (hm : nx ≤ 1099511627776) :
    Fn Try.prog 97 #[.slice ax na ca, .slice xo nx cx] [] [N, Q, R] (DigsP (A * X)) := by
  rcases hx with h | h
  · have := rMul_f ha h hn hm
    rw [v32_digsOf, v32_digsOf] at this
    exact this.more (by simp)
  · have := rMul_f ha h hn hm
    rw [v32_digsOf, v32_digsOf] at this
    exact this.more (by simp)
end
theorem digs_mul {X Y n : Nat} (hx : (digsOf X).length ≤ n) (hy : (digsOf Y).length ≤ n) : (digsOf (X * Y)).length ≤ 2 * n := by
  rw [length_digsOf]
  refine digLen_le.2 ?_
  have h1 : X < 2 ^ (32 * n) := digLen_le.1 (by rw [← length_digsOf]; exact hx)
  have h2 : Y < 2 ^ (32 * n) := digLen_le.1 (by rw [← length_digsOf]; exact hy)
  rw [show 32 * (2 * n) = 32 * n + 32 * n by omega, Nat.pow_add]
  exact Nat.mul_lt_mul'' h1 h2
section
variable {N M Nm : Heaplet} {bx ex mx : Option Addr} {nb ne nm cb ce cm B E' Mv : Nat}
set_option maxRecDepth 100000 in
theorem rModExp_f (hb : RSl N 1 bx nb cb (u32s (digsOf B))) (he : RSl M 1 ex ne ce (u32s (digsOf E'))) (hm : RSl Nm 1 mx nm cm (u32s (digsOf Mv))) (hnb : nb ≤ 17179869184) (hne : ne ≤ 17179869184) (hnm : nm ≤ 17179869184) (h0 : 0 < Mv) :
    Fn Try.prog 45 #[.slice bx nb cb, .slice ex ne ce, .slice mx nm cm] [] [N, M, Nm] (DigsP (B ^ E' % Mv)) := by
  have hbl := hb.len32
  have hel := he.len32
  have hml := hm.len32
  have hmod : ∀ V : Nat, (digsOf (V % Mv)).length ≤ nm := fun V => by
    have := digs_mono (Nat.le_of_lt (Nat.mod_lt V h0)); omega
  have e1 : digsOf 1 = [1] := by decide +kernel
  have hbb : bitLen E' ≤ 32 * ne := by have := length_digsOf E'; omega
  refine Fn.enter (vs := [.slice bx nb cb, .slice ex ne ce, .slice mx nm cm]) Try.func45 rfl rfl rfl ?_
  intro E R hR
  have hb := hb.le (hR N (by simp))
  have he := he.le (hR M (by simp))
  have hm := hm.le (hR Nm (by simp))
  change At _ _ E [R] _
  refine At.seq fun K1 hk_1 => ?_
  refine At.region ?_
  refine op_assign (nxlf rfl) rfl rfl ?_
  refine At.opsNil ?_
  refine At.norm (hk_1 ?_)
  refine At.seq fun K2 hk_2 => ?_
  refine At.region ?_
  refine op_lit (nxla rfl) Try.underlying38 ze65 sz65 (.cons rfl .nil) rfl rfl (by simp [Value.cells]) rfl rfl rfl (fun N10 a10 r10 => ?_)
  simp only [flatV, List.flatMap_cons, List.flatMap_nil, Value.cells, List.append_nil, List.cons_append, List.nil_append] at r10
  have s10 := r10.rsl
  change Row N10 _ 1 a10 1 1 (u32s [1]) at r10
  rw [← e1] at r10
  have s10 := r10.rsl
  refine op_move (nxlf rfl) rfl rfl ?_
  refine op_callA (nxla rfl) (.cons rfl (.cons rfl .nil)) (rMod_f s10 hm (by omega) (by omega) h0) Try.func106 rfl rfl (by simp) rfl ?_
  rintro v12 L12 ⟨M12, p12, c12, rfl, rfl, h12⟩
  change At _ _ _ [M12, N10, R] _
  refine op_assign (nxlf rfl) rfl rfl ?_
  refine At.opsNil ?_
  refine At.norm (hk_2 ?_)
  refine At.seq fun K3 hk_3 => ?_
  refine At.region ?_
  refine At.mergeN (fun J12 J121 J122 => ?_)
  have s12 := h12.elim (fun h => h.le J121) (fun h => h.le J122)
  refine op_move (nxlf rfl) rfl rfl ?_
  refine op_move (nxlf rfl) rfl rfl ?_
  refine op_callA (nxla rfl) (.cons rfl (.cons rfl .nil)) (rMod_f hb hm (by omega) (by omega) h0) Try.func106 rfl rfl (by simp) rfl ?_
  rintro v15 L15 ⟨M15, p15, c15, rfl, rfl, h15⟩
  change At _ _ _ [M15, J12, R] _
  refine op_assign (nxlf rfl) rfl rfl ?_
  refine At.opsNil ?_
  refine At.norm (hk_3 ?_)
  refine At.seq fun K4 hk_4 => ?_
  refine At.seq fun K5 hk_5 => ?_
  refine At.region ?_
  refine op_move (nxlf rfl) rfl rfl ?_
  refine op_callA (nxla rfl) (.cons rfl .nil) (rLen_f he (by omega)) Try.func73 rfl rfl (by simp) rfl ?_
  rintro v17 L17 ⟨rfl, rfl⟩
  change At _ _ _ [M15, J12, R] _
  rw [v32_digsOf]
  refine op_subI (nxlf rfl) rfl rfl (by omega) (by omega) rfl ?_
  refine op_assign (nxlf rfl) rfl rfl ?_
  refine At.opsNil ?_
  refine At.norm (hk_5 ?_)
  refine At.block ?_
  refine At.perm sel2 ?_
  refine At.perm sel1 ?_
  refine At.perm sel2 ?_
  refine At.loop (fun fr_ hp_ ms_ => ∃ (j : Nat) (V : Nat) (xo : Option Addr) (xc : Nat) (Nx : Heaplet), fr_ = [(1, .slice ex ne ce), (2, .slice mx nm cm), (7, .slice xo (digsOf V).length xc), (8, .slice p15 (digsOf (B % Mv)).length c15), (9, .int .i64 ((j : Int) - 1))] ∧ hp_ = [Nx, M15, R] ∧ j = ms_ ∧ (j ≤ bitLen E') ∧ (V = B ^ (E' / 2 ^ j) % Mv) ∧ (RSl Nx 1 xo (digsOf V).length xc (u32s (digsOf V)))) ?_ (.refl _) ⟨bitLen E', 1 % Mv, p12, c12, J12, rfl, rfl, rfl, by omega, by rw [Nat.div_eq_of_lt (lt_bitLen _), Nat.pow_zero], s12⟩ ?_
  · exact .cons (by first | exact lkI rfl (by omega) | rfl) (.cons (by first | exact lkI rfl (by omega) | rfl) (.cons (by first | exact lkI rfl (by omega) | rfl) (.cons (by first | exact lkI rfl (by omega) | rfl) (.cons (by first | exact lkI rfl (by omega) | rfl) .nil))))
  rintro _ _ _ ⟨j, V, xo, xc, Nx, rfl, rfl, rfl, hj, hV, sx⟩
  have hVl : (digsOf V).length ≤ nm := by rw [hV]; exact hmod _
  have hVV := digs_mul hVl hVl
  refine At.seq fun K6 hk_6 => ?_
  refine At.seq fun K7 hk_7 => ?_
  refine At.region ?_
  refine op_move (nxlf rfl) rfl rfl ?_
  refine op_geq (nxlf rfl) rfl rfl rfl ?_
  refine At.opsNil ?_
  refine At.norm (hk_7 ?_)
  refine At.condP rfl (fun c20 => ?_) (fun c20 => ?_)
  · refine At.skip ?_
    refine At.norm (hk_6 ?_)
    refine At.seq fun K8 hk_8 => ?_
    refine At.block ?_
    refine At.seq fun K9 hk_9 => ?_
    refine At.region ?_
    refine op_move (nxlf rfl) rfl rfl ?_
    refine op_move (nxlf rfl) rfl rfl ?_
    refine op_callA (nxla rfl) (.cons rfl (.cons rfl .nil)) (rMul_f sx sx (by omega) (by omega)) Try.func97 rfl rfl (by simp) rfl ?_
    rintro v25 L25 ⟨M25, p25, c25, rfl, rfl, s25⟩
    change At _ _ _ [M25, Nx, M15, R] _
    rw [v32_digsOf] at s25 ⊢
    refine op_move (nxlf rfl) rfl rfl ?_
    refine op_callA (nxla rfl) (.cons rfl (.cons rfl .nil)) (rMod_f s25 hm (by omega) (by omega) h0) Try.func106 rfl rfl (by simp) rfl ?_
    rintro v27 L27 ⟨M27, p27, c27, rfl, rfl, h27⟩
    change At _ _ _ [M27, M25, Nx, M15, R] _
    refine op_assign (nxlf rfl) rfl rfl ?_
    refine At.opsNil ?_
    refine At.norm (hk_9 ?_)
    refine At.seq fun K10 hk_10 => ?_
    refine At.region ?_
    refine At.mergeN (fun J27 J271 J272 => ?_)
    have s27 := h27.elim (fun h => h.le J271) (fun h => h.le J272)
    have h27l := hmod (V * V)
    refine op_move (nxlf rfl) rfl rfl ?_
    refine op_move (nxlf rfl) rfl rfl ?_
    rw [show (j : Int) - 1 = ((j - 1 : Nat) : Int) by omega]
    refine op_callA (nxla rfl) (.cons rfl (.cons rfl .nil)) (rBit_f he (j - 1) (by omega)) Try.func71 rfl rfl (by simp) rfl ?_
    rintro v30 L30 ⟨rfl, rfl⟩
    change At _ _ _ [J27, Nx, M15, R] _
    rw [v32_digsOf]
    refine op_eql (nxlf rfl) rfl rfl rfl ?_
    refine At.opsNil ?_
    refine At.norm (hk_10 ?_)
    refine At.condP rfl (fun c31 => ?_) (fun c31 => ?_)
    · have hbit : E' / 2 ^ (j - 1) % 2 = 1 := by
        generalize E' / 2 ^ (j - 1) = z at *
        omega
      have hBl := hmod B
      have hVB := digs_mul h27l hBl
      refine At.region ?_
      refine op_move (nxlf rfl) rfl rfl ?_
      refine op_move (nxlf rfl) rfl rfl ?_
      refine op_callA (nxla rfl) (.cons rfl (.cons rfl .nil)) (or_mul s27 h15 (by omega) (by omega)) Try.func97 rfl rfl (by simp) rfl ?_
      rintro v34 L34 ⟨M34, p34, c34, rfl, rfl, s34⟩
      change At _ _ _ [M34, J27, Nx, M15, R] _
      refine op_move (nxlf rfl) rfl rfl ?_
      refine op_callA (nxla rfl) (.cons rfl (.cons rfl .nil)) (rMod_f s34 hm (by omega) (by omega) h0) Try.func106 rfl rfl (by simp) rfl ?_
      rintro v36 L36 ⟨M36, p36, c36, rfl, rfl, h36⟩
      change At _ _ _ [M36, M34, J27, Nx, M15, R] _
      refine op_assign (nxlf rfl) rfl rfl ?_
      refine At.opsNil ?_
      refine At.inNorm ?_
      refine At.norm (hk_8 ?_)
      refine At.region ?_
      refine op_move (nxlf rfl) rfl rfl ?_
      refine op_subI (nxlf rfl) rfl rfl (by omega) (by omega) rfl ?_
      refine op_assign (nxlf rfl) rfl rfl ?_
      refine At.opsNil ?_
      refine At.norm ?_
      refine At.mergeN (fun J36 J361 J362 => ?_)
      refine At.sub (L' := [J36, M15, R]) (.cons_cons _ (.cons _ (.cons _ (.cons_cons _ (.cons_cons _ (.slnil)))))) ?_
      refine At.back ?_ (.refl _) ⟨j - 1, _, p36, c36, J36, rfl, rfl, rfl, by omega, by rw [pow_bit (by omega), if_pos hbit, ← hV], h36.elim (fun h => h.le J361) (fun h => h.le J362)⟩ ?_
      · exact .cons (by first | exact lkI rfl (by omega) | rfl) (.cons (by first | exact lkI rfl (by omega) | rfl) (.cons (by first | exact lkI rfl (by omega) | rfl) (.cons (by first | exact lkI rfl (by omega) | rfl) (.cons (by first | exact lkI rfl (by omega) | rfl) .nil))))
      · omega
    · have hbit : ¬ E' / 2 ^ (j - 1) % 2 = 1 := by
        generalize E' / 2 ^ (j - 1) = z at *
        omega
      refine At.skip ?_
      refine At.inNorm ?_
      refine At.norm (hk_8 ?_)
      refine At.region ?_
      refine op_move (nxlf rfl) rfl rfl ?_
      refine op_subI (nxlf rfl) rfl rfl (by omega) (by omega) rfl ?_
      refine op_assign (nxlf rfl) rfl rfl ?_
      refine At.opsNil ?_
      refine At.norm ?_
      refine At.sub (L' := [J27, M15, R]) (.cons_cons _ (.cons _ (.cons_cons _ (.cons_cons _ (.slnil))))) ?_
      refine At.back ?_ (.refl _) ⟨j - 1, _, p27, c27, J27, rfl, rfl, rfl, by omega, by rw [pow_bit (by omega), if_neg hbit, ← hV, Nat.mul_one, Nat.mod_mod], s27⟩ ?_
      · exact .cons (by first | exact lkI rfl (by omega) | rfl) (.cons (by first | exact lkI rfl (by omega) | rfl) (.cons (by first | exact lkI rfl (by omega) | rfl) (.cons (by first | exact lkI rfl (by omega) | rfl) (.cons (by first | exact lkI rfl (by omega) | rfl) .nil))))
      · omega
  · refine At.exit (At.thenExit (At.thenExit (At.inHit ?_)))
    refine At.norm (hk_4 ?_)
    refine At.seq fun K11 hk_11 => ?_
    refine At.region ?_
    refine op_move (nxlf rfl) rfl rfl ?_
    refine op_assign (nxlf rfl) rfl rfl ?_
    refine At.opsNil ?_
    refine At.norm (hk_11 ?_)
    refine At.ret (?_)
    refine At.sub (L' := [Nx, R]) (.cons_cons _ (.cons _ (.cons_cons _ (.slnil)))) ?_
    refine At.ret1 (L1 := [Nx]) rfl (.tmp rfl .nil) (.refl _) (.refl _) ?_
    rw [hV, show j = 0 by omega, Nat.pow_zero, Nat.div_one] at sx ⊢
    exact ⟨Nx, xo, xc, rfl, rfl, sx⟩
end
end Go.Proofs.Ytefljbbpaideaaa
