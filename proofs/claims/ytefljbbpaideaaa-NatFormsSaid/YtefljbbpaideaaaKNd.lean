/- quarrylaw02.NatDivides answers true. No condition. -/
import Derived.Test.YtefljbbpaideaaaKNw
namespace Go.Proofs.Ytefljbbpaideaaa
set_option linter.unusedVariables false
set_option linter.unusedSimpArgs false
open Go Go.RowKit
theorem or_bytes {Q N : Heaplet} {p : Option Addr} {c V : Nat} (h : RSl Q 1 p (digsOf V).length c (u32s (digsOf V)) ∨ RSl N 1 p (digsOf V).length c (u32s (digsOf V))) (hn : (digsOf V).length ≤ 17592186044416) :
    Fn Try.prog 42 #[.slice p (digsOf V).length c] [] [Q, N] (BytesP V) := by
  rcases h with h | h
  · have := Bytes32_f h hn
    rw [v32_digsOf] at this
    exact this.more (by simp)
  · have := Bytes32_f h hn
    rw [v32_digsOf] at this
    exact this.more (by simp)
theorem digs_be_len (l : List UInt8) : (digsOf (be l)).length ≤ l.length + 1 := by
  rw [length_digsOf]
  have h := be_lt l
  have h2 : bitLen (be l) ≤ 8 * l.length := bitLen_le.2 (by rw [Nat.pow_mul]; exact h)
  omega
theorem digs_zero {V : Nat} : (digsOf V).length = 0 ↔ V = 0 := by
  rw [length_digsOf]
  constructor
  · intro h
    rcases Nat.eq_zero_or_pos V with h0 | h0
    · exact h0
    · have := bitLen_pos h0; omega
  · rintro rfl; rfl
set_option maxRecDepth 100000 in
set_option maxHeartbeats 1000000 in
theorem NatDivides_z {N : Heaplet} {ao bo mo : Option Addr} {n m k ca cb cm : Nat} {a b : List UInt8} {I W : Int} (ha : RSl N 1 ao n ca (u8s a)) (hb : RSl N 1 bo m cb (u8s b)) (hcase : be (b.take 600) = 0) :
    Fn Try.prog 6 #[.agg #[.slice ao n ca, .slice bo m cb, .slice mo k cm, .int .i64 I, .int .i64 W]] [] [N] (fun v L => v = .bool true ∧ L = []) := by
  have ha6 : (a.take 600).length ≤ 600 := by rw [List.length_take]; omega
  have hb6 : (b.take 600).length ≤ 600 := by rw [List.length_take]; omega
  have hda := digs_be_len (a.take 600)
  have hdb := digs_be_len (b.take 600)
  have hz := digs_zero (V := be (b.take 600))
  have hq : (digsOf (be (a.take 600) / be (b.take 600))).length ≤ (digsOf (be (a.take 600))).length := digs_mono (Nat.div_le_self _ _)
  have hr : (digsOf (be (a.take 600) % be (b.take 600))).length ≤ (digsOf (be (a.take 600))).length := digs_mono (Nat.mod_le _ _)
  refine Fn.enter (vs := [.agg #[.slice ao n ca, .slice bo m cb, .slice mo k cm, .int .i64 I, .int .i64 W]]) Try.func6 rfl rfl rfl ?_
  intro E R hR
  have ha := ha.le (hR N (by simp))
  have hb := hb.le (hR N (by simp))
  change At _ _ E [R] _
  refine At.seq fun K1 hk_1 => ?_
  refine At.region ?_
  refine op_box (nxla rfl) rfl rfl rfl (fun N1 b1 B1 => ?_)
  refine op_assign (nxlf rfl) rfl rfl ?_
  refine At.opsNil ?_
  refine At.norm (hk_1 ?_)
  refine At.seq fun K2 hk_2 => ?_
  refine At.region ?_
  refine op_fieldAddr (nxlf rfl) fl36_0 rfl rfl ?_
  refine op_loadB (nxlf rfl) sc34 rfl B1 (by first | rfl) mem0 rfl ?_
  refine op_callA (nxla rfl) (.cons rfl .nil) (few_f ha) Try.func38 rfl rfl (by simp) rfl ?_
  rintro v12 L12 ⟨M12, a12, p12, rfl, rfl, r12⟩
  change At _ _ _ [M12, N1, R] _
  have s12 := r12.rsl
  refine op_callA (nxla rfl) (.cons rfl .nil) (rFrom_f s12 (by omega)) Try.func37 rfl rfl (by simp) rfl ?_
  rintro v13 L13 ⟨M13, a13, p13, rfl, rfl, s13⟩
  change At _ _ _ [M13, M12, N1, R] _
  refine op_assign (nxlf rfl) rfl rfl ?_
  refine At.opsNil ?_
  refine At.norm (hk_2 ?_)
  refine At.seq fun K3 hk_3 => ?_
  refine At.region ?_
  refine op_fieldAddr (nxlf rfl) fl36_1 rfl rfl ?_
  refine op_loadB (nxlf rfl) sc34 rfl B1 (by first | rfl) mem2 rfl ?_
  refine op_callA (nxla rfl) (.cons rfl .nil) (few_f hb) Try.func38 rfl rfl (by simp) rfl ?_
  rintro v16 L16 ⟨M16, a16, p16, rfl, rfl, r16⟩
  change At _ _ _ [M16, M13, M12, N1, R] _
  have s16 := r16.rsl
  refine op_callA (nxla rfl) (.cons rfl .nil) (rFrom_f s16 (by omega)) Try.func37 rfl rfl (by simp) rfl ?_
  rintro v17 L17 ⟨M17, a17, p17, rfl, rfl, s17⟩
  change At _ _ _ [M17, M16, M13, M12, N1, R] _
  refine op_assign (nxlf rfl) rfl rfl ?_
  refine At.opsNil ?_
  refine At.norm (hk_3 ?_)
  refine At.seq fun K4 hk_4 => ?_
  refine At.perm sel5 ?_
  refine At.perm sel3 ?_
  refine At.perm sel2 ?_
  refine At.perm sel5 ?_
  refine At.perm sel5 ?_
  refine At.perm sel5 ?_
  refine At.drawnS [N1, M17, M13, R] [5,6] [] [0,1,3,4,2,5,6,7,8,9,10,11,12,13] (by kernel_rfl) (by kernel_rfl) (.cons _ (.cons _ (.refl _))) ?_
  refine op_fieldAddr (nxsf rfl rfl rfl) fl36_0 rfl rfl ?_
  refine op_loadB (nxsf rfl rfl rfl) sc34 rfl B1 (by first | rfl) mem0 rfl ?_
  refine op_fieldAddr (nxsf rfl rfl rfl) fl36_1 rfl rfl ?_
  refine op_loadB (nxsf rfl rfl rfl) sc34 rfl B1 (by first | rfl) mem0 rfl ?_
  refine op_callA (Nx.agree (nxsm rfl rfl rfl)) (.cons rfl .nil) (few_f ha) Try.func38 rfl rfl (by simp) rfl ?_
  rintro v21 L21 ⟨M21, a21, p21, rfl, rfl, r21⟩
  change At _ _ _ [M21, M16, M12, N1, M17, M13, R] _
  have s21 := r21.rsl
  refine At.perm sel6 ?_
  refine At.perm sel6 ?_
  refine At.perm sel6 ?_
  refine At.perm sel6 ?_
  refine At.perm sel4 ?_
  refine At.perm sel6 ?_
  refine At.perm sel6 ?_
  refine At.moreS (Lst := [N1, M17, M13, R]) (Lst' := [M21, N1, M17, M13, R]) (.cons _ (.refl _)) (.cons _ (.cons _ (.refl _))) ?_
  refine op_callA (Nx.agree (nxss rfl rfl rfl rfl)) (.cons rfl .nil) (few_f hb) Try.func38 rfl rfl (by simp) rfl ?_
  rintro v24 L24 ⟨M24, a24, p24, rfl, rfl, r24⟩
  change At _ _ _ [M24, M16, M12, M21, N1, M17, M13, R] _
  have s24 := r24.rsl
  refine At.anyS (.refl _) ?_
  refine op_callA (Nx.agree (nxss rfl rfl rfl rfl)) (.cons rfl (.cons rfl .nil)) (NDivMod_0 s24 (by omega) hcase) Try.func39 rfl rfl (by simp) rfl ?_
  rintro v25 L25 ⟨rfl, rfl⟩
  change At _ _ _ [M24, M16, M12, M21, N1, M17, M13, R] _
  refine At.anyS (.refl _) ?_
  refine op_move (nxsf rfl rfl rfl) rfl rfl ?_
  refine op_extract (nxsf rfl rfl rfl) rfl rfl rfl ?_
  refine op_extract (nxsf rfl rfl rfl) rfl rfl rfl ?_
  refine op_extract (nxsf rfl rfl rfl) rfl rfl rfl ?_
  refine op_assign (nxsf rfl rfl rfl) rfl rfl ?_
  refine op_assign (nxsf rfl rfl rfl) rfl rfl ?_
  refine op_assign (nxsf rfl rfl rfl) rfl rfl ?_
  refine At.sNil ?_
  refine At.norm (hk_4 ?_)
  refine At.seq fun K5 hk_5 => ?_
  refine At.seq fun K6 hk_6 => ?_
  refine At.region ?_
  refine op_move (nxlf rfl) rfl rfl ?_
  refine op_lenS (nxlf rfl) se38 rfl rfl ?_
  refine op_eql (nxlf rfl) rfl rfl rfl ?_
  refine At.opsNil ?_
  refine At.norm (hk_6 ?_)
  refine At.condP rfl (fun c31 => ?_) (fun c31 => ?_)
  · refine At.seq fun K7 hk_7 => ?_
    refine At.region ?_
    refine op_move (nxlf rfl) rfl rfl ?_
    refine op_not (nxlf rfl) rfl rfl ?_
    refine op_move (nxlf rfl) rfl rfl ?_
    refine op_move (nxgf rfl rfl rfl rfl) rfl rfl ?_
    refine op_lenS (nxgf rfl rfl rfl rfl) se34 rfl rfl ?_
    refine op_eql (nxgf rfl rfl rfl rfl) rfl rfl rfl ?_
    refine op_pickT (nxlf rfl) rfl rfl rfl ?_
    refine op_move (nxlf rfl) rfl rfl ?_
    refine At.partP (d := 39) rfl (fun g39 => ?_) (fun g39 => ?_)
    · refine op_move (nxgf rfl rfl rfl rfl) rfl rfl ?_
      refine op_lenS (nxgf rfl rfl rfl rfl) se34 rfl rfl ?_
      refine op_eql (nxgf rfl rfl rfl rfl) rfl rfl rfl ?_
      refine op_pickT (nxlf rfl) rfl rfl rfl ?_
      refine op_move (nxlf rfl) rfl rfl ?_
      refine At.partP (d := 44) rfl (fun g44 => ?_) (fun g44 => ?_)
      · refine op_callA (nxga rfl rfl rfl rfl) .nil (Nwakes_f) Try.func40 rfl rfl (by simp) rfl ?_
        rintro v45 L45 ⟨rfl, rfl⟩
        change At _ _ _ [M24, M16, M12, M21, N1, M17, M13, R] _
        refine op_pickT (nxlf rfl) rfl rfl rfl ?_
        refine op_assign (nxlf rfl) rfl rfl ?_
        refine At.opsNil ?_
        refine At.norm (hk_7 ?_)
        refine At.ret (At.thenRet (?_))
        refine At.sub (L' := [R]) (.cons _ (.cons _ (.cons _ (.cons _ (.cons _ (.cons _ (.cons _ (.cons_cons _ (.slnil))))))))) ?_
        refine At.ret1 (L1 := []) rfl (.tmp rfl .nil) (.refl _) (.refl _) ?_
        exact ⟨rfl, rfl⟩
      · exact absurd rfl g44
    · exact absurd rfl g39
  · exfalso; omega
set_option maxRecDepth 100000 in
set_option maxHeartbeats 1000000 in
theorem NatDivides_p {N : Heaplet} {ao bo mo : Option Addr} {n m k ca cb cm : Nat} {a b : List UInt8} {I W : Int} (ha : RSl N 1 ao n ca (u8s a)) (hb : RSl N 1 bo m cb (u8s b)) (hcase : 0 < be (b.take 600)) :
    Fn Try.prog 6 #[.agg #[.slice ao n ca, .slice bo m cb, .slice mo k cm, .int .i64 I, .int .i64 W]] [] [N] (fun v L => v = .bool true ∧ L = []) := by
  have ha6 : (a.take 600).length ≤ 600 := by rw [List.length_take]; omega
  have hb6 : (b.take 600).length ≤ 600 := by rw [List.length_take]; omega
  have hda := digs_be_len (a.take 600)
  have hdb := digs_be_len (b.take 600)
  have hz := digs_zero (V := be (b.take 600))
  have hq : (digsOf (be (a.take 600) / be (b.take 600))).length ≤ (digsOf (be (a.take 600))).length := digs_mono (Nat.div_le_self _ _)
  have hr : (digsOf (be (a.take 600) % be (b.take 600))).length ≤ (digsOf (be (a.take 600))).length := digs_mono (Nat.mod_le _ _)
  refine Fn.enter (vs := [.agg #[.slice ao n ca, .slice bo m cb, .slice mo k cm, .int .i64 I, .int .i64 W]]) Try.func6 rfl rfl rfl ?_
  intro E R hR
  have ha := ha.le (hR N (by simp))
  have hb := hb.le (hR N (by simp))
  change At _ _ E [R] _
  refine At.seq fun K1 hk_1 => ?_
  refine At.region ?_
  refine op_box (nxla rfl) rfl rfl rfl (fun N1 b1 B1 => ?_)
  refine op_assign (nxlf rfl) rfl rfl ?_
  refine At.opsNil ?_
  refine At.norm (hk_1 ?_)
  refine At.seq fun K2 hk_2 => ?_
  refine At.region ?_
  refine op_fieldAddr (nxlf rfl) fl36_0 rfl rfl ?_
  refine op_loadB (nxlf rfl) sc34 rfl B1 (by first | rfl) mem0 rfl ?_
  refine op_callA (nxla rfl) (.cons rfl .nil) (few_f ha) Try.func38 rfl rfl (by simp) rfl ?_
  rintro v12 L12 ⟨M12, a12, p12, rfl, rfl, r12⟩
  change At _ _ _ [M12, N1, R] _
  have s12 := r12.rsl
  refine op_callA (nxla rfl) (.cons rfl .nil) (rFrom_f s12 (by omega)) Try.func37 rfl rfl (by simp) rfl ?_
  rintro v13 L13 ⟨M13, a13, p13, rfl, rfl, s13⟩
  change At _ _ _ [M13, M12, N1, R] _
  refine op_assign (nxlf rfl) rfl rfl ?_
  refine At.opsNil ?_
  refine At.norm (hk_2 ?_)
  refine At.seq fun K3 hk_3 => ?_
  refine At.region ?_
  refine op_fieldAddr (nxlf rfl) fl36_1 rfl rfl ?_
  refine op_loadB (nxlf rfl) sc34 rfl B1 (by first | rfl) mem2 rfl ?_
  refine op_callA (nxla rfl) (.cons rfl .nil) (few_f hb) Try.func38 rfl rfl (by simp) rfl ?_
  rintro v16 L16 ⟨M16, a16, p16, rfl, rfl, r16⟩
  change At _ _ _ [M16, M13, M12, N1, R] _
  have s16 := r16.rsl
  refine op_callA (nxla rfl) (.cons rfl .nil) (rFrom_f s16 (by omega)) Try.func37 rfl rfl (by simp) rfl ?_
  rintro v17 L17 ⟨M17, a17, p17, rfl, rfl, s17⟩
  change At _ _ _ [M17, M16, M13, M12, N1, R] _
  refine op_assign (nxlf rfl) rfl rfl ?_
  refine At.opsNil ?_
  refine At.norm (hk_3 ?_)
  refine At.seq fun K4 hk_4 => ?_
  refine At.perm sel5 ?_
  refine At.perm sel3 ?_
  refine At.perm sel2 ?_
  refine At.perm sel5 ?_
  refine At.perm sel5 ?_
  refine At.perm sel5 ?_
  refine At.drawnS [N1, M17, M13, R] [5,6] [] [0,1,3,4,2,5,6,7,8,9,10,11,12,13] (by kernel_rfl) (by kernel_rfl) (.cons _ (.cons _ (.refl _))) ?_
  refine op_fieldAddr (nxsf rfl rfl rfl) fl36_0 rfl rfl ?_
  refine op_loadB (nxsf rfl rfl rfl) sc34 rfl B1 (by first | rfl) mem0 rfl ?_
  refine op_fieldAddr (nxsf rfl rfl rfl) fl36_1 rfl rfl ?_
  refine op_loadB (nxsf rfl rfl rfl) sc34 rfl B1 (by first | rfl) mem0 rfl ?_
  refine op_callA (Nx.agree (nxsm rfl rfl rfl)) (.cons rfl .nil) (few_f ha) Try.func38 rfl rfl (by simp) rfl ?_
  rintro v21 L21 ⟨M21, a21, p21, rfl, rfl, r21⟩
  change At _ _ _ [M21, M16, M12, N1, M17, M13, R] _
  have s21 := r21.rsl
  refine At.perm sel6 ?_
  refine At.perm sel6 ?_
  refine At.perm sel6 ?_
  refine At.perm sel6 ?_
  refine At.perm sel4 ?_
  refine At.perm sel6 ?_
  refine At.perm sel6 ?_
  refine At.moreS (Lst := [N1, M17, M13, R]) (Lst' := [M21, N1, M17, M13, R]) (.cons _ (.refl _)) (.cons _ (.cons _ (.refl _))) ?_
  refine op_callA (Nx.agree (nxss rfl rfl rfl rfl)) (.cons rfl .nil) (few_f hb) Try.func38 rfl rfl (by simp) rfl ?_
  rintro v24 L24 ⟨M24, a24, p24, rfl, rfl, r24⟩
  change At _ _ _ [M24, M16, M12, M21, N1, M17, M13, R] _
  have s24 := r24.rsl
  refine At.anyS (.refl _) ?_
  refine op_callA (Nx.agree (nxss rfl rfl rfl rfl)) (.cons rfl (.cons rfl .nil)) (NDivMod_f s21 s24 (by omega) (by omega) hcase) Try.func39 rfl rfl (by simp) rfl ?_
  rintro v25 L25 ⟨Mq, pq, cq, Mr, pr, cr, rfl, rfl, rq, rr⟩
  change At _ _ _ [Mq, Mr, M24, M16, M12, M21, N1, M17, M13, R] _
  have sq := rq.rsl; have sr := rr.rsl
  refine At.anyS (.refl _) ?_
  refine op_move (nxsf rfl rfl rfl) rfl rfl ?_
  refine op_extract (nxsf rfl rfl rfl) rfl rfl rfl ?_
  refine op_extract (nxsf rfl rfl rfl) rfl rfl rfl ?_
  refine op_extract (nxsf rfl rfl rfl) rfl rfl rfl ?_
  refine op_assign (nxsf rfl rfl rfl) rfl rfl ?_
  refine op_assign (nxsf rfl rfl rfl) rfl rfl ?_
  refine op_assign (nxsf rfl rfl rfl) rfl rfl ?_
  refine At.sNil ?_
  refine At.norm (hk_4 ?_)
  refine At.seq fun K5 hk_5 => ?_
  refine At.seq fun K6 hk_6 => ?_
  refine At.region ?_
  refine op_move (nxlf rfl) rfl rfl ?_
  refine op_lenS (nxlf rfl) se38 rfl rfl ?_
  refine op_eql (nxlf rfl) rfl rfl rfl ?_
  refine At.opsNil ?_
  refine At.norm (hk_6 ?_)
  refine At.condP rfl (fun c31 => ?_) (fun c31 => ?_)
  · exfalso; omega
  · refine At.skip ?_
    refine At.norm (hk_5 ?_)
    refine At.seq fun K7 hk_7 => ?_
    refine At.region ?_
    refine op_move (nxlf rfl) rfl rfl ?_
    refine op_move (nxlf rfl) rfl rfl ?_
    refine op_callA (nxla rfl) (.cons rfl (.cons rfl .nil)) (rDivMod_f s13 s17 (by omega) (by omega) hcase) Try.func41 rfl rfl (by simp) rfl ?_
    rintro v50 L50 ⟨Kq, kq, dq, Kr, kr, dr, rfl, rfl, tq, tr⟩
    change At _ _ _ [Kq, Kr, Mq, Mr, M24, M16, M12, M21, N1, M17, M13, R] _
    refine op_move (nxlf rfl) rfl rfl ?_
    refine op_extract (nxlf rfl) rfl rfl rfl ?_
    refine op_extract (nxlf rfl) rfl rfl rfl ?_
    refine op_assign (nxlf rfl) rfl rfl ?_
    refine op_assign (nxlf rfl) rfl rfl ?_
    refine At.opsNil ?_
    refine At.norm (hk_7 ?_)
    refine At.seq fun K8 hk_8 => ?_
    refine At.perm sel11 ?_
    refine At.perm sel11 ?_
    refine At.perm sel5 ?_
    refine At.perm sel5 ?_
    refine At.perm sel5 ?_
    refine At.perm sel5 ?_
    refine At.perm sel11 ?_
    refine At.perm sel11 ?_
    refine At.perm sel11 ?_
    refine At.perm sel11 ?_
    refine At.perm sel11 ?_
    refine At.perm sel11 ?_
    refine At.drawnS [Kq, Kr, Mq, Mr, M13, R] [18] [2,10] [0,1,2,3,4,5,6,7,8,9,10,11,12,13,14,15,16,17,18,19,20] (by kernel_rfl) (by kernel_rfl) (.cons _ (.cons _ (.cons _ (.cons _ (.cons _ (.cons _ (.refl _))))))) ?_
    refine op_move (nxsf rfl rfl rfl) rfl rfl ?_
    refine op_move (nxsf rfl rfl rfl) rfl rfl ?_
    refine op_move (nxsgf rfl rfl rfl rfl rfl rfl) rfl rfl ?_
    refine op_str (nxsgf rfl rfl rfl rfl rfl rfl) Try.underlying34 Try.underlying5 Try.underlying9 rfl (by assumption) (by first | exact mem0 | exact mem1 | exact mem2 | exact mem3 | exact mem4 | exact mem5 | exact mem6 | exact mem7 | exact mem8 | exact mem9) rfl ?_
    refine op_move (nxsgf rfl rfl rfl rfl rfl rfl) rfl rfl ?_
    refine op_callA (Nx.agree (nxsgm rfl rfl rfl rfl rfl rfl)) (.cons rfl .nil) (or_bytes (N := M13) (.inl tq) (by omega)) Try.func42 rfl rfl (by simp) rfl ?_
    rintro v58 L58 ⟨M58, p58, c58, rfl, rfl, r58⟩
    change At _ _ _ [M58, M24, M16, M12, M21, N1, M17, Kq, Kr, Mq, Mr, M13, R] _
    have s58 := r58.rsl
    refine At.perm sel12 ?_
    refine At.perm sel12 ?_
    refine At.perm sel12 ?_
    refine At.perm sel12 ?_
    refine At.perm sel12 ?_
    refine At.perm sel12 ?_
    refine At.perm sel6 ?_
    refine At.perm sel12 ?_
    refine At.perm sel12 ?_
    refine At.perm sel12 ?_
    refine At.perm sel12 ?_
    refine At.perm sel12 ?_
    refine At.perm sel12 ?_
    refine At.moreS (Lst := [Kq, Kr, Mq, Mr, M13, R]) (Lst' := [M58, Kq, Kr, Mq, Mr, M13, R]) (.cons _ (.refl _)) (.cons _ (.cons _ (.cons _ (.cons _ (.cons _ (.cons _ (.refl _))))))) ?_
    refine op_str (nxsgf rfl rfl rfl rfl rfl rfl) Try.underlying34 Try.underlying5 Try.underlying9 rfl (by assumption) (by first | exact mem0 | exact mem1 | exact mem2 | exact mem3 | exact mem4 | exact mem5 | exact mem6 | exact mem7 | exact mem8 | exact mem9) rfl ?_
    refine op_eqS (nxsgf rfl rfl rfl rfl rfl rfl) rfl rfl rfl ?_
    refine op_pickT (nxsf rfl rfl rfl) rfl rfl rfl ?_
    refine op_move (nxsf rfl rfl rfl) rfl rfl ?_
    refine At.partP (d := 62) rfl (fun g62 => ?_) (fun g62 => ?_)
    · refine op_move (nxsgf rfl rfl rfl rfl rfl rfl) rfl rfl ?_
      refine op_str (nxsgf rfl rfl rfl rfl rfl rfl) Try.underlying34 Try.underlying5 Try.underlying9 rfl (by assumption) (by first | exact mem0 | exact mem1 | exact mem2 | exact mem3 | exact mem4 | exact mem5 | exact mem6 | exact mem7 | exact mem8 | exact mem9) rfl ?_
      refine op_move (nxsgf rfl rfl rfl rfl rfl rfl) rfl rfl ?_
      refine op_callA (Nx.agree (nxsgm rfl rfl rfl rfl rfl rfl)) (.cons rfl .nil) (or_bytes tr (by omega)) Try.func42 rfl rfl (by simp) rfl ?_
      rintro v66 L66 ⟨M66, p66, c66, rfl, rfl, r66⟩
      change At _ _ _ [M66, M24, M16, M12, M21, N1, M17, M58, Kq, Kr, Mq, Mr, M13, R] _
      have s66 := r66.rsl
      refine At.perm sel13 ?_
      refine At.perm sel13 ?_
      refine At.perm sel13 ?_
      refine At.perm sel13 ?_
      refine At.perm sel13 ?_
      refine At.perm sel13 ?_
      refine At.perm sel13 ?_
      refine At.perm sel7 ?_
      refine At.perm sel13 ?_
      refine At.perm sel13 ?_
      refine At.perm sel13 ?_
      refine At.perm sel13 ?_
      refine At.perm sel13 ?_
      refine At.perm sel13 ?_
      refine At.moreS (Lst := [M58, Kq, Kr, Mq, Mr, M13, R]) (Lst' := [M66, M58, Kq, Kr, Mq, Mr, M13, R]) (.cons _ (.refl _)) (.cons _ (.cons _ (.cons _ (.cons _ (.cons _ (.cons _ (.refl _))))))) ?_
      refine op_str (nxsgf rfl rfl rfl rfl rfl rfl) Try.underlying34 Try.underlying5 Try.underlying9 rfl (by assumption) (by first | exact mem0 | exact mem1 | exact mem2 | exact mem3 | exact mem4 | exact mem5 | exact mem6 | exact mem7 | exact mem8 | exact mem9) rfl ?_
      refine op_eqS (nxsgf rfl rfl rfl rfl rfl rfl) rfl rfl rfl ?_
      refine op_pickT (nxsf rfl rfl rfl) rfl rfl rfl ?_
      refine op_move (nxsf rfl rfl rfl) rfl rfl ?_
      refine At.partP (d := 70) rfl (fun g70 => ?_) (fun g70 => ?_)
      · refine op_callA (Nx.agree (nxsgs rfl rfl rfl rfl rfl rfl rfl)) .nil (Nwakes_f) Try.func40 rfl rfl (by simp) rfl ?_
        rintro v71 L71 ⟨rfl, rfl⟩
        change At _ _ _ [M24, M16, M12, M21, N1, M17, M66, M58, Kq, Kr, Mq, Mr, M13, R] _
        refine At.anyS (.refl _) ?_
        refine op_pickT (nxsf rfl rfl rfl) rfl rfl rfl ?_
        refine op_assign (nxsf rfl rfl rfl) rfl rfl ?_
        refine At.sNil ?_
        refine At.norm (hk_8 ?_)
        refine At.ret (?_)
        refine At.sub (L' := [R]) (.cons _ (.cons _ (.cons _ (.cons _ (.cons _ (.cons _ (.cons _ (.cons _ (.cons _ (.cons _ (.cons _ (.cons _ (.cons _ (.cons_cons _ (.slnil))))))))))))))) ?_
        refine At.ret1 (L1 := []) rfl (.tmp rfl .nil) (.refl _) (.refl _) ?_
        exact ⟨rfl, rfl⟩
      · exact absurd rfl g70
    · exact absurd rfl g62
theorem NatDivides_f {N : Heaplet} {ao bo mo : Option Addr} {n m k ca cb cm : Nat} {a b : List UInt8} {I W : Int} (ha : RSl N 1 ao n ca (u8s a)) (hb : RSl N 1 bo m cb (u8s b)) :
    Fn Try.prog 6 #[.agg #[.slice ao n ca, .slice bo m cb, .slice mo k cm, .int .i64 I, .int .i64 W]] [] [N] (fun v L => v = .bool true ∧ L = []) := by
  rcases Nat.eq_zero_or_pos (be (b.take 600)) with h | h
  · exact NatDivides_z ha hb h
  · exact NatDivides_p ha hb h
end Go.Proofs.Ytefljbbpaideaaa
