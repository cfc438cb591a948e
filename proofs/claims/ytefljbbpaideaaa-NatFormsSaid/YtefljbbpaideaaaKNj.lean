/- quarrylaw02.NatForms answers true. No condition. -/
import Derived.Test.YtefljbbpaideaaaKNd
namespace Go.Proofs.Ytefljbbpaideaaa
set_option linter.unusedVariables false
set_option linter.unusedSimpArgs false
open Go Go.RowKit
/-- Bit I of A. -/
def bitOf (A : Nat) (I : Int) : Int := if I < 0 then 0 else ((A / 2 ^ I.toNat % 2 : Nat) : Int)
theorem bitOf_big {A K : Nat} {I : Int} (hA : A < 2 ^ K) (h : ¬ (0 ≤ I ∧ I < (K : Int))) : bitOf A I = 0 := by
  unfold bitOf
  split
  · rfl
  · rw [Nat.div_eq_of_lt (Nat.lt_of_lt_of_le hA (Nat.pow_le_pow_right (by decide) (by omega)))]; rfl
section
variable {N : Heaplet} {ao bo mo : Option Addr} {n m k ca cb cm w : Nat} {a b l : List UInt8} {I W : Int}
theorem NBit_any (ha : RSl N 1 ao n ca (u8s a)) (hn : n ≤ 274877906944) (hI : -9223372036854775808 ≤ I ∧ I ≤ 9223372036854775807) : Fn Try.prog 78 #[.slice ao n ca, .int .i64 I] [] [N] (fun v L => v = .int .i64 (bitOf (be a) I) ∧ L = []) := by
  by_cases h : I < 0
  · rw [bitOf, if_pos h]; exact NBit_neg ha hn h
  · obtain ⟨i, rfl⟩ : ∃ i : Nat, I = (i : Int) := ⟨I.toNat, by omega⟩
    rw [bitOf, if_neg h, Int.toNat_natCast]
    exact NBit_f ha hn i (by omega)
set_option maxRecDepth 100000 in
set_option maxHeartbeats 2000000 in
theorem NatForms_y (ha : RSl N 1 ao n ca (u8s a)) (hb : RSl N 1 bo m cb (u8s b)) (hI : -9223372036854775808 ≤ I ∧ I ≤ 9223372036854775807) (hcase : w ≤ 65536 ∧ (bytesOf (be (a.take 600))).length ≤ w) :
    Fn Try.prog 12 #[.agg #[.slice ao n ca, .slice bo m cb, .slice mo k cm, .int .i64 I, .int .i64 (w : Int)]] [] [N] (fun v L => v = .bool true ∧ L = []) := by
  have ha6 : (a.take 600).length ≤ 600 := by rw [List.length_take]; omega
  have hb6 : (b.take 600).length ≤ 600 := by rw [List.length_take]; omega
  have hda := digs_be_len (a.take 600)
  have hdb := digs_be_len (b.take 600)
  obtain ⟨K, hK⟩ : ∃ K : Nat, K = 4808 := ⟨_, rfl⟩
  have hA6 : be (a.take 600) < 2 ^ K := by
    refine Nat.lt_of_lt_of_le (be_lt _) ?_
    rw [show (256 : Nat) = 2 ^ 8 from rfl, ← Nat.pow_mul]
    exact Nat.pow_le_pow_right (by decide) (by omega)
  have hbl := length_bytesOf (be (a.take 600))
  have hlb : bitLen (be (a.take 600)) ≤ K := bitLen_le.2 hA6
  generalize hA : be (a.take 600) = A at *
  generalize hB : be (b.take 600) = B at *
  obtain ⟨hw1, hw2⟩ := hcase
  have hV : A < 256 ^ w := byteLen_le.1 (by omega)
  refine Fn.enter (vs := [.agg #[.slice ao n ca, .slice bo m cb, .slice mo k cm, .int .i64 I, .int .i64 (w : Int)]]) Try.func12 rfl rfl rfl ?_
  intro E R hR
  have ha := ha.le (hR N (by simp))
  have hb := hb.le (hR N (by simp))
  change At _ _ E [R] _
  refine At.seq fun K1 hk_1 => ?_
  refine At.region ?_
  refine op_box (nxla rfl) rfl rfl rfl (fun N1 b1 B1 => ?_)
  refine op_assign (nxlf rfl) rfl rfl ?_
  refine At.opsNil ?_
  refine At.norm (hk_1 ?_)
  refine At.seq fun K2 hk_2 => ?_
  refine At.region ?_
  refine op_fieldAddr (nxlf rfl) fl36_0 rfl rfl ?_
  refine op_loadB (nxlf rfl) sc34 rfl B1 (by first | rfl) mem0 rfl ?_
  refine op_callA (nxla rfl) (.cons rfl .nil) (few_f ha) Try.func38 rfl rfl (by simp) rfl ?_
  rintro v11 L11 ⟨M11, a11, p11, rfl, rfl, r11⟩
  change At _ _ _ [M11, N1, R] _
  have s11 := r11.rsl
  refine op_callA (nxla rfl) (.cons rfl .nil) (rFrom_f s11 (by omega)) Try.func37 rfl rfl (by simp) rfl ?_
  rintro v12 L12 ⟨M12, a12, p12, rfl, rfl, s12⟩
  change At _ _ _ [M12, M11, N1, R] _
  rw [hA] at s12 ⊢
  refine op_assign (nxlf rfl) rfl rfl ?_
  refine At.opsNil ?_
  refine At.norm (hk_2 ?_)
  refine At.seq fun K3 hk_3 => ?_
  refine At.region ?_
  refine op_fieldAddr (nxlf rfl) fl36_1 rfl rfl ?_
  refine op_loadB (nxlf rfl) sc34 rfl B1 (by first | rfl) mem2 rfl ?_
  refine op_callA (nxla rfl) (.cons rfl .nil) (few_f hb) Try.func38 rfl rfl (by simp) rfl ?_
  rintro v15 L15 ⟨M15, a15, p15, rfl, rfl, r15⟩
  change At _ _ _ [M15, M12, M11, N1, R] _
  have s15 := r15.rsl
  refine op_callA (nxla rfl) (.cons rfl .nil) (rFrom_f s15 (by omega)) Try.func37 rfl rfl (by simp) rfl ?_
  rintro v16 L16 ⟨M16, a16, p16, rfl, rfl, s16⟩
  change At _ _ _ [M16, M15, M12, M11, N1, R] _
  rw [hB] at s16 ⊢
  refine op_assign (nxlf rfl) rfl rfl ?_
  refine At.opsNil ?_
  refine At.norm (hk_3 ?_)
  refine At.seq fun K4 hk_4 => ?_
  refine At.region ?_
  refine op_assign (nxlf rfl) rfl rfl ?_
  refine At.opsNil ?_
  refine At.norm (hk_4 ?_)
  refine At.seq fun K5 hk_5 => ?_
  refine At.meet (fun fr_ hp_ => fr_ = [(1, .pointer (some ⟨b1, 0, none⟩)), (3, .slice a12 (digsOf A).length p12), (4, .slice a16 (digsOf B).length p16), (5, .int .i64 (bitOf A I))] ∧ hp_ = [N1, M16, M12, R] ∧ (True)) ?_ (fun K5_ jk_5 => ?_)
  rotate_left
  · skip
    refine At.seq fun K6 hk_6 => ?_
    refine At.region ?_
    refine op_fieldAddr (nxlf rfl) fl36_3 rfl rfl ?_
    refine op_loadB (nxlf rfl) sc3 rfl B1 (by first | rfl) mem4 rfl ?_
    refine op_geq (nxlf rfl) rfl rfl rfl ?_
    refine op_move (nxlf rfl) rfl rfl ?_
    refine At.partP (d := 20) rfl (fun g20 => ?_) (fun g20 => ?_)
    · refine op_fieldAddr (nxgf rfl rfl rfl rfl) fl36_3 rfl rfl ?_
      refine op_loadB (nxgf rfl rfl rfl rfl) sc3 rfl B1 (by first | rfl) mem4 rfl ?_
      refine op_lss (nxgf rfl rfl rfl rfl) rfl rfl rfl ?_
      refine op_pickT (nxlf rfl) rfl rfl rfl ?_
      refine At.opsNil ?_
      refine At.norm (hk_6 ?_)
      refine At.condP rfl (fun c24 => ?_) (fun c24 => ?_)
      · refine At.region ?_
        refine op_move (nxlf rfl) rfl rfl ?_
        refine op_fieldAddr (nxlf rfl) fl36_3 rfl rfl ?_
        refine op_loadB (nxlf rfl) sc3 rfl B1 (by first | rfl) mem4 rfl ?_
        obtain ⟨i, rfl⟩ : ∃ i : Nat, I = (i : Int) := ⟨I.toNat, by omega⟩
        refine op_callA (nxla rfl) (.cons rfl (.cons rfl .nil)) (rBit_f s12 i (by omega)) Try.func71 rfl rfl (by simp) rfl ?_
        rintro v28 L28 ⟨rfl, rfl⟩
        change At _ _ _ [M16, M15, M12, M11, N1, R] _
        rw [v32_digsOf]
        have hz2 : A / 2 ^ i % 2 < 2 := Nat.mod_lt _ (by decide)
        have hze : ((A / 2 ^ i % 2 : Nat) : Int) = bitOf A (i : Int) := by rw [bitOf, if_neg (by omega), Int.toNat_natCast]
        generalize A / 2 ^ i % 2 = z at *
        refine op_convI (nxlf rfl) (und_some Try.underlying65) Try.underlying3 rfl (by omega) (by omega) rfl ?_
        refine op_assign (nxlf rfl) rfl rfl ?_
        refine At.opsNil ?_
        refine At.sub (L' := [M16, M12, N1, R]) (.cons_cons _ (.cons _ (.cons_cons _ (.cons _ (.cons_cons _ (.cons_cons _ (.slnil))))))) ?_
        refine At.perm sel3 ?_
        refine At.perm sel2 ?_
        refine At.perm sel2 ?_
        refine At.perm sel3 ?_
        refine At.norm (jk_5 ?_ (.refl _) ⟨rfl, rfl, trivial⟩)
        exact .cons (by first | exact lkI rfl (by omega) | rfl | exact lkI rfl hze) (.cons (by first | exact lkI rfl (by omega) | rfl | exact lkI rfl hze) (.cons (by first | exact lkI rfl (by omega) | rfl | exact lkI rfl hze) (.cons (by first | exact lkI rfl (by omega) | rfl | exact lkI rfl hze) .nil)))
      · have hze : (0 : Int) = bitOf A I := (bitOf_big hA6 (by omega)).symm
        refine At.skip ?_
        refine At.sub (L' := [M16, M12, N1, R]) (.cons_cons _ (.cons _ (.cons_cons _ (.cons _ (.cons_cons _ (.cons_cons _ (.slnil))))))) ?_
        refine At.perm sel3 ?_
        refine At.perm sel2 ?_
        refine At.perm sel2 ?_
        refine At.perm sel3 ?_
        refine At.norm (jk_5 ?_ (.refl _) ⟨rfl, rfl, trivial⟩)
        exact .cons (by first | exact lkI rfl (by omega) | rfl | exact lkI rfl hze) (.cons (by first | exact lkI rfl (by omega) | rfl | exact lkI rfl hze) (.cons (by first | exact lkI rfl (by omega) | rfl | exact lkI rfl hze) (.cons (by first | exact lkI rfl (by omega) | rfl | exact lkI rfl hze) .nil)))
    · have hze : (0 : Int) = bitOf A I := (bitOf_big hA6 (by omega)).symm
      refine op_skip rfl rfl rfl rfl rfl rfl rfl ?_
      refine op_skip rfl rfl rfl rfl rfl rfl rfl ?_
      refine op_skip rfl rfl rfl rfl rfl rfl rfl ?_
      refine op_pickF (nxlf rfl) rfl rfl rfl ?_
      refine At.opsNil ?_
      refine At.norm (hk_6 ?_)
      refine At.condF rfl ?_
      refine At.skip ?_
      refine At.sub (L' := [M16, M12, N1, R]) (.cons_cons _ (.cons _ (.cons_cons _ (.cons _ (.cons_cons _ (.cons_cons _ (.slnil))))))) ?_
      refine At.perm sel3 ?_
      refine At.perm sel2 ?_
      refine At.perm sel2 ?_
      refine At.perm sel3 ?_
      refine At.norm (jk_5 ?_ (.refl _) ⟨rfl, rfl, trivial⟩)
      exact .cons (by first | exact lkI rfl (by omega) | rfl | exact lkI rfl hze) (.cons (by first | exact lkI rfl (by omega) | rfl | exact lkI rfl hze) (.cons (by first | exact lkI rfl (by omega) | rfl | exact lkI rfl hze) (.cons (by first | exact lkI rfl (by omega) | rfl | exact lkI rfl hze) .nil)))
  rintro _ _ ⟨rfl, rfl, ht⟩
  refine hk_5 ?_
  refine At.seq fun K7 hk_7 => ?_
  refine At.drawnS [N1, M16, M12, R] [5] [] [0,1,3,4,2,5,6,7,8,9,10] (by kernel_rfl) (by kernel_rfl) (.refl _) ?_
  refine op_fieldAddr (nxsf rfl rfl rfl) fl36_0 rfl rfl ?_
  refine op_loadB (nxsf rfl rfl rfl) sc34 rfl B1 (by first | rfl) mem0 rfl ?_
  refine op_fieldAddr (nxsf rfl rfl rfl) fl36_4 rfl rfl ?_
  refine op_loadB (nxsf rfl rfl rfl) sc3 rfl B1 (by first | rfl) mem0 rfl ?_
  refine op_callA (Nx.agree (nxsm rfl rfl rfl)) (.cons rfl .nil) (few_f ha) Try.func38 rfl rfl (by simp) rfl ?_
  rintro v33 L33 ⟨M33, a33, p33, rfl, rfl, r33⟩
  change At _ _ _ [M33, N1, M16, M12, R] _
  have s33 := r33.rsl
  refine At.moreS (Lst := [N1, M16, M12, R]) (Lst' := [M33, N1, M16, M12, R]) (.cons _ (.refl _)) (.refl _) ?_
  refine op_callA (Nx.agree (nxss rfl rfl rfl rfl)) (.cons rfl (.cons rfl .nil)) (NFill_f s33 (by omega) hw1 (by rw [hA]; exact hw2)) Try.func72 rfl rfl (by simp) rfl ?_
  rintro v36 L36 ⟨M36, a36, p36, rfl, rfl, r36⟩
  change At _ _ _ [M36, M33, N1, M16, M12, R] _
  have s36 := r36.rsl; rw [hA] at s36
  refine At.anyS (.refl _) ?_
  refine op_move (nxsf rfl rfl rfl) rfl rfl ?_
  refine op_extract (nxsf rfl rfl rfl) rfl rfl rfl ?_
  refine op_extract (nxsf rfl rfl rfl) rfl rfl rfl ?_
  refine op_assign (nxsf rfl rfl rfl) rfl rfl ?_
  refine op_assign (nxsf rfl rfl rfl) rfl rfl ?_
  refine At.sNil ?_
  refine At.norm (hk_7 ?_)
  refine At.seq fun K8 hk_8 => ?_
  refine At.perm sel5 ?_
  refine At.perm sel5 ?_
  refine At.perm sel5 ?_
  refine At.perm sel3 ?_
  refine At.perm sel5 ?_
  refine At.perm sel5 ?_
  refine At.drawnS [N1, M36, M16, M12, R] [] [] [0,1,2,3,4,5,6,7,8,9,11,12,13,10,14,15,16] (by kernel_rfl) (by kernel_rfl) (.cons _ (.refl _)) ?_
  refine op_fieldAddr (nxsf rfl rfl rfl) fl36_4 rfl rfl ?_
  refine op_loadB (nxsf rfl rfl rfl) sc3 rfl B1 (by first | rfl) mem0 rfl ?_
  refine op_geq (nxsf rfl rfl rfl) rfl rfl rfl ?_
  refine op_move (nxsf rfl rfl rfl) rfl rfl ?_
  refine At.partP (d := 42) rfl (fun g42 => ?_) (fun g42 => ?_)
  · refine op_fieldAddr (nxsgf rfl rfl rfl rfl rfl rfl) fl36_4 rfl rfl ?_
    refine op_loadB (nxsgf rfl rfl rfl rfl rfl rfl) sc3 rfl B1 (by first | rfl) mem0 rfl ?_
    refine op_leq (nxsgf rfl rfl rfl rfl rfl rfl) rfl rfl rfl ?_
    refine op_pickT (nxsf rfl rfl rfl) rfl rfl rfl ?_
    refine op_move (nxsf rfl rfl rfl) rfl rfl ?_
    refine At.partP (d := 47) rfl (fun g47 => ?_) (fun g47 => ?_)
    · refine op_move (nxsgf rfl rfl rfl rfl rfl rfl) rfl rfl ?_
      refine op_fieldAddr (nxsgf rfl rfl rfl rfl rfl rfl) fl36_4 rfl rfl ?_
      refine op_loadB (nxsgf rfl rfl rfl rfl rfl rfl) sc3 rfl B1 (by first | rfl) mem0 rfl ?_
      refine op_mulI (nxsgf rfl rfl rfl rfl rfl rfl) rfl rfl (by omega) (by omega) rfl ?_
      refine op_callA (Nx.agree (nxsgm rfl rfl rfl rfl rfl rfl)) (.cons rfl .nil) (rLen_f s12 (by omega)) Try.func73 rfl rfl (by simp) rfl ?_
      rintro v49 L49 ⟨rfl, rfl⟩
      change At _ _ _ [M33, N1, M36, M16, M12, R] _
      rw [v32_digsOf]
      refine At.moreS (Lst := [N1, M36, M16, M12, R]) (Lst' := [N1, M36, M16, M12, R]) (.refl _) (.cons _ (.refl _)) ?_
      refine op_leq (nxsgf rfl rfl rfl rfl rfl rfl) rfl rfl rfl ?_
      rw [decide_eq_true (show ((bitLen A : Nat) : Int) ≤ 8 * (w : Int) by omega)]
      refine op_pickT (nxsf rfl rfl rfl) rfl rfl rfl ?_
      refine op_assign (nxsf rfl rfl rfl) rfl rfl ?_
      refine At.sNil ?_
      refine At.norm (hk_8 ?_)
      refine At.seq fun K9 hk_9 => ?_
      refine At.seq fun K10 hk_10 => ?_
      refine At.drawnS [N1, M36, M16, M12, R] [] [6] [0,1,2,3,4,5,6,7,8,9,10,11,12,13,14,15,16,17,18,19,20,21,22,23,24] (by kernel_rfl) (by kernel_rfl) (.cons _ (.refl _)) ?_
      refine op_move (nxsf rfl rfl rfl) rfl rfl ?_
      refine op_move (nxsf rfl rfl rfl) rfl rfl ?_
      refine op_neB (nxsf rfl rfl rfl) Try.underlying4 rfl rfl rfl ?_
      refine op_move (nxsf rfl rfl rfl) rfl rfl ?_
      refine op_move (nxsgf rfl rfl rfl rfl rfl rfl) rfl rfl ?_
      refine op_move (nxsgf rfl rfl rfl rfl rfl rfl) rfl rfl ?_
      refine op_move (nxsgf rfl rfl rfl rfl rfl rfl) rfl rfl ?_
      refine op_str (nxsgf rfl rfl rfl rfl rfl rfl) Try.underlying34 Try.underlying5 Try.underlying9 rfl (by assumption) (by first | exact mem0 | exact mem1 | exact mem2 | exact mem3 | exact mem4 | exact mem5 | exact mem6 | exact mem7 | exact mem8 | exact mem9) rfl ?_
      refine op_move (nxsgf rfl rfl rfl rfl rfl rfl) rfl rfl ?_
      refine op_fieldAddr (nxsgf rfl rfl rfl rfl rfl rfl) fl36_4 rfl rfl ?_
      refine op_loadB (nxsgf rfl rfl rfl rfl rfl rfl) sc3 rfl B1 (by first | rfl) mem0 rfl ?_
      refine op_callA (Nx.agree (nxsgm rfl rfl rfl rfl rfl rfl)) (.cons rfl (.cons rfl .nil)) (rFill_f s12 (by omega) w (by omega) (by rw [v32_digsOf]; exact hV)) Try.func74 rfl rfl (by simp) rfl ?_
      rintro v66 L66 ⟨M66, a66, p66, rfl, rfl, r66⟩
      change At _ _ _ [M66, M33, N1, M36, M16, M12, R] _
      have s66 := r66.rsl; rw [v32_digsOf] at s66
      refine At.perm sel6 ?_
      refine At.perm sel6 ?_
      refine At.perm sel6 ?_
      refine At.perm sel6 ?_
      refine At.perm sel6 ?_
      refine At.perm sel5 ?_
      refine At.perm sel6 ?_
      refine At.moreS (Lst := [N1, M36, M16, M12, R]) (Lst' := [M66, N1, M36, M16, M12, R]) (.cons _ (.refl _)) (.cons _ (.refl _)) ?_
      refine op_str (nxsgf rfl rfl rfl rfl rfl rfl) Try.underlying34 Try.underlying5 Try.underlying9 rfl (by assumption) (by first | exact mem0 | exact mem1 | exact mem2 | exact mem3 | exact mem4 | exact mem5 | exact mem6 | exact mem7 | exact mem8 | exact mem9) rfl ?_
      refine op_neS (nxsgf rfl rfl rfl rfl rfl rfl) rfl rfl rfl ?_
      refine op_pickT (nxsgf rfl rfl rfl rfl rfl rfl) rfl rfl rfl ?_
      refine op_pickF (nxsf rfl rfl rfl) rfl rfl rfl ?_
      refine op_move (nxsf rfl rfl rfl) rfl rfl ?_
      refine At.partP (d := 71) rfl (fun g71 => ?_) (fun g71 => ?_)
      · exact absurd rfl g71
      · refine op_move (nxsgf rfl rfl rfl rfl rfl rfl) rfl rfl ?_
        refine op_not (nxsgf rfl rfl rfl rfl rfl rfl) rfl rfl ?_
        refine op_move (nxsgf rfl rfl rfl rfl rfl rfl) rfl rfl ?_
        refine op_sskip rfl rfl rfl rfl rfl rfl rfl rfl ?_
        refine op_sskip rfl rfl rfl rfl rfl rfl rfl rfl ?_
        refine op_sskip rfl rfl rfl rfl rfl rfl rfl rfl ?_
        refine op_pickF (nxsgf rfl rfl rfl rfl rfl rfl) rfl rfl rfl ?_
        refine op_pickF (nxsf rfl rfl rfl) rfl rfl rfl ?_
        refine At.sNil ?_
        refine At.norm (hk_10 ?_)
        refine At.condF rfl ?_
        refine At.skip ?_
        refine At.norm (hk_9 ?_)
        refine At.seq fun K11 hk_11 => ?_
        refine At.perm sel6 ?_
        refine At.perm sel6 ?_
        refine At.perm sel6 ?_
        refine At.perm sel5 ?_
        refine At.perm sel6 ?_
        refine At.perm sel6 ?_
        refine At.perm sel6 ?_
        refine At.drawnS [N1, M16, M12, R] [2,3,15,16,19,25,26,28,37,42] [5,17,18,27,38] [0,1,5,2,3,4,6,7,8,9,10,11,13,14,17,18,12,15,16,19,20,21,22,23,24,27,25,26,28,29,30,31,32,33,35,36,38,34,37,39,40,41,42,43,44] (by kernel_rfl) (by kernel_rfl) (.cons _ (.cons _ (.cons _ (.refl _)))) ?_
        refine op_fieldAddr (nxsf rfl rfl rfl) fl36_0 rfl rfl ?_
        refine op_loadB (nxsf rfl rfl rfl) sc34 rfl B1 (by first | rfl) mem0 rfl ?_
        refine op_move (nxsf rfl rfl rfl) rfl rfl ?_
        refine op_callA (Nx.agree (nxss rfl rfl rfl rfl)) (.cons rfl .nil) (few_f ha) Try.func38 rfl rfl (by simp) rfl ?_
        rintro v82 L82 ⟨M82, a82, p82, rfl, rfl, r82⟩
        change At _ _ _ [M82, M33, M66, M36, N1, M16, M12, R] _
        have s82 := r82.rsl
        refine At.anyS (.refl _) ?_
        refine op_callA (Nx.agree (nxss rfl rfl rfl rfl)) (.cons rfl .nil) (NTrim_f s82 (by omega)) Try.func67 rfl rfl (by simp) rfl ?_
        rintro v83 L83 ⟨M83, a83, p83, rfl, rfl, r83⟩
        change At _ _ _ [M83, M82, M33, M66, M36, N1, M16, M12, R] _
        have s83 := r83.rsl; rw [hA] at s83 ⊢
        refine At.anyS (.refl _) ?_
        refine op_str (nxsf rfl rfl rfl) Try.underlying34 Try.underlying5 Try.underlying9 rfl (by assumption) (by first | exact mem0 | exact mem1 | exact mem2 | exact mem3 | exact mem4 | exact mem5 | exact mem6 | exact mem7 | exact mem8 | exact mem9) rfl ?_
        refine op_callA (Nx.agree (nxsm rfl rfl rfl)) (.cons rfl .nil) (or_bytes (N := R) (.inl s12) (by omega)) Try.func42 rfl rfl (by simp) rfl ?_
        rintro v86 L86 ⟨M86, a86, p86, rfl, rfl, r86⟩
        change At _ _ _ [M86, M83, M82, M33, M66, M36, N1, M16, M12, R] _
        have s86 := r86.rsl
        refine At.moreS (Lst := [M83, M82, M33, M66, M36, N1, M16, M12, R]) (Lst' := [M86, M83, M82, M33, M66, M36, N1, M16, M12, R]) (.cons _ (.refl _)) (.refl _) ?_
        refine op_str (nxsf rfl rfl rfl) Try.underlying34 Try.underlying5 Try.underlying9 rfl (by assumption) (by first | exact mem0 | exact mem1 | exact mem2 | exact mem3 | exact mem4 | exact mem5 | exact mem6 | exact mem7 | exact mem8 | exact mem9) rfl ?_
        refine op_eqS (nxsf rfl rfl rfl) rfl rfl rfl ?_
        refine op_move (nxsf rfl rfl rfl) rfl rfl ?_
        refine At.partP (d := 89) rfl (fun g89 => ?_) (fun g89 => ?_)
        · refine op_fieldAddr (nxsgf rfl rfl rfl rfl rfl rfl) fl36_0 rfl rfl ?_
          refine op_loadB (nxsgf rfl rfl rfl rfl rfl rfl) sc34 rfl B1 (by first | rfl) mem6 rfl ?_
          refine op_fieldAddr (nxsgf rfl rfl rfl rfl rfl rfl) fl36_1 rfl rfl ?_
          refine op_loadB (nxsgf rfl rfl rfl rfl rfl rfl) sc34 rfl B1 (by first | rfl) mem6 rfl ?_
          refine op_move (nxsgf rfl rfl rfl rfl rfl rfl) rfl rfl ?_
          refine op_move (nxsgf rfl rfl rfl rfl rfl rfl) rfl rfl ?_
          refine op_callA (Nx.agree (nxsgm rfl rfl rfl rfl rfl rfl)) (.cons rfl .nil) (few_f ha) Try.func38 rfl rfl (by simp) rfl ?_
          rintro v92 L92 ⟨M92, a92, p92, rfl, rfl, r92⟩
          change At _ _ _ [M92, M86, M83, M82, M33, M66, M36, N1, M16, M12, R] _
          have s92 := r92.rsl
          refine At.moreS (Lst := [M86, M83, M82, M33, M66, M36, N1, M16, M12, R]) (Lst' := [M92, M86, M83, M82, M33, M66, M36, N1, M16, M12, R]) (.cons _ (.refl _)) (.refl _) ?_
          refine op_callA (Nx.agree (nxsgs rfl rfl rfl rfl rfl rfl rfl)) (.cons rfl .nil) (few_f hb) Try.func38 rfl rfl (by simp) rfl ?_
          rintro v95 L95 ⟨M95, a95, p95, rfl, rfl, r95⟩
          change At _ _ _ [M95, M92, M86, M83, M82, M33, M66, M36, N1, M16, M12, R] _
          have s95 := r95.rsl
          refine At.anyS (.refl _) ?_
          refine op_callA (Nx.agree (nxsgs rfl rfl rfl rfl rfl rfl rfl)) (.cons rfl (.cons rfl .nil)) (NCmp_f s92 s95 (by omega) (by omega)) Try.func75 rfl rfl (by simp) rfl ?_
          rintro v96 L96 ⟨rfl, rfl⟩
          change At _ _ _ [M95, M92, M86, M83, M82, M33, M66, M36, N1, M16, M12, R] _
          rw [hA, hB]
          refine At.anyS (.refl _) ?_
          refine op_callA (Nx.agree (nxsgs rfl rfl rfl rfl rfl rfl rfl)) (.cons rfl (.cons rfl .nil)) (Cmp32_f s12 s16) Try.func76 rfl rfl (by simp) rfl ?_
          rintro v99 L99 ⟨rfl, rfl⟩
          change At _ _ _ [M95, M92, M86, M83, M82, M33, M66, M36, N1, M16, M12, R] _
          refine At.anyS (.refl _) ?_
          refine op_eql (nxsgf rfl rfl rfl rfl rfl rfl) rfl rfl rfl ?_
          refine op_pickT (nxsf rfl rfl rfl) rfl rfl rfl ?_
          refine op_move (nxsf rfl rfl rfl) rfl rfl ?_
          refine At.partP (d := 102) rfl (fun g102 => ?_) (fun g102 => ?_)
          · refine op_fieldAddr (nxsgf rfl rfl rfl rfl rfl rfl) fl36_0 rfl rfl ?_
            refine op_loadB (nxsgf rfl rfl rfl rfl rfl rfl) sc34 rfl B1 (by first | rfl) mem8 rfl ?_
            refine op_move (nxsgf rfl rfl rfl rfl rfl rfl) rfl rfl ?_
            refine op_callA (Nx.agree (nxsgs rfl rfl rfl rfl rfl rfl rfl)) (.cons rfl .nil) (few_f ha) Try.func38 rfl rfl (by simp) rfl ?_
            rintro v105 L105 ⟨M105, a105, p105, rfl, rfl, r105⟩
            change At _ _ _ [M105, M95, M92, M86, M83, M82, M33, M66, M36, N1, M16, M12, R] _
            have s105 := r105.rsl
            refine At.anyS (.refl _) ?_
            refine op_callA (Nx.agree (nxsgs rfl rfl rfl rfl rfl rfl rfl)) (.cons rfl .nil) (NBits_f s105 (by omega)) Try.func77 rfl rfl (by simp) rfl ?_
            rintro v106 L106 ⟨rfl, rfl⟩
            change At _ _ _ [M105, M95, M92, M86, M83, M82, M33, M66, M36, N1, M16, M12, R] _
            rw [hA]
            refine At.anyS (.refl _) ?_
            refine op_callA (Nx.agree (nxsgs rfl rfl rfl rfl rfl rfl rfl)) (.cons rfl .nil) (rLen_f s12 (by omega)) Try.func73 rfl rfl (by simp) rfl ?_
            rintro v108 L108 ⟨rfl, rfl⟩
            change At _ _ _ [M105, M95, M92, M86, M83, M82, M33, M66, M36, N1, M16, M12, R] _
            rw [v32_digsOf]
            refine At.anyS (.refl _) ?_
            refine op_eql (nxsgf rfl rfl rfl rfl rfl rfl) rfl rfl rfl ?_
            refine op_pickT (nxsf rfl rfl rfl) rfl rfl rfl ?_
            refine op_move (nxsf rfl rfl rfl) rfl rfl ?_
            refine At.partP (d := 111) rfl (fun g111 => ?_) (fun g111 => ?_)
            · refine op_fieldAddr (nxsgf rfl rfl rfl rfl rfl rfl) fl36_0 rfl rfl ?_
              refine op_loadB (nxsgf rfl rfl rfl rfl rfl rfl) sc34 rfl B1 (by first | rfl) mem9 rfl ?_
              refine op_fieldAddr (nxsgf rfl rfl rfl rfl rfl rfl) fl36_3 rfl rfl ?_
              refine op_loadB (nxsgf rfl rfl rfl rfl rfl rfl) sc3 rfl B1 (by first | rfl) mem9 rfl ?_
              refine op_move (nxsgf rfl rfl rfl rfl rfl rfl) rfl rfl ?_
              refine op_callA (Nx.agree (nxsgm rfl rfl rfl rfl rfl rfl)) (.cons rfl .nil) (few_f ha) Try.func38 rfl rfl (by simp) rfl ?_
              rintro v114 L114 ⟨M114, a114, p114, rfl, rfl, r114⟩
              change At _ _ _ [M114, M105, M95, M92, M86, M83, M82, M33, M66, M36, N1, M16, M12, R] _
              have s114 := r114.rsl
              refine At.moreS (Lst := [M105, M95, M92, M86, M83, M82, M33, M66, M36, N1, M16, M12, R]) (Lst' := [M114, M105, M95, M92, M86, M83, M82, M33, M66, M36, N1, M16, M12, R]) (.cons _ (.refl _)) (.refl _) ?_
              refine op_callA (Nx.agree (nxsgs rfl rfl rfl rfl rfl rfl rfl)) (.cons rfl (.cons rfl .nil)) (NBit_any s114 (by omega) hI) Try.func78 rfl rfl (by simp) rfl ?_
              rintro v117 L117 ⟨rfl, rfl⟩
              change At _ _ _ [M114, M105, M95, M92, M86, M83, M82, M33, M66, M36, N1, M16, M12, R] _
              rw [hA]
              refine At.anyS (.refl _) ?_
              refine op_eql (nxsgf rfl rfl rfl rfl rfl rfl) rfl rfl rfl ?_
              refine op_pickT (nxsf rfl rfl rfl) rfl rfl rfl ?_
              refine op_move (nxsf rfl rfl rfl) rfl rfl ?_
              refine At.partP (d := 121) rfl (fun g121 => ?_) (fun g121 => ?_)
              · refine op_callA (Nx.agree (nxsgs rfl rfl rfl rfl rfl rfl rfl)) .nil (Nwakes_f) Try.func40 rfl rfl (by simp) rfl ?_
                rintro v122 L122 ⟨rfl, rfl⟩
                change At _ _ _ [M114, M105, M95, M92, M86, M83, M82, M33, M66, M36, N1, M16, M12, R] _
                refine At.anyS (.refl _) ?_
                refine op_pickT (nxsf rfl rfl rfl) rfl rfl rfl ?_
                refine op_assign (nxsf rfl rfl rfl) rfl rfl ?_
                refine At.sNil ?_
                refine At.norm (hk_11 ?_)
                refine At.ret (?_)
                refine At.sub (L' := [R]) (.cons _ (.cons _ (.cons _ (.cons _ (.cons _ (.cons _ (.cons _ (.cons _ (.cons _ (.cons _ (.cons _ (.cons _ (.cons _ (.cons_cons _ (.slnil))))))))))))))) ?_
                refine At.ret1 (L1 := []) rfl (.tmp rfl .nil) (.refl _) (.refl _) ?_
                exact ⟨rfl, rfl⟩
              · exact absurd rfl g121
            · exact absurd rfl g111
          · exact absurd rfl g102
        · exact absurd rfl g89
    · exfalso; omega
  · exfalso; omega
set_option maxRecDepth 100000 in
set_option maxHeartbeats 2000000 in
theorem NatForms_n (ha : RSl N 1 ao n ca (u8s a)) (hb : RSl N 1 bo m cb (u8s b)) (hI : -9223372036854775808 ≤ I ∧ I ≤ 9223372036854775807) (hcase : W < 0 ∨ 65536 < W ∨ W < ((bytesOf (be (a.take 600))).length : Int)) :
    Fn Try.prog 12 #[.agg #[.slice ao n ca, .slice bo m cb, .slice mo k cm, .int .i64 I, .int .i64 W]] [] [N] (fun v L => v = .bool true ∧ L = []) := by
  have ha6 : (a.take 600).length ≤ 600 := by rw [List.length_take]; omega
  have hb6 : (b.take 600).length ≤ 600 := by rw [List.length_take]; omega
  have hda := digs_be_len (a.take 600)
  have hdb := digs_be_len (b.take 600)
  obtain ⟨K, hK⟩ : ∃ K : Nat, K = 4808 := ⟨_, rfl⟩
  have hA6 : be (a.take 600) < 2 ^ K := by
    refine Nat.lt_of_lt_of_le (be_lt _) ?_
    rw [show (256 : Nat) = 2 ^ 8 from rfl, ← Nat.pow_mul]
    exact Nat.pow_le_pow_right (by decide) (by omega)
  have hbl := length_bytesOf (be (a.take 600))
  have hlb : bitLen (be (a.take 600)) ≤ K := bitLen_le.2 hA6
  generalize hA : be (a.take 600) = A at *
  generalize hB : be (b.take 600) = B at *
  refine Fn.enter (vs := [.agg #[.slice ao n ca, .slice bo m cb, .slice mo k cm, .int .i64 I, .int .i64 W]]) Try.func12 rfl rfl rfl ?_
  intro E R hR
  have ha := ha.le (hR N (by simp))
  have hb := hb.le (hR N (by simp))
  change At _ _ E [R] _
  refine At.seq fun K1 hk_1 => ?_
  refine At.region ?_
  refine op_box (nxla rfl) rfl rfl rfl (fun N1 b1 B1 => ?_)
  refine op_assign (nxlf rfl) rfl rfl ?_
  refine At.opsNil ?_
  refine At.norm (hk_1 ?_)
  refine At.seq fun K2 hk_2 => ?_
  refine At.region ?_
  refine op_fieldAddr (nxlf rfl) fl36_0 rfl rfl ?_
  refine op_loadB (nxlf rfl) sc34 rfl B1 (by first | rfl) mem0 rfl ?_
  refine op_callA (nxla rfl) (.cons rfl .nil) (few_f ha) Try.func38 rfl rfl (by simp) rfl ?_
  rintro v11 L11 ⟨M11, a11, p11, rfl, rfl, r11⟩
  change At _ _ _ [M11, N1, R] _
  have s11 := r11.rsl
  refine op_callA (nxla rfl) (.cons rfl .nil) (rFrom_f s11 (by omega)) Try.func37 rfl rfl (by simp) rfl ?_
  rintro v12 L12 ⟨M12, a12, p12, rfl, rfl, s12⟩
  change At _ _ _ [M12, M11, N1, R] _
  rw [hA] at s12 ⊢
  refine op_assign (nxlf rfl) rfl rfl ?_
  refine At.opsNil ?_
  refine At.norm (hk_2 ?_)
  refine At.seq fun K3 hk_3 => ?_
  refine At.region ?_
  refine op_fieldAddr (nxlf rfl) fl36_1 rfl rfl ?_
  refine op_loadB (nxlf rfl) sc34 rfl B1 (by first | rfl) mem2 rfl ?_
  refine op_callA (nxla rfl) (.cons rfl .nil) (few_f hb) Try.func38 rfl rfl (by simp) rfl ?_
  rintro v15 L15 ⟨M15, a15, p15, rfl, rfl, r15⟩
  change At _ _ _ [M15, M12, M11, N1, R] _
  have s15 := r15.rsl
  refine op_callA (nxla rfl) (.cons rfl .nil) (rFrom_f s15 (by omega)) Try.func37 rfl rfl (by simp) rfl ?_
  rintro v16 L16 ⟨M16, a16, p16, rfl, rfl, s16⟩
  change At _ _ _ [M16, M15, M12, M11, N1, R] _
  rw [hB] at s16 ⊢
  refine op_assign (nxlf rfl) rfl rfl ?_
  refine At.opsNil ?_
  refine At.norm (hk_3 ?_)
  refine At.seq fun K4 hk_4 => ?_
  refine At.region ?_
  refine op_assign (nxlf rfl) rfl rfl ?_
  refine At.opsNil ?_
  refine At.norm (hk_4 ?_)
  refine At.seq fun K5 hk_5 => ?_
  refine At.meet (fun fr_ hp_ => fr_ = [(1, .pointer (some ⟨b1, 0, none⟩)), (3, .slice a12 (digsOf A).length p12), (4, .slice a16 (digsOf B).length p16), (5, .int .i64 (bitOf A I))] ∧ hp_ = [N1, M16, M12, R] ∧ (True)) ?_ (fun K5_ jk_5 => ?_)
  rotate_left
  · skip
    refine At.seq fun K6 hk_6 => ?_
    refine At.region ?_
    refine op_fieldAddr (nxlf rfl) fl36_3 rfl rfl ?_
    refine op_loadB (nxlf rfl) sc3 rfl B1 (by first | rfl) mem4 rfl ?_
    refine op_geq (nxlf rfl) rfl rfl rfl ?_
    refine op_move (nxlf rfl) rfl rfl ?_
    refine At.partP (d := 20) rfl (fun g20 => ?_) (fun g20 => ?_)
    · refine op_fieldAddr (nxgf rfl rfl rfl rfl) fl36_3 rfl rfl ?_
      refine op_loadB (nxgf rfl rfl rfl rfl) sc3 rfl B1 (by first | rfl) mem4 rfl ?_
      refine op_lss (nxgf rfl rfl rfl rfl) rfl rfl rfl ?_
      refine op_pickT (nxlf rfl) rfl rfl rfl ?_
      refine At.opsNil ?_
      refine At.norm (hk_6 ?_)
      refine At.condP rfl (fun c24 => ?_) (fun c24 => ?_)
      · refine At.region ?_
        refine op_move (nxlf rfl) rfl rfl ?_
        refine op_fieldAddr (nxlf rfl) fl36_3 rfl rfl ?_
        refine op_loadB (nxlf rfl) sc3 rfl B1 (by first | rfl) mem4 rfl ?_
        obtain ⟨i, rfl⟩ : ∃ i : Nat, I = (i : Int) := ⟨I.toNat, by omega⟩
        refine op_callA (nxla rfl) (.cons rfl (.cons rfl .nil)) (rBit_f s12 i (by omega)) Try.func71 rfl rfl (by simp) rfl ?_
        rintro v28 L28 ⟨rfl, rfl⟩
        change At _ _ _ [M16, M15, M12, M11, N1, R] _
        rw [v32_digsOf]
        have hz2 : A / 2 ^ i % 2 < 2 := Nat.mod_lt _ (by decide)
        have hze : ((A / 2 ^ i % 2 : Nat) : Int) = bitOf A (i : Int) := by rw [bitOf, if_neg (by omega), Int.toNat_natCast]
        generalize A / 2 ^ i % 2 = z at *
        refine op_convI (nxlf rfl) (und_some Try.underlying65) Try.underlying3 rfl (by omega) (by omega) rfl ?_
        refine op_assign (nxlf rfl) rfl rfl ?_
        refine At.opsNil ?_
        refine At.sub (L' := [M16, M12, N1, R]) (.cons_cons _ (.cons _ (.cons_cons _ (.cons _ (.cons_cons _ (.cons_cons _ (.slnil))))))) ?_
        refine At.perm sel3 ?_
        refine At.perm sel2 ?_
        refine At.perm sel2 ?_
        refine At.perm sel3 ?_
        refine At.norm (jk_5 ?_ (.refl _) ⟨rfl, rfl, trivial⟩)
        exact .cons (by first | exact lkI rfl (by omega) | rfl | exact lkI rfl hze) (.cons (by first | exact lkI rfl (by omega) | rfl | exact lkI rfl hze) (.cons (by first | exact lkI rfl (by omega) | rfl | exact lkI rfl hze) (.cons (by first | exact lkI rfl (by omega) | rfl | exact lkI rfl hze) .nil)))
      · have hze : (0 : Int) = bitOf A I := (bitOf_big hA6 (by omega)).symm
        refine At.skip ?_
        refine At.sub (L' := [M16, M12, N1, R]) (.cons_cons _ (.cons _ (.cons_cons _ (.cons _ (.cons_cons _ (.cons_cons _ (.slnil))))))) ?_
        refine At.perm sel3 ?_
        refine At.perm sel2 ?_
        refine At.perm sel2 ?_
        refine At.perm sel3 ?_
        refine At.norm (jk_5 ?_ (.refl _) ⟨rfl, rfl, trivial⟩)
        exact .cons (by first | exact lkI rfl (by omega) | rfl | exact lkI rfl hze) (.cons (by first | exact lkI rfl (by omega) | rfl | exact lkI rfl hze) (.cons (by first | exact lkI rfl (by omega) | rfl | exact lkI rfl hze) (.cons (by first | exact lkI rfl (by omega) | rfl | exact lkI rfl hze) .nil)))
    · have hze : (0 : Int) = bitOf A I := (bitOf_big hA6 (by omega)).symm
      refine op_skip rfl rfl rfl rfl rfl rfl rfl ?_
      refine op_skip rfl rfl rfl rfl rfl rfl rfl ?_
      refine op_skip rfl rfl rfl rfl rfl rfl rfl ?_
      refine op_pickF (nxlf rfl) rfl rfl rfl ?_
      refine At.opsNil ?_
      refine At.norm (hk_6 ?_)
      refine At.condF rfl ?_
      refine At.skip ?_
      refine At.sub (L' := [M16, M12, N1, R]) (.cons_cons _ (.cons _ (.cons_cons _ (.cons _ (.cons_cons _ (.cons_cons _ (.slnil))))))) ?_
      refine At.perm sel3 ?_
      refine At.perm sel2 ?_
      refine At.perm sel2 ?_
      refine At.perm sel3 ?_
      refine At.norm (jk_5 ?_ (.refl _) ⟨rfl, rfl, trivial⟩)
      exact .cons (by first | exact lkI rfl (by omega) | rfl | exact lkI rfl hze) (.cons (by first | exact lkI rfl (by omega) | rfl | exact lkI rfl hze) (.cons (by first | exact lkI rfl (by omega) | rfl | exact lkI rfl hze) (.cons (by first | exact lkI rfl (by omega) | rfl | exact lkI rfl hze) .nil)))
  rintro _ _ ⟨rfl, rfl, ht⟩
  refine hk_5 ?_
  refine At.seq fun K7 hk_7 => ?_
  refine At.drawnS [N1, M16, M12, R] [5] [] [0,1,3,4,2,5,6,7,8,9,10] (by kernel_rfl) (by kernel_rfl) (.refl _) ?_
  refine op_fieldAddr (nxsf rfl rfl rfl) fl36_0 rfl rfl ?_
  refine op_loadB (nxsf rfl rfl rfl) sc34 rfl B1 (by first | rfl) mem0 rfl ?_
  refine op_fieldAddr (nxsf rfl rfl rfl) fl36_4 rfl rfl ?_
  refine op_loadB (nxsf rfl rfl rfl) sc3 rfl B1 (by first | rfl) mem0 rfl ?_
  refine op_callA (Nx.agree (nxsm rfl rfl rfl)) (.cons rfl .nil) (few_f ha) Try.func38 rfl rfl (by simp) rfl ?_
  rintro v33 L33 ⟨M33, a33, p33, rfl, rfl, r33⟩
  change At _ _ _ [M33, N1, M16, M12, R] _
  have s33 := r33.rsl
  refine At.moreS (Lst := [N1, M16, M12, R]) (Lst' := [M33, N1, M16, M12, R]) (.cons _ (.refl _)) (.refl _) ?_
  refine op_callA (Nx.agree (nxss rfl rfl rfl rfl)) (.cons rfl (.cons rfl .nil)) (NFill_no s33 (by omega) (by rw [hA]; exact hcase)) Try.func72 rfl rfl (by simp) rfl ?_
  rintro v36 L36 ⟨rfl, rfl⟩
  change At _ _ _ [M33, N1, M16, M12, R] _
  refine At.anyS (.refl _) ?_
  refine op_move (nxsf rfl rfl rfl) rfl rfl ?_
  refine op_extract (nxsf rfl rfl rfl) rfl rfl rfl ?_
  refine op_extract (nxsf rfl rfl rfl) rfl rfl rfl ?_
  refine op_assign (nxsf rfl rfl rfl) rfl rfl ?_
  refine op_assign (nxsf rfl rfl rfl) rfl rfl ?_
  refine At.sNil ?_
  refine At.norm (hk_7 ?_)
  refine At.seq fun K8 hk_8 => ?_
  refine At.meet (fun fr_ hp_ => fr_ = [(1, .pointer (some ⟨b1, 0, none⟩)), (3, .slice a12 (digsOf A).length p12), (4, .slice a16 (digsOf B).length p16), (5, .int .i64 (bitOf A I)), (6, .slice none 0 0), (7, .bool false), (8, .bool false)] ∧ hp_ = [N1, M16, M12, R] ∧ (True)) ?_ (fun K8_ jk_8 => ?_)
  rotate_left
  · skip
    refine At.drawnS [N1, M16, M12, R] [] [] [0,1,2,3,4,5,6,7,8,9,11,12,13,10,14,15,16] (by kernel_rfl) (by kernel_rfl) (.cons _ (.refl _)) ?_
    refine op_fieldAddr (nxsf rfl rfl rfl) fl36_4 rfl rfl ?_
    refine op_loadB (nxsf rfl rfl rfl) sc3 rfl B1 (by first | rfl) mem0 rfl ?_
    refine op_geq (nxsf rfl rfl rfl) rfl rfl rfl ?_
    refine op_move (nxsf rfl rfl rfl) rfl rfl ?_
    refine At.partP (d := 42) rfl (fun g42 => ?_) (fun g42 => ?_)
    · refine op_fieldAddr (nxsgf rfl rfl rfl rfl rfl rfl) fl36_4 rfl rfl ?_
      refine op_loadB (nxsgf rfl rfl rfl rfl rfl rfl) sc3 rfl B1 (by first | rfl) mem0 rfl ?_
      refine op_leq (nxsgf rfl rfl rfl rfl rfl rfl) rfl rfl rfl ?_
      refine op_pickT (nxsf rfl rfl rfl) rfl rfl rfl ?_
      refine op_move (nxsf rfl rfl rfl) rfl rfl ?_
      refine At.partP (d := 47) rfl (fun g47 => ?_) (fun g47 => ?_)
      · refine op_move (nxsgf rfl rfl rfl rfl rfl rfl) rfl rfl ?_
        refine op_fieldAddr (nxsgf rfl rfl rfl rfl rfl rfl) fl36_4 rfl rfl ?_
        refine op_loadB (nxsgf rfl rfl rfl rfl rfl rfl) sc3 rfl B1 (by first | rfl) mem0 rfl ?_
        refine op_mulI (nxsgf rfl rfl rfl rfl rfl rfl) rfl rfl (by omega) (by omega) rfl ?_
        refine op_callA (Nx.agree (nxsgm rfl rfl rfl rfl rfl rfl)) (.cons rfl .nil) (rLen_f s12 (by omega)) Try.func73 rfl rfl (by simp) rfl ?_
        rintro v49 L49 ⟨rfl, rfl⟩
        change At _ _ _ [M33, N1, M16, M12, R] _
        rw [v32_digsOf]
        refine At.moreS (Lst := [N1, M16, M12, R]) (Lst' := [N1, M16, M12, R]) (.refl _) (.cons _ (.refl _)) ?_
        refine op_leq (nxsgf rfl rfl rfl rfl rfl rfl) rfl rfl rfl ?_
        rw [decide_eq_false (show ¬ ((bitLen A : Nat) : Int) ≤ 8 * W by omega)]
        refine op_pickT (nxsf rfl rfl rfl) rfl rfl rfl ?_
        refine op_assign (nxsf rfl rfl rfl) rfl rfl ?_
        refine At.sNil ?_
        refine At.sub (L' := [N1, M16, M12, R]) (.cons _ (.cons_cons _ (.cons_cons _ (.cons_cons _ (.cons_cons _ (.slnil)))))) ?_
        refine At.norm (jk_8 ?_ (.refl _) ⟨rfl, rfl, trivial⟩)
        exact .cons (by first | exact lkI rfl (by omega) | rfl | exact lkI rfl hze) (.cons (by first | exact lkI rfl (by omega) | rfl | exact lkI rfl hze) (.cons (by first | exact lkI rfl (by omega) | rfl | exact lkI rfl hze) (.cons (by first | exact lkI rfl (by omega) | rfl | exact lkI rfl hze) (.cons (by first | exact lkI rfl (by omega) | rfl | exact lkI rfl hze) (.cons (by first | exact lkI rfl (by omega) | rfl | exact lkI rfl hze) (.cons (by first | exact lkI rfl (by omega) | rfl | exact lkI rfl hze) .nil))))))
      · refine op_sskip rfl rfl rfl rfl rfl rfl rfl rfl ?_
        refine op_sskip rfl rfl rfl rfl rfl rfl rfl rfl ?_
        refine op_sskip rfl rfl rfl rfl rfl rfl rfl rfl ?_
        refine op_sskip rfl rfl rfl rfl rfl rfl rfl rfl ?_
        refine op_sskip rfl rfl rfl rfl rfl rfl rfl rfl ?_
        refine op_sskip rfl rfl rfl rfl rfl rfl rfl rfl ?_
        refine op_pickF (nxsf rfl rfl rfl) rfl rfl rfl ?_
        refine op_assign (nxsf rfl rfl rfl) rfl rfl ?_
        refine At.sNil ?_
        refine At.sub (L' := [N1, M16, M12, R]) (.cons _ (.cons_cons _ (.cons_cons _ (.cons_cons _ (.cons_cons _ (.slnil)))))) ?_
        refine At.norm (jk_8 ?_ (.refl _) ⟨rfl, rfl, trivial⟩)
        exact .cons (by first | exact lkI rfl (by omega) | rfl | exact lkI rfl hze) (.cons (by first | exact lkI rfl (by omega) | rfl | exact lkI rfl hze) (.cons (by first | exact lkI rfl (by omega) | rfl | exact lkI rfl hze) (.cons (by first | exact lkI rfl (by omega) | rfl | exact lkI rfl hze) (.cons (by first | exact lkI rfl (by omega) | rfl | exact lkI rfl hze) (.cons (by first | exact lkI rfl (by omega) | rfl | exact lkI rfl hze) (.cons (by first | exact lkI rfl (by omega) | rfl | exact lkI rfl hze) .nil))))))
    · refine op_sskip rfl rfl rfl rfl rfl rfl rfl rfl ?_
      refine op_sskip rfl rfl rfl rfl rfl rfl rfl rfl ?_
      refine op_sskip rfl rfl rfl rfl rfl rfl rfl rfl ?_
      refine op_pickF (nxsf rfl rfl rfl) rfl rfl rfl ?_
      refine op_move (nxsf rfl rfl rfl) rfl rfl ?_
      refine op_sskip rfl rfl rfl rfl rfl rfl rfl rfl ?_
      refine op_sskip rfl rfl rfl rfl rfl rfl rfl rfl ?_
      refine op_sskip rfl rfl rfl rfl rfl rfl rfl rfl ?_
      refine op_sskip rfl rfl rfl rfl rfl rfl rfl rfl ?_
      refine op_sskip rfl rfl rfl rfl rfl rfl rfl rfl ?_
      refine op_sskip rfl rfl rfl rfl rfl rfl rfl rfl ?_
      refine op_pickF (nxsf rfl rfl rfl) rfl rfl rfl ?_
      refine op_assign (nxsf rfl rfl rfl) rfl rfl ?_
      refine At.sNil ?_
      refine At.sub (L' := [N1, M16, M12, R]) (.cons _ (.cons_cons _ (.cons_cons _ (.cons_cons _ (.cons_cons _ (.slnil)))))) ?_
      refine At.norm (jk_8 ?_ (.refl _) ⟨rfl, rfl, trivial⟩)
      exact .cons (by first | exact lkI rfl (by omega) | rfl | exact lkI rfl hze) (.cons (by first | exact lkI rfl (by omega) | rfl | exact lkI rfl hze) (.cons (by first | exact lkI rfl (by omega) | rfl | exact lkI rfl hze) (.cons (by first | exact lkI rfl (by omega) | rfl | exact lkI rfl hze) (.cons (by first | exact lkI rfl (by omega) | rfl | exact lkI rfl hze) (.cons (by first | exact lkI rfl (by omega) | rfl | exact lkI rfl hze) (.cons (by first | exact lkI rfl (by omega) | rfl | exact lkI rfl hze) .nil))))))
  rintro _ _ ⟨rfl, rfl, ht2⟩
  refine hk_8 ?_
  refine At.seq fun K9 hk_9 => ?_
  refine At.seq fun K10 hk_10 => ?_
  refine At.drawnS [N1, M16, M12, R] [] [6] [0,1,2,3,4,5,6,7,8,9,10,11,12,13,14,15,16,17,18,19,20,21,22,23,24] (by kernel_rfl) (by kernel_rfl) (.refl _) ?_
  refine op_move (nxsf rfl rfl rfl) rfl rfl ?_
  refine op_move (nxsf rfl rfl rfl) rfl rfl ?_
  refine op_neB (nxsf rfl rfl rfl) Try.underlying4 rfl rfl rfl ?_
  refine op_move (nxsf rfl rfl rfl) rfl rfl ?_
  refine op_move (nxsgf rfl rfl rfl rfl rfl rfl) rfl rfl ?_
  refine op_move (nxsgf rfl rfl rfl rfl rfl rfl) rfl rfl ?_
  refine op_sskip rfl rfl rfl rfl rfl rfl rfl rfl ?_
  refine op_sskip rfl rfl rfl rfl rfl rfl rfl rfl ?_
  refine op_sskip rfl rfl rfl rfl rfl rfl rfl rfl ?_
  refine op_sskip rfl rfl rfl rfl rfl rfl rfl rfl ?_
  refine op_sskip rfl rfl rfl rfl rfl rfl rfl rfl ?_
  refine op_sskip rfl rfl rfl rfl rfl rfl rfl rfl ?_
  refine op_sskip rfl rfl rfl rfl rfl rfl rfl rfl ?_
  refine op_sskip rfl rfl rfl rfl rfl rfl rfl rfl ?_
  refine op_pickF (nxsgf rfl rfl rfl rfl rfl rfl) rfl rfl rfl ?_
  refine op_pickF (nxsf rfl rfl rfl) rfl rfl rfl ?_
  refine op_move (nxsf rfl rfl rfl) rfl rfl ?_
  refine op_move (nxsgf rfl rfl rfl rfl rfl rfl) rfl rfl ?_
  refine op_not (nxsgf rfl rfl rfl rfl rfl rfl) rfl rfl ?_
  refine op_move (nxsgf rfl rfl rfl rfl rfl rfl) rfl rfl ?_
  refine op_move (nxsgf rfl rfl rfl rfl rfl rfl) rfl rfl ?_
  refine op_lenS (nxsgf rfl rfl rfl rfl rfl rfl) se34 rfl rfl ?_
  refine op_neq (nxsgf rfl rfl rfl rfl rfl rfl) rfl rfl rfl ?_
  refine op_pickT (nxsgf rfl rfl rfl rfl rfl rfl) rfl rfl rfl ?_
  refine op_pickF (nxsf rfl rfl rfl) rfl rfl rfl ?_
  refine At.sNil ?_
  refine At.norm (hk_10 ?_)
  refine At.condF rfl ?_
  refine At.skip ?_
  refine At.norm (hk_9 ?_)
  refine At.seq fun K11 hk_11 => ?_
  refine At.drawnS [N1, M16, M12, R] [2,3,15,16,19,25,26,28,37,42] [5,17,18,27,38] [0,1,5,2,3,4,6,7,8,9,10,11,13,14,17,18,12,15,16,19,20,21,22,23,24,27,25,26,28,29,30,31,32,33,35,36,38,34,37,39,40,41,42,43,44] (by kernel_rfl) (by kernel_rfl) (.refl _) ?_
  refine op_fieldAddr (nxsf rfl rfl rfl) fl36_0 rfl rfl ?_
  refine op_loadB (nxsf rfl rfl rfl) sc34 rfl B1 (by first | rfl) mem0 rfl ?_
  refine op_move (nxsf rfl rfl rfl) rfl rfl ?_
  refine op_callA (Nx.agree (nxss rfl rfl rfl rfl)) (.cons rfl .nil) (few_f ha) Try.func38 rfl rfl (by simp) rfl ?_
  rintro v82 L82 ⟨M82, a82, p82, rfl, rfl, r82⟩
  change At _ _ _ [M82, N1, M16, M12, R] _
  have s82 := r82.rsl
  refine At.anyS (.refl _) ?_
  refine op_callA (Nx.agree (nxss rfl rfl rfl rfl)) (.cons rfl .nil) (NTrim_f s82 (by omega)) Try.func67 rfl rfl (by simp) rfl ?_
  rintro v83 L83 ⟨M83, a83, p83, rfl, rfl, r83⟩
  change At _ _ _ [M83, M82, N1, M16, M12, R] _
  have s83 := r83.rsl; rw [hA] at s83 ⊢
  refine At.anyS (.refl _) ?_
  refine op_str (nxsf rfl rfl rfl) Try.underlying34 Try.underlying5 Try.underlying9 rfl (by assumption) (by first | exact mem0 | exact mem1 | exact mem2 | exact mem3 | exact mem4 | exact mem5 | exact mem6 | exact mem7 | exact mem8 | exact mem9) rfl ?_
  refine op_callA (Nx.agree (nxsm rfl rfl rfl)) (.cons rfl .nil) (or_bytes (N := R) (.inl s12) (by omega)) Try.func42 rfl rfl (by simp) rfl ?_
  rintro v86 L86 ⟨M86, a86, p86, rfl, rfl, r86⟩
  change At _ _ _ [M86, M83, M82, N1, M16, M12, R] _
  have s86 := r86.rsl
  refine At.moreS (Lst := [M83, M82, N1, M16, M12, R]) (Lst' := [M86, M83, M82, N1, M16, M12, R]) (.cons _ (.refl _)) (.refl _) ?_
  refine op_str (nxsf rfl rfl rfl) Try.underlying34 Try.underlying5 Try.underlying9 rfl (by assumption) (by first | exact mem0 | exact mem1 | exact mem2 | exact mem3 | exact mem4 | exact mem5 | exact mem6 | exact mem7 | exact mem8 | exact mem9) rfl ?_
  refine op_eqS (nxsf rfl rfl rfl) rfl rfl rfl ?_
  refine op_move (nxsf rfl rfl rfl) rfl rfl ?_
  refine At.partP (d := 89) rfl (fun g89 => ?_) (fun g89 => ?_)
  · refine op_fieldAddr (nxsgf rfl rfl rfl rfl rfl rfl) fl36_0 rfl rfl ?_
    refine op_loadB (nxsgf rfl rfl rfl rfl rfl rfl) sc34 rfl B1 (by first | rfl) mem3 rfl ?_
    refine op_fieldAddr (nxsgf rfl rfl rfl rfl rfl rfl) fl36_1 rfl rfl ?_
    refine op_loadB (nxsgf rfl rfl rfl rfl rfl rfl) sc34 rfl B1 (by first | rfl) mem3 rfl ?_
    refine op_move (nxsgf rfl rfl rfl rfl rfl rfl) rfl rfl ?_
    refine op_move (nxsgf rfl rfl rfl rfl rfl rfl) rfl rfl ?_
    refine op_callA (Nx.agree (nxsgm rfl rfl rfl rfl rfl rfl)) (.cons rfl .nil) (few_f ha) Try.func38 rfl rfl (by simp) rfl ?_
    rintro v92 L92 ⟨M92, a92, p92, rfl, rfl, r92⟩
    change At _ _ _ [M92, M86, M83, M82, N1, M16, M12, R] _
    have s92 := r92.rsl
    refine At.moreS (Lst := [M86, M83, M82, N1, M16, M12, R]) (Lst' := [M92, M86, M83, M82, N1, M16, M12, R]) (.cons _ (.refl _)) (.refl _) ?_
    refine op_callA (Nx.agree (nxsgs rfl rfl rfl rfl rfl rfl rfl)) (.cons rfl .nil) (few_f hb) Try.func38 rfl rfl (by simp) rfl ?_
    rintro v95 L95 ⟨M95, a95, p95, rfl, rfl, r95⟩
    change At _ _ _ [M95, M92, M86, M83, M82, N1, M16, M12, R] _
    have s95 := r95.rsl
    refine At.anyS (.refl _) ?_
    refine op_callA (Nx.agree (nxsgs rfl rfl rfl rfl rfl rfl rfl)) (.cons rfl (.cons rfl .nil)) (NCmp_f s92 s95 (by omega) (by omega)) Try.func75 rfl rfl (by simp) rfl ?_
    rintro v96 L96 ⟨rfl, rfl⟩
    change At _ _ _ [M95, M92, M86, M83, M82, N1, M16, M12, R] _
    rw [hA, hB]
    refine At.anyS (.refl _) ?_
    refine op_callA (Nx.agree (nxsgs rfl rfl rfl rfl rfl rfl rfl)) (.cons rfl (.cons rfl .nil)) (Cmp32_f s12 s16) Try.func76 rfl rfl (by simp) rfl ?_
    rintro v99 L99 ⟨rfl, rfl⟩
    change At _ _ _ [M95, M92, M86, M83, M82, N1, M16, M12, R] _
    refine At.anyS (.refl _) ?_
    refine op_eql (nxsgf rfl rfl rfl rfl rfl rfl) rfl rfl rfl ?_
    refine op_pickT (nxsf rfl rfl rfl) rfl rfl rfl ?_
    refine op_move (nxsf rfl rfl rfl) rfl rfl ?_
    refine At.partP (d := 102) rfl (fun g102 => ?_) (fun g102 => ?_)
    · refine op_fieldAddr (nxsgf rfl rfl rfl rfl rfl rfl) fl36_0 rfl rfl ?_
      refine op_loadB (nxsgf rfl rfl rfl rfl rfl rfl) sc34 rfl B1 (by first | rfl) mem5 rfl ?_
      refine op_move (nxsgf rfl rfl rfl rfl rfl rfl) rfl rfl ?_
      refine op_callA (Nx.agree (nxsgs rfl rfl rfl rfl rfl rfl rfl)) (.cons rfl .nil) (few_f ha) Try.func38 rfl rfl (by simp) rfl ?_
      rintro v105 L105 ⟨M105, a105, p105, rfl, rfl, r105⟩
      change At _ _ _ [M105, M95, M92, M86, M83, M82, N1, M16, M12, R] _
      have s105 := r105.rsl
      refine At.anyS (.refl _) ?_
      refine op_callA (Nx.agree (nxsgs rfl rfl rfl rfl rfl rfl rfl)) (.cons rfl .nil) (NBits_f s105 (by omega)) Try.func77 rfl rfl (by simp) rfl ?_
      rintro v106 L106 ⟨rfl, rfl⟩
      change At _ _ _ [M105, M95, M92, M86, M83, M82, N1, M16, M12, R] _
      rw [hA]
      refine At.anyS (.refl _) ?_
      refine op_callA (Nx.agree (nxsgs rfl rfl rfl rfl rfl rfl rfl)) (.cons rfl .nil) (rLen_f s12 (by omega)) Try.func73 rfl rfl (by simp) rfl ?_
      rintro v108 L108 ⟨rfl, rfl⟩
      change At _ _ _ [M105, M95, M92, M86, M83, M82, N1, M16, M12, R] _
      rw [v32_digsOf]
      refine At.anyS (.refl _) ?_
      refine op_eql (nxsgf rfl rfl rfl rfl rfl rfl) rfl rfl rfl ?_
      refine op_pickT (nxsf rfl rfl rfl) rfl rfl rfl ?_
      refine op_move (nxsf rfl rfl rfl) rfl rfl ?_
      refine At.partP (d := 111) rfl (fun g111 => ?_) (fun g111 => ?_)
      · refine op_fieldAddr (nxsgf rfl rfl rfl rfl rfl rfl) fl36_0 rfl rfl ?_
        refine op_loadB (nxsgf rfl rfl rfl rfl rfl rfl) sc34 rfl B1 (by first | rfl) mem6 rfl ?_
        refine op_fieldAddr (nxsgf rfl rfl rfl rfl rfl rfl) fl36_3 rfl rfl ?_
        refine op_loadB (nxsgf rfl rfl rfl rfl rfl rfl) sc3 rfl B1 (by first | rfl) mem6 rfl ?_
        refine op_move (nxsgf rfl rfl rfl rfl rfl rfl) rfl rfl ?_
        refine op_callA (Nx.agree (nxsgm rfl rfl rfl rfl rfl rfl)) (.cons rfl .nil) (few_f ha) Try.func38 rfl rfl (by simp) rfl ?_
        rintro v114 L114 ⟨M114, a114, p114, rfl, rfl, r114⟩
        change At _ _ _ [M114, M105, M95, M92, M86, M83, M82, N1, M16, M12, R] _
        have s114 := r114.rsl
        refine At.moreS (Lst := [M105, M95, M92, M86, M83, M82, N1, M16, M12, R]) (Lst' := [M114, M105, M95, M92, M86, M83, M82, N1, M16, M12, R]) (.cons _ (.refl _)) (.refl _) ?_
        refine op_callA (Nx.agree (nxsgs rfl rfl rfl rfl rfl rfl rfl)) (.cons rfl (.cons rfl .nil)) (NBit_any s114 (by omega) hI) Try.func78 rfl rfl (by simp) rfl ?_
        rintro v117 L117 ⟨rfl, rfl⟩
        change At _ _ _ [M114, M105, M95, M92, M86, M83, M82, N1, M16, M12, R] _
        rw [hA]
        refine At.anyS (.refl _) ?_
        refine op_eql (nxsgf rfl rfl rfl rfl rfl rfl) rfl rfl rfl ?_
        refine op_pickT (nxsf rfl rfl rfl) rfl rfl rfl ?_
        refine op_move (nxsf rfl rfl rfl) rfl rfl ?_
        refine At.partP (d := 121) rfl (fun g121 => ?_) (fun g121 => ?_)
        · refine op_callA (Nx.agree (nxsgs rfl rfl rfl rfl rfl rfl rfl)) .nil (Nwakes_f) Try.func40 rfl rfl (by simp) rfl ?_
          rintro v122 L122 ⟨rfl, rfl⟩
          change At _ _ _ [M114, M105, M95, M92, M86, M83, M82, N1, M16, M12, R] _
          refine At.anyS (.refl _) ?_
          refine op_pickT (nxsf rfl rfl rfl) rfl rfl rfl ?_
          refine op_assign (nxsf rfl rfl rfl) rfl rfl ?_
          refine At.sNil ?_
          refine At.norm (hk_11 ?_)
          refine At.ret (?_)
          refine At.sub (L' := [R]) (.cons _ (.cons _ (.cons _ (.cons _ (.cons _ (.cons _ (.cons _ (.cons _ (.cons _ (.cons _ (.cons_cons _ (.slnil)))))))))))) ?_
          refine At.ret1 (L1 := []) rfl (.tmp rfl .nil) (.refl _) (.refl _) ?_
          exact ⟨rfl, rfl⟩
        · exact absurd rfl g121
      · exact absurd rfl g111
    · exact absurd rfl g102
  · exact absurd rfl g89
theorem NatForms_f (ha : RSl N 1 ao n ca (u8s a)) (hb : RSl N 1 bo m cb (u8s b)) (hI : -9223372036854775808 ≤ I ∧ I ≤ 9223372036854775807) :
    Fn Try.prog 12 #[.agg #[.slice ao n ca, .slice bo m cb, .slice mo k cm, .int .i64 I, .int .i64 W]] [] [N] (fun v L => v = .bool true ∧ L = []) := by
  by_cases h : W < 0 ∨ 65536 < W ∨ W < ((bytesOf (be (a.take 600))).length : Int)
  · exact NatForms_n ha hb hI h
  · obtain ⟨w, rfl⟩ : ∃ w : Nat, W = (w : Int) := ⟨W.toNat, by omega⟩
    exact NatForms_y ha hb hI (by omega)
end
end Go.Proofs.Ytefljbbpaideaaa
