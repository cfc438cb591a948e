/- quarrylaw02.NatWhole answers true. No condition. -/
import Derived.Test.YtefljbbpaideaaaKNg0
import Derived.Test.YtefljbbpaideaaaKNf1
namespace Go.Proofs.Ytefljbbpaideaaa
set_option linter.unusedVariables false
set_option linter.unusedSimpArgs false
open Go Go.RowKit
section
variable {N : Heaplet} {ao bo mo : Option Addr} {n m k ca cb cm : Nat} {a b l : List UInt8} {I W : Int}
set_option maxRecDepth 100000 in
set_option maxHeartbeats 2000000 in
theorem NatWhole_z (ha : RSl N 1 ao n ca (u8s a)) (hb : RSl N 1 bo m cb (u8s b)) (hm : RSl N 1 mo k cm (u8s l)) (hcase : be (b.take 600) = 0) :
    Fn Try.prog 16 #[.agg #[.slice ao n ca, .slice bo m cb, .slice mo k cm, .int .i64 I, .int .i64 W]] [] [N] (fun v L => v = .bool true ∧ L = []) := by
  have ha6 : (a.take 600).length ≤ 600 := by rw [List.length_take]; omega
  have hb6 : (b.take 600).length ≤ 600 := by rw [List.length_take]; omega
  have hm6 : (l.take 600).length ≤ 600 := by rw [List.length_take]; omega
  have ya := bytes_be (a.take 600)
  have yb := bytes_be (b.take 600)
  have ym := bytes_be (l.take 600)
  generalize hA : be (a.take 600) = A at *
  generalize hB : be (b.take 600) = B at *
  generalize hC : be (l.take 600) = C at *
  have yab := bytes_add (X := A) (Y := B) (n := 600) (by omega) (by omega)
  have ybc := bytes_add (X := B) (Y := C) (n := 600) (by omega) (by omega)
  have ymab := bytes_mul (X := A) (Y := B) (n := 600) (by omega) (by omega)
  have ymac := bytes_mul (X := A) (Y := C) (n := 600) (by omega) (by omega)
  have yq := bytes_mono (Nat.div_le_self A B)
  have yr := bytes_mono (Nat.mod_le A B)
  have yqb := bytes_mono (Nat.div_mul_le_self A B)
  refine Fn.enter (vs := [.agg #[.slice ao n ca, .slice bo m cb, .slice mo k cm, .int .i64 I, .int .i64 W]]) Try.func16 rfl rfl rfl ?_
  intro E R hR
  have ha := ha.le (hR N (by simp))
  have hb := hb.le (hR N (by simp))
  have hm := hm.le (hR N (by simp))
  change At _ _ E [R] _
  refine At.seq fun K1 hk_1 => ?_
  refine At.region ?_
  refine op_box (nxla rfl) rfl rfl rfl (fun N1 b1 B1 => ?_)
  refine op_assign (nxlf rfl) rfl rfl ?_
  refine At.opsNil ?_
  refine At.norm (hk_1 ?_)
  refine At.seq fun K2 hk_2 => ?_
  refine At.drawnS [N1, R] [8] [] [0,1,3,4,6,7,2,5,8,9,10,11] (by kernel_rfl) (by kernel_rfl) (.refl _) ?_
  refine op_fieldAddr (nxsf rfl rfl rfl) fl36_0 rfl rfl ?_
  refine op_loadB (nxsf rfl rfl rfl) sc34 rfl B1 (by first | rfl) mem0 rfl ?_
  refine op_fieldAddr (nxsf rfl rfl rfl) fl36_1 rfl rfl ?_
  refine op_loadB (nxsf rfl rfl rfl) sc34 rfl B1 (by first | rfl) mem0 rfl ?_
  refine op_fieldAddr (nxsf rfl rfl rfl) fl36_2 rfl rfl ?_
  refine op_loadB (nxsf rfl rfl rfl) sc34 rfl B1 (by first | rfl) mem0 rfl ?_
  refine op_callA (Nx.agree (nxsm rfl rfl rfl)) (.cons rfl .nil) (few_f ha) Try.func38 rfl rfl (by simp) rfl ?_
  rintro v13 L13 ⟨M13, a13, p13, rfl, rfl, r13⟩
  change At _ _ _ [M13, N1, R] _
  have s13 := r13.rsl
  refine At.moreS (Lst := [N1, R]) (Lst' := [M13, N1, R]) (.cons _ (.refl _)) (.refl _) ?_
  refine op_callA (Nx.agree (nxsm rfl rfl rfl)) (.cons rfl .nil) (few_f hb) Try.func38 rfl rfl (by simp) rfl ?_
  rintro v16 L16 ⟨M16, a16, p16, rfl, rfl, r16⟩
  change At _ _ _ [M16, M13, N1, R] _
  have s16 := r16.rsl
  refine At.moreS (Lst := [M13, N1, R]) (Lst' := [M16, M13, N1, R]) (.cons _ (.refl _)) (.refl _) ?_
  refine op_callA (Nx.agree (nxss rfl rfl rfl rfl)) (.cons rfl .nil) (few_f hm) Try.func38 rfl rfl (by simp) rfl ?_
  rintro v19 L19 ⟨M19, a19, p19, rfl, rfl, r19⟩
  change At _ _ _ [M19, M16, M13, N1, R] _
  have s19 := r19.rsl
  refine At.anyS (.refl _) ?_
  refine op_assign (nxsf rfl rfl rfl) rfl rfl ?_
  refine op_assign (nxsf rfl rfl rfl) rfl rfl ?_
  refine op_assign (nxsf rfl rfl rfl) rfl rfl ?_
  refine At.sNil ?_
  refine At.norm (hk_2 ?_)
  refine At.seq fun K3 hk_3 => ?_
  refine At.region ?_
  refine op_move (nxlf rfl) rfl rfl ?_
  refine op_move (nxlf rfl) rfl rfl ?_
  refine op_callA (nxla rfl) (.cons rfl (.cons rfl .nil)) (NAdd_f s13 s16 (by omega) (by omega)) Try.func70 rfl rfl (by simp) rfl ?_
  rintro v22 L22 ⟨M22, a22, p22, rfl, rfl, r22⟩
  change At _ _ _ [M22, M19, M16, M13, N1, R] _
  have s22 := r22.rsl; rw [hA, hB] at s22 ⊢
  refine op_assign (nxlf rfl) rfl rfl ?_
  refine At.opsNil ?_
  refine At.norm (hk_3 ?_)
  refine At.seq fun K4 hk_4 => ?_
  refine At.region ?_
  refine op_move (nxlf rfl) rfl rfl ?_
  refine op_move (nxlf rfl) rfl rfl ?_
  refine op_callA (nxla rfl) (.cons rfl (.cons rfl .nil)) (NSub_f s22 s16 (by omega) (by omega)) Try.func94 rfl rfl (by simp) rfl ?_
  rintro v26 L26 ⟨M26, a26, p26, rfl, rfl, r26⟩
  change At _ _ _ [M26, M22, M19, M16, M13, N1, R] _
  have s26 := r26.rsl; rw [be_bytesOf, hB, Nat.add_sub_cancel] at s26 ⊢; rw [decide_eq_true (show B ≤ A + B by omega)]
  refine op_move (nxlf rfl) rfl rfl ?_
  refine op_extract (nxlf rfl) rfl rfl rfl ?_
  refine op_extract (nxlf rfl) rfl rfl rfl ?_
  refine op_assign (nxlf rfl) rfl rfl ?_
  refine op_assign (nxlf rfl) rfl rfl ?_
  refine At.opsNil ?_
  refine At.norm (hk_4 ?_)
  refine At.seq fun K5 hk_5 => ?_
  refine At.seq fun K6 hk_6 => ?_
  refine At.perm sel6 ?_
  refine At.perm sel5 ?_
  refine At.perm sel5 ?_
  refine At.perm sel5 ?_
  refine At.perm sel5 ?_
  refine At.perm sel5 ?_
  refine At.perm sel6 ?_
  refine At.drawnS [N1, M26, M22, M19, M16, M13, R] [22] [3,11] [0,1,2,3,4,5,6,7,8,9,10,11,12,13,14,15,16,17,18,19,20,21,22,23,24] (by kernel_rfl) (by kernel_rfl) (.refl _) ?_
  refine op_move (nxsf rfl rfl rfl) rfl rfl ?_
  refine op_not (nxsf rfl rfl rfl) rfl rfl ?_
  refine op_move (nxsf rfl rfl rfl) rfl rfl ?_
  refine op_move (nxsgf rfl rfl rfl rfl rfl rfl) rfl rfl ?_
  refine op_str (nxsgf rfl rfl rfl rfl rfl rfl) Try.underlying34 Try.underlying5 Try.underlying9 rfl (by assumption) (by first | exact mem0 | exact mem1 | exact mem2 | exact mem3 | exact mem4 | exact mem5 | exact mem6 | exact mem7 | exact mem8 | exact mem9) rfl ?_
  refine op_move (nxsgf rfl rfl rfl rfl rfl rfl) rfl rfl ?_
  refine op_callA (Nx.agree (nxsgm rfl rfl rfl rfl rfl rfl)) (.cons rfl .nil) (NTrim_f s13 (by omega)) Try.func67 rfl rfl (by simp) rfl ?_
  rintro v35 L35 ⟨M35, a35, p35, rfl, rfl, r35⟩
  change At _ _ _ [M35, N1, M26, M22, M19, M16, M13, R] _
  have s35 := r35.rsl; rw [hA] at s35 ⊢
  refine At.moreS (Lst := [N1, M26, M22, M19, M16, M13, R]) (Lst' := [M35, N1, M26, M22, M19, M16, M13, R]) (.cons _ (.refl _)) (.refl _) ?_
  refine op_str (nxsgf rfl rfl rfl rfl rfl rfl) Try.underlying34 Try.underlying5 Try.underlying9 rfl (by assumption) (by first | exact mem0 | exact mem1 | exact mem2 | exact mem3 | exact mem4 | exact mem5 | exact mem6 | exact mem7 | exact mem8 | exact mem9) rfl ?_
  refine op_neS (nxsgf rfl rfl rfl rfl rfl rfl) rfl rfl rfl ?_
  refine op_pickF (nxsf rfl rfl rfl) rfl rfl rfl ?_
  refine op_move (nxsf rfl rfl rfl) rfl rfl ?_
  refine At.partP (d := 39) rfl (fun g39 => ?_) (fun g39 => ?_)
  · exact absurd rfl g39
  · refine op_move (nxsgf rfl rfl rfl rfl rfl rfl) rfl rfl ?_
    refine op_str (nxsgf rfl rfl rfl rfl rfl rfl) Try.underlying34 Try.underlying5 Try.underlying9 rfl (by assumption) (by first | exact mem0 | exact mem1 | exact mem2 | exact mem3 | exact mem4 | exact mem5 | exact mem6 | exact mem7 | exact mem8 | exact mem9) rfl ?_
    refine op_move (nxsgf rfl rfl rfl rfl rfl rfl) rfl rfl ?_
    refine op_move (nxsgf rfl rfl rfl rfl rfl rfl) rfl rfl ?_
    refine op_callA (Nx.agree (nxsgm rfl rfl rfl rfl rfl rfl)) (.cons rfl (.cons rfl .nil)) (NAdd_f s16 s13 (by omega) (by omega)) Try.func70 rfl rfl (by simp) rfl ?_
    rintro v44 L44 ⟨M44, a44, p44, rfl, rfl, r44⟩
    change At _ _ _ [M44, M35, N1, M26, M22, M19, M16, M13, R] _
    have s44 := r44.rsl; rw [hA, hB, Nat.add_comm B A] at s44 ⊢
    refine At.moreS (Lst := [M35, N1, M26, M22, M19, M16, M13, R]) (Lst' := [M44, M35, N1, M26, M22, M19, M16, M13, R]) (.cons _ (.refl _)) (.refl _) ?_
    refine op_str (nxsgf rfl rfl rfl rfl rfl rfl) Try.underlying34 Try.underlying5 Try.underlying9 rfl (by assumption) (by first | exact mem0 | exact mem1 | exact mem2 | exact mem3 | exact mem4 | exact mem5 | exact mem6 | exact mem7 | exact mem8 | exact mem9) rfl ?_
    refine op_neS (nxsgf rfl rfl rfl rfl rfl rfl) rfl rfl rfl ?_
    refine op_pickF (nxsf rfl rfl rfl) rfl rfl rfl ?_
    refine op_move (nxsf rfl rfl rfl) rfl rfl ?_
    refine At.partP (d := 48) rfl (fun g48 => ?_) (fun g48 => ?_)
    · exact absurd rfl g48
    · refine op_move (nxsgf rfl rfl rfl rfl rfl rfl) rfl rfl ?_
      refine op_move (nxsgf rfl rfl rfl rfl rfl rfl) rfl rfl ?_
      refine op_callA (Nx.agree (nxsgs rfl rfl rfl rfl rfl rfl rfl)) (.cons rfl (.cons rfl .nil)) (NCmp_f s22 s13 (by omega) (by omega)) Try.func75 rfl rfl (by simp) rfl ?_
      rintro v51 L51 ⟨rfl, rfl⟩
      change At _ _ _ [M44, M35, N1, M26, M22, M19, M16, M13, R] _
      rw [be_bytesOf, hA]
      refine At.anyS (.refl _) ?_
      refine op_lss (nxsgf rfl rfl rfl rfl rfl rfl) rfl rfl rfl ?_
      refine op_pickF (nxsf rfl rfl rfl) rfl rfl rfl ?_
      refine At.sNil ?_
      refine At.norm (hk_6 ?_)
      refine At.condP rfl (fun c53 => ?_) (fun c53 => ?_)
      · exact absurd (cmpN_neg.1 c53) (by omega)
      · refine At.skip ?_
        refine At.norm (hk_5 ?_)
        refine At.seq fun K7 hk_7 => ?_
        refine At.seq fun K8 hk_8 => ?_
        refine At.drawnS [N1, M26, M22, M19, M16, M13, R] [3,4,18] [0,6,7,9,10,20,21] [0,1,2,6,7,9,10,3,4,5,8,11,12,13,14,15,16,17,20,21,18,19,22,23,24,25] (by kernel_rfl) (by kernel_rfl) (.cons _ (.cons _ (.refl _))) ?_
        refine op_move (nxsf rfl rfl rfl) rfl rfl ?_
        refine op_move (nxsf rfl rfl rfl) rfl rfl ?_
        refine op_move (nxsf rfl rfl rfl) rfl rfl ?_
        refine op_move (nxsf rfl rfl rfl) rfl rfl ?_
        refine op_move (nxsf rfl rfl rfl) rfl rfl ?_
        refine op_move (nxsf rfl rfl rfl) rfl rfl ?_
        refine op_move (nxsf rfl rfl rfl) rfl rfl ?_
        refine op_callA (Nx.agree (nxss rfl rfl rfl rfl)) (.cons rfl (.cons rfl .nil)) (NAdd_f s16 s19 (by omega) (by omega)) Try.func70 rfl rfl (by simp) rfl ?_
        rintro v57 L57 ⟨M57, a57, p57, rfl, rfl, r57⟩
        change At _ _ _ [M57, M44, M35, N1, M26, M22, M19, M16, M13, R] _
        have s57 := r57.rsl; rw [hB, hC] at s57 ⊢
        refine At.anyS (.refl _) ?_
        refine op_callA (Nx.agree (nxss rfl rfl rfl rfl)) (.cons rfl (.cons rfl .nil)) (NMul_f s13 s57 (by omega) (by omega)) Try.func69 rfl rfl (by simp) rfl ?_
        rintro v58 L58 ⟨M58, a58, p58, rfl, rfl, r58⟩
        change At _ _ _ [M58, M57, M44, M35, N1, M26, M22, M19, M16, M13, R] _
        have s58 := r58.rsl; rw [hA, be_bytesOf, Nat.mul_add] at s58 ⊢
        refine At.anyS (.refl _) ?_
        refine op_str (nxsf rfl rfl rfl) Try.underlying34 Try.underlying5 Try.underlying9 rfl (by assumption) (by first | exact mem0 | exact mem1 | exact mem2 | exact mem3 | exact mem4 | exact mem5 | exact mem6 | exact mem7 | exact mem8 | exact mem9 | exact mem10) rfl ?_
        refine op_callA (Nx.agree (nxsm rfl rfl rfl)) (.cons rfl (.cons rfl .nil)) (NMul_f s13 s16 (by omega) (by omega)) Try.func69 rfl rfl (by simp) rfl ?_
        rintro v62 L62 ⟨M62, a62, p62, rfl, rfl, r62⟩
        change At _ _ _ [M62, M58, M57, M44, M35, N1, M26, M22, M19, M16, M13, R] _
        have s62 := r62.rsl; rw [hA, hB] at s62 ⊢
        refine At.moreS (Lst := [M58, M57, M44, M35, N1, M26, M22, M19, M16, M13, R]) (Lst' := [M62, M58, M57, M44, M35, N1, M26, M22, M19, M16, M13, R]) (.cons _ (.refl _)) (.refl _) ?_
        refine op_callA (Nx.agree (nxsm rfl rfl rfl)) (.cons rfl (.cons rfl .nil)) (NMul_f s13 s19 (by omega) (by omega)) Try.func69 rfl rfl (by simp) rfl ?_
        rintro v65 L65 ⟨M65, a65, p65, rfl, rfl, r65⟩
        change At _ _ _ [M65, M62, M58, M57, M44, M35, N1, M26, M22, M19, M16, M13, R] _
        have s65 := r65.rsl; rw [hA, hC] at s65 ⊢
        refine At.moreS (Lst := [M62, M58, M57, M44, M35, N1, M26, M22, M19, M16, M13, R]) (Lst' := [M65, M62, M58, M57, M44, M35, N1, M26, M22, M19, M16, M13, R]) (.cons _ (.refl _)) (.refl _) ?_
        refine op_callA (Nx.agree (nxsm rfl rfl rfl)) (.cons rfl (.cons rfl .nil)) (NAdd_f s62 s65 (by omega) (by omega)) Try.func70 rfl rfl (by simp) rfl ?_
        rintro v66 L66 ⟨M66, a66, p66, rfl, rfl, r66⟩
        change At _ _ _ [M66, M65, M62, M58, M57, M44, M35, N1, M26, M22, M19, M16, M13, R] _
        have s66 := r66.rsl; rw [be_bytesOf, be_bytesOf] at s66 ⊢
        refine At.moreS (Lst := [M65, M62, M58, M57, M44, M35, N1, M26, M22, M19, M16, M13, R]) (Lst' := [M66, M65, M62, M58, M57, M44, M35, N1, M26, M22, M19, M16, M13, R]) (.cons _ (.refl _)) (.refl _) ?_
        refine op_str (nxsf rfl rfl rfl) Try.underlying34 Try.underlying5 Try.underlying9 rfl (by assumption) (by first | exact mem0 | exact mem1 | exact mem2 | exact mem3 | exact mem4 | exact mem5 | exact mem6 | exact mem7 | exact mem8 | exact mem9 | exact mem10 | exact mem11 | exact mem12 | exact mem13) rfl ?_
        refine op_neS (nxsf rfl rfl rfl) rfl rfl rfl ?_
        refine op_move (nxsf rfl rfl rfl) rfl rfl ?_
        refine At.partP (d := 69) rfl (fun g69 => ?_) (fun g69 => ?_)
        · exact absurd rfl g69
        · refine op_move (nxsgf rfl rfl rfl rfl rfl rfl) rfl rfl ?_
          refine op_move (nxsgf rfl rfl rfl rfl rfl rfl) rfl rfl ?_
          refine op_move (nxsgf rfl rfl rfl rfl rfl rfl) rfl rfl ?_
          refine op_move (nxsgf rfl rfl rfl rfl rfl rfl) rfl rfl ?_
          refine op_callA (Nx.agree (nxsgs rfl rfl rfl rfl rfl rfl rfl)) (.cons rfl (.cons rfl .nil)) (NMul_f s13 s16 (by omega) (by omega)) Try.func69 rfl rfl (by simp) rfl ?_
          rintro v72 L72 ⟨M72, a72, p72, rfl, rfl, r72⟩
          change At _ _ _ [M72, M66, M65, M62, M58, M57, M44, M35, N1, M26, M22, M19, M16, M13, R] _
          have s72 := r72.rsl; rw [hA, hB] at s72 ⊢
          refine At.anyS (.refl _) ?_
          refine op_str (nxsgf rfl rfl rfl rfl rfl rfl) Try.underlying34 Try.underlying5 Try.underlying9 rfl (by assumption) (by first | exact mem0 | exact mem1 | exact mem2 | exact mem3 | exact mem4 | exact mem5 | exact mem6 | exact mem7 | exact mem8 | exact mem9 | exact mem10 | exact mem11 | exact mem12 | exact mem13 | exact mem14) rfl ?_
          refine op_callA (Nx.agree (nxsgm rfl rfl rfl rfl rfl rfl)) (.cons rfl (.cons rfl .nil)) (NMul_f s16 s13 (by omega) (by omega)) Try.func69 rfl rfl (by simp) rfl ?_
          rintro v76 L76 ⟨M76, a76, p76, rfl, rfl, r76⟩
          change At _ _ _ [M76, M72, M66, M65, M62, M58, M57, M44, M35, N1, M26, M22, M19, M16, M13, R] _
          have s76 := r76.rsl; rw [hA, hB, Nat.mul_comm B A] at s76 ⊢
          refine At.moreS (Lst := [M72, M66, M65, M62, M58, M57, M44, M35, N1, M26, M22, M19, M16, M13, R]) (Lst' := [M76, M72, M66, M65, M62, M58, M57, M44, M35, N1, M26, M22, M19, M16, M13, R]) (.cons _ (.refl _)) (.refl _) ?_
          refine op_str (nxsgf rfl rfl rfl rfl rfl rfl) Try.underlying34 Try.underlying5 Try.underlying9 rfl (by assumption) (by first | exact mem0 | exact mem1 | exact mem2 | exact mem3 | exact mem4 | exact mem5 | exact mem6 | exact mem7 | exact mem8 | exact mem9 | exact mem10 | exact mem11 | exact mem12 | exact mem13 | exact mem14 | exact mem15) rfl ?_
          refine op_neS (nxsgf rfl rfl rfl rfl rfl rfl) rfl rfl rfl ?_
          refine op_pickF (nxsf rfl rfl rfl) rfl rfl rfl ?_
          refine At.sNil ?_
          refine At.norm (hk_8 ?_)
          refine At.condP rfl (fun c79 => ?_) (fun c79 => ?_)
          · exact absurd rfl c79
          · refine At.skip ?_
            refine At.norm (hk_7 ?_)
            refine At.seq fun K9 hk_9 => ?_
            refine At.region ?_
            refine op_move (nxlf rfl) rfl rfl ?_
            refine op_move (nxlf rfl) rfl rfl ?_
            refine op_callA (nxla rfl) (.cons rfl (.cons rfl .nil)) (NDivMod_0 s16 (by omega) (by rw [hB]; exact hcase)) Try.func39 rfl rfl (by simp) rfl ?_
            rintro v83 L83 ⟨rfl, rfl⟩
            change At _ _ _ [M76, M72, M66, M65, M62, M58, M57, M44, M35, N1, M26, M22, M19, M16, M13, R] _
            refine op_move (nxlf rfl) rfl rfl ?_
            refine op_extract (nxlf rfl) rfl rfl rfl ?_
            refine op_extract (nxlf rfl) rfl rfl rfl ?_
            refine op_extract (nxlf rfl) rfl rfl rfl ?_
            refine op_assign (nxlf rfl) rfl rfl ?_
            refine op_assign (nxlf rfl) rfl rfl ?_
            refine op_assign (nxlf rfl) rfl rfl ?_
            refine At.opsNil ?_
            refine At.norm (hk_9 ?_)
            refine At.seq fun K10 hk_10 => ?_
            refine At.seq fun K11 hk_11 => ?_
            refine At.region ?_
            refine op_move (nxlf rfl) rfl rfl ?_
            refine op_not (nxlf rfl) rfl rfl ?_
            refine At.opsNil ?_
            refine At.norm (hk_11 ?_)
            refine At.condT rfl ?_
            refine At.seq fun K12 hk_12 => ?_
            refine At.region ?_
            refine op_move (nxlf rfl) rfl rfl ?_
            refine op_callA (nxla rfl) (.cons rfl .nil) (NTrim_f s16 (by omega)) Try.func67 rfl rfl (by simp) rfl ?_
            rintro v90 L90 ⟨M90, a90, p90, rfl, rfl, r90⟩
            change At _ _ _ [M90, M76, M72, M66, M65, M62, M58, M57, M44, M35, N1, M26, M22, M19, M16, M13, R] _
            have s90 := r90.rsl; rw [hB, hcase, show (bytesOf 0).length = 0 from rfl]
            refine op_lenS (nxlf rfl) se34 rfl rfl ?_
            refine op_eql (nxlf rfl) rfl rfl rfl ?_
            refine op_move (nxlf rfl) rfl rfl ?_
            refine At.partP (d := 93) rfl (fun g93 => ?_) (fun g93 => ?_)
            · refine op_callA (nxga rfl rfl rfl rfl) .nil (Nwakes_f) Try.func40 rfl rfl (by simp) rfl ?_
              rintro v94 L94 ⟨rfl, rfl⟩
              change At _ _ _ [M90, M76, M72, M66, M65, M62, M58, M57, M44, M35, N1, M26, M22, M19, M16, M13, R] _
              refine op_pickT (nxlf rfl) rfl rfl rfl ?_
              refine op_assign (nxlf rfl) rfl rfl ?_
              refine At.opsNil ?_
              refine At.norm (hk_12 ?_)
              refine At.ret (At.thenRet (?_))
              refine At.sub (L' := [R]) (.cons _ (.cons _ (.cons _ (.cons _ (.cons _ (.cons _ (.cons _ (.cons _ (.cons _ (.cons _ (.cons _ (.cons _ (.cons _ (.cons _ (.cons _ (.cons _ (.cons_cons _ (.slnil)))))))))))))))))) ?_
              refine At.ret1 (L1 := []) rfl (.tmp rfl .nil) (.refl _) (.refl _) ?_
              exact ⟨rfl, rfl⟩
            · exact absurd rfl g93
set_option maxRecDepth 100000 in
set_option maxHeartbeats 2000000 in
theorem NatWhole_p (ha : RSl N 1 ao n ca (u8s a)) (hb : RSl N 1 bo m cb (u8s b)) (hm : RSl N 1 mo k cm (u8s l)) (hcase : 0 < be (b.take 600)) :
    Fn Try.prog 16 #[.agg #[.slice ao n ca, .slice bo m cb, .slice mo k cm, .int .i64 I, .int .i64 W]] [] [N] (fun v L => v = .bool true ∧ L = []) := by
  have ha6 : (a.take 600).length ≤ 600 := by rw [List.length_take]; omega
  have hb6 : (b.take 600).length ≤ 600 := by rw [List.length_take]; omega
  have hm6 : (l.take 600).length ≤ 600 := by rw [List.length_take]; omega
  have ya := bytes_be (a.take 600)
  have yb := bytes_be (b.take 600)
  have ym := bytes_be (l.take 600)
  generalize hA : be (a.take 600) = A at *
  generalize hB : be (b.take 600) = B at *
  generalize hC : be (l.take 600) = C at *
  have yab := bytes_add (X := A) (Y := B) (n := 600) (by omega) (by omega)
  have ybc := bytes_add (X := B) (Y := C) (n := 600) (by omega) (by omega)
  have ymab := bytes_mul (X := A) (Y := B) (n := 600) (by omega) (by omega)
  have ymac := bytes_mul (X := A) (Y := C) (n := 600) (by omega) (by omega)
  have yq := bytes_mono (Nat.div_le_self A B)
  have yr := bytes_mono (Nat.mod_le A B)
  have yqb := bytes_mono (Nat.div_mul_le_self A B)
  refine Fn.enter (vs := [.agg #[.slice ao n ca, .slice bo m cb, .slice mo k cm, .int .i64 I, .int .i64 W]]) Try.func16 rfl rfl rfl ?_
  intro E R hR
  have ha := ha.le (hR N (by simp))
  have hb := hb.le (hR N (by simp))
  have hm := hm.le (hR N (by simp))
  change At _ _ E [R] _
  refine At.seq fun K1 hk_1 => ?_
  refine At.region ?_
  refine op_box (nxla rfl) rfl rfl rfl (fun N1 b1 B1 => ?_)
  refine op_assign (nxlf rfl) rfl rfl ?_
  refine At.opsNil ?_
  refine At.norm (hk_1 ?_)
  refine At.seq fun K2 hk_2 => ?_
  refine At.drawnS [N1, R] [8] [] [0,1,3,4,6,7,2,5,8,9,10,11] (by kernel_rfl) (by kernel_rfl) (.refl _) ?_
  refine op_fieldAddr (nxsf rfl rfl rfl) fl36_0 rfl rfl ?_
  refine op_loadB (nxsf rfl rfl rfl) sc34 rfl B1 (by first | rfl) mem0 rfl ?_
  refine op_fieldAddr (nxsf rfl rfl rfl) fl36_1 rfl rfl ?_
  refine op_loadB (nxsf rfl rfl rfl) sc34 rfl B1 (by first | rfl) mem0 rfl ?_
  refine op_fieldAddr (nxsf rfl rfl rfl) fl36_2 rfl rfl ?_
  refine op_loadB (nxsf rfl rfl rfl) sc34 rfl B1 (by first | rfl) mem0 rfl ?_
  refine op_callA (Nx.agree (nxsm rfl rfl rfl)) (.cons rfl .nil) (few_f ha) Try.func38 rfl rfl (by simp) rfl ?_
  rintro v13 L13 ⟨M13, a13, p13, rfl, rfl, r13⟩
  change At _ _ _ [M13, N1, R] _
  have s13 := r13.rsl
  refine At.moreS (Lst := [N1, R]) (Lst' := [M13, N1, R]) (.cons _ (.refl _)) (.refl _) ?_
  refine op_callA (Nx.agree (nxsm rfl rfl rfl)) (.cons rfl .nil) (few_f hb) Try.func38 rfl rfl (by simp) rfl ?_
  rintro v16 L16 ⟨M16, a16, p16, rfl, rfl, r16⟩
  change At _ _ _ [M16, M13, N1, R] _
  have s16 := r16.rsl
  refine At.moreS (Lst := [M13, N1, R]) (Lst' := [M16, M13, N1, R]) (.cons _ (.refl _)) (.refl _) ?_
  refine op_callA (Nx.agree (nxss rfl rfl rfl rfl)) (.cons rfl .nil) (few_f hm) Try.func38 rfl rfl (by simp) rfl ?_
  rintro v19 L19 ⟨M19, a19, p19, rfl, rfl, r19⟩
  change At _ _ _ [M19, M16, M13, N1, R] _
  have s19 := r19.rsl
  refine At.anyS (.refl _) ?_
  refine op_assign (nxsf rfl rfl rfl) rfl rfl ?_
  refine op_assign (nxsf rfl rfl rfl) rfl rfl ?_
  refine op_assign (nxsf rfl rfl rfl) rfl rfl ?_
  refine At.sNil ?_
  refine At.norm (hk_2 ?_)
  refine At.seq fun K3 hk_3 => ?_
  refine At.region ?_
  refine op_move (nxlf rfl) rfl rfl ?_
  refine op_move (nxlf rfl) rfl rfl ?_
  refine op_callA (nxla rfl) (.cons rfl (.cons rfl .nil)) (NAdd_f s13 s16 (by omega) (by omega)) Try.func70 rfl rfl (by simp) rfl ?_
  rintro v22 L22 ⟨M22, a22, p22, rfl, rfl, r22⟩
  change At _ _ _ [M22, M19, M16, M13, N1, R] _
  have s22 := r22.rsl; rw [hA, hB] at s22 ⊢
  refine op_assign (nxlf rfl) rfl rfl ?_
  refine At.opsNil ?_
  refine At.norm (hk_3 ?_)
  refine At.seq fun K4 hk_4 => ?_
  refine At.region ?_
  refine op_move (nxlf rfl) rfl rfl ?_
  refine op_move (nxlf rfl) rfl rfl ?_
  refine op_callA (nxla rfl) (.cons rfl (.cons rfl .nil)) (NSub_f s22 s16 (by omega) (by omega)) Try.func94 rfl rfl (by simp) rfl ?_
  rintro v26 L26 ⟨M26, a26, p26, rfl, rfl, r26⟩
  change At _ _ _ [M26, M22, M19, M16, M13, N1, R] _
  have s26 := r26.rsl; rw [be_bytesOf, hB, Nat.add_sub_cancel] at s26 ⊢; rw [decide_eq_true (show B ≤ A + B by omega)]
  refine op_move (nxlf rfl) rfl rfl ?_
  refine op_extract (nxlf rfl) rfl rfl rfl ?_
  refine op_extract (nxlf rfl) rfl rfl rfl ?_
  refine op_assign (nxlf rfl) rfl rfl ?_
  refine op_assign (nxlf rfl) rfl rfl ?_
  refine At.opsNil ?_
  refine At.norm (hk_4 ?_)
  refine At.seq fun K5 hk_5 => ?_
  refine At.seq fun K6 hk_6 => ?_
  refine At.perm sel6 ?_
  refine At.perm sel5 ?_
  refine At.perm sel5 ?_
  refine At.perm sel5 ?_
  refine At.perm sel5 ?_
  refine At.perm sel5 ?_
  refine At.perm sel6 ?_
  refine At.drawnS [N1, M26, M22, M19, M16, M13, R] [22] [3,11] [0,1,2,3,4,5,6,7,8,9,10,11,12,13,14,15,16,17,18,19,20,21,22,23,24] (by kernel_rfl) (by kernel_rfl) (.refl _) ?_
  refine op_move (nxsf rfl rfl rfl) rfl rfl ?_
  refine op_not (nxsf rfl rfl rfl) rfl rfl ?_
  refine op_move (nxsf rfl rfl rfl) rfl rfl ?_
  refine op_move (nxsgf rfl rfl rfl rfl rfl rfl) rfl rfl ?_
  refine op_str (nxsgf rfl rfl rfl rfl rfl rfl) Try.underlying34 Try.underlying5 Try.underlying9 rfl (by assumption) (by first | exact mem0 | exact mem1 | exact mem2 | exact mem3 | exact mem4 | exact mem5 | exact mem6 | exact mem7 | exact mem8 | exact mem9) rfl ?_
  refine op_move (nxsgf rfl rfl rfl rfl rfl rfl) rfl rfl ?_
  refine op_callA (Nx.agree (nxsgm rfl rfl rfl rfl rfl rfl)) (.cons rfl .nil) (NTrim_f s13 (by omega)) Try.func67 rfl rfl (by simp) rfl ?_
  rintro v35 L35 ⟨M35, a35, p35, rfl, rfl, r35⟩
  change At _ _ _ [M35, N1, M26, M22, M19, M16, M13, R] _
  have s35 := r35.rsl; rw [hA] at s35 ⊢
  refine At.moreS (Lst := [N1, M26, M22, M19, M16, M13, R]) (Lst' := [M35, N1, M26, M22, M19, M16, M13, R]) (.cons _ (.refl _)) (.refl _) ?_
  refine op_str (nxsgf rfl rfl rfl rfl rfl rfl) Try.underlying34 Try.underlying5 Try.underlying9 rfl (by assumption) (by first | exact mem0 | exact mem1 | exact mem2 | exact mem3 | exact mem4 | exact mem5 | exact mem6 | exact mem7 | exact mem8 | exact mem9) rfl ?_
  refine op_neS (nxsgf rfl rfl rfl rfl rfl rfl) rfl rfl rfl ?_
  refine op_pickF (nxsf rfl rfl rfl) rfl rfl rfl ?_
  refine op_move (nxsf rfl rfl rfl) rfl rfl ?_
  refine At.partP (d := 39) rfl (fun g39 => ?_) (fun g39 => ?_)
  · exact absurd rfl g39
  · refine op_move (nxsgf rfl rfl rfl rfl rfl rfl) rfl rfl ?_
    refine op_str (nxsgf rfl rfl rfl rfl rfl rfl) Try.underlying34 Try.underlying5 Try.underlying9 rfl (by assumption) (by first | exact mem0 | exact mem1 | exact mem2 | exact mem3 | exact mem4 | exact mem5 | exact mem6 | exact mem7 | exact mem8 | exact mem9) rfl ?_
    refine op_move (nxsgf rfl rfl rfl rfl rfl rfl) rfl rfl ?_
    refine op_move (nxsgf rfl rfl rfl rfl rfl rfl) rfl rfl ?_
    refine op_callA (Nx.agree (nxsgm rfl rfl rfl rfl rfl rfl)) (.cons rfl (.cons rfl .nil)) (NAdd_f s16 s13 (by omega) (by omega)) Try.func70 rfl rfl (by simp) rfl ?_
    rintro v44 L44 ⟨M44, a44, p44, rfl, rfl, r44⟩
    change At _ _ _ [M44, M35, N1, M26, M22, M19, M16, M13, R] _
    have s44 := r44.rsl; rw [hA, hB, Nat.add_comm B A] at s44 ⊢
    refine At.moreS (Lst := [M35, N1, M26, M22, M19, M16, M13, R]) (Lst' := [M44, M35, N1, M26, M22, M19, M16, M13, R]) (.cons _ (.refl _)) (.refl _) ?_
    refine op_str (nxsgf rfl rfl rfl rfl rfl rfl) Try.underlying34 Try.underlying5 Try.underlying9 rfl (by assumption) (by first | exact mem0 | exact mem1 | exact mem2 | exact mem3 | exact mem4 | exact mem5 | exact mem6 | exact mem7 | exact mem8 | exact mem9) rfl ?_
    refine op_neS (nxsgf rfl rfl rfl rfl rfl rfl) rfl rfl rfl ?_
    refine op_pickF (nxsf rfl rfl rfl) rfl rfl rfl ?_
    refine op_move (nxsf rfl rfl rfl) rfl rfl ?_
    refine At.partP (d := 48) rfl (fun g48 => ?_) (fun g48 => ?_)
    · exact absurd rfl g48
    · refine op_move (nxsgf rfl rfl rfl rfl rfl rfl) rfl rfl ?_
      refine op_move (nxsgf rfl rfl rfl rfl rfl rfl) rfl rfl ?_
      refine op_callA (Nx.agree (nxsgs rfl rfl rfl rfl rfl rfl rfl)) (.cons rfl (.cons rfl .nil)) (NCmp_f s22 s13 (by omega) (by omega)) Try.func75 rfl rfl (by simp) rfl ?_
      rintro v51 L51 ⟨rfl, rfl⟩
      change At _ _ _ [M44, M35, N1, M26, M22, M19, M16, M13, R] _
      rw [be_bytesOf, hA]
      refine At.anyS (.refl _) ?_
      refine op_lss (nxsgf rfl rfl rfl rfl rfl rfl) rfl rfl rfl ?_
      refine op_pickF (nxsf rfl rfl rfl) rfl rfl rfl ?_
      refine At.sNil ?_
      refine At.norm (hk_6 ?_)
      refine At.condP rfl (fun c53 => ?_) (fun c53 => ?_)
      · exact absurd (cmpN_neg.1 c53) (by omega)
      · refine At.skip ?_
        refine At.norm (hk_5 ?_)
        refine At.seq fun K7 hk_7 => ?_
        refine At.seq fun K8 hk_8 => ?_
        refine At.drawnS [N1, M26, M22, M19, M16, M13, R] [3,4,18] [0,6,7,9,10,20,21] [0,1,2,6,7,9,10,3,4,5,8,11,12,13,14,15,16,17,20,21,18,19,22,23,24,25] (by kernel_rfl) (by kernel_rfl) (.cons _ (.cons _ (.refl _))) ?_
        refine op_move (nxsf rfl rfl rfl) rfl rfl ?_
        refine op_move (nxsf rfl rfl rfl) rfl rfl ?_
        refine op_move (nxsf rfl rfl rfl) rfl rfl ?_
        refine op_move (nxsf rfl rfl rfl) rfl rfl ?_
        refine op_move (nxsf rfl rfl rfl) rfl rfl ?_
        refine op_move (nxsf rfl rfl rfl) rfl rfl ?_
        refine op_move (nxsf rfl rfl rfl) rfl rfl ?_
        refine op_callA (Nx.agree (nxss rfl rfl rfl rfl)) (.cons rfl (.cons rfl .nil)) (NAdd_f s16 s19 (by omega) (by omega)) Try.func70 rfl rfl (by simp) rfl ?_
        rintro v57 L57 ⟨M57, a57, p57, rfl, rfl, r57⟩
        change At _ _ _ [M57, M44, M35, N1, M26, M22, M19, M16, M13, R] _
        have s57 := r57.rsl; rw [hB, hC] at s57 ⊢
        refine At.anyS (.refl _) ?_
        refine op_callA (Nx.agree (nxss rfl rfl rfl rfl)) (.cons rfl (.cons rfl .nil)) (NMul_f s13 s57 (by omega) (by omega)) Try.func69 rfl rfl (by simp) rfl ?_
        rintro v58 L58 ⟨M58, a58, p58, rfl, rfl, r58⟩
        change At _ _ _ [M58, M57, M44, M35, N1, M26, M22, M19, M16, M13, R] _
        have s58 := r58.rsl; rw [hA, be_bytesOf, Nat.mul_add] at s58 ⊢
        refine At.anyS (.refl _) ?_
        refine op_str (nxsf rfl rfl rfl) Try.underlying34 Try.underlying5 Try.underlying9 rfl (by assumption) (by first | exact mem0 | exact mem1 | exact mem2 | exact mem3 | exact mem4 | exact mem5 | exact mem6 | exact mem7 | exact mem8 | exact mem9 | exact mem10) rfl ?_
        refine op_callA (Nx.agree (nxsm rfl rfl rfl)) (.cons rfl (.cons rfl .nil)) (NMul_f s13 s16 (by omega) (by omega)) Try.func69 rfl rfl (by simp) rfl ?_
        rintro v62 L62 ⟨M62, a62, p62, rfl, rfl, r62⟩
        change At _ _ _ [M62, M58, M57, M44, M35, N1, M26, M22, M19, M16, M13, R] _
        have s62 := r62.rsl; rw [hA, hB] at s62 ⊢
        refine At.moreS (Lst := [M58, M57, M44, M35, N1, M26, M22, M19, M16, M13, R]) (Lst' := [M62, M58, M57, M44, M35, N1, M26, M22, M19, M16, M13, R]) (.cons _ (.refl _)) (.refl _) ?_
        refine op_callA (Nx.agree (nxsm rfl rfl rfl)) (.cons rfl (.cons rfl .nil)) (NMul_f s13 s19 (by omega) (by omega)) Try.func69 rfl rfl (by simp) rfl ?_
        rintro v65 L65 ⟨M65, a65, p65, rfl, rfl, r65⟩
        change At _ _ _ [M65, M62, M58, M57, M44, M35, N1, M26, M22, M19, M16, M13, R] _
        have s65 := r65.rsl; rw [hA, hC] at s65 ⊢
        refine At.moreS (Lst := [M62, M58, M57, M44, M35, N1, M26, M22, M19, M16, M13, R]) (Lst' := [M65, M62, M58, M57, M44, M35, N1, M26, M22, M19, M16, M13, R]) (.cons _ (.refl _)) (.refl _) ?_
        refine op_callA (Nx.agree (nxsm rfl rfl rfl)) (.cons rfl (.cons rfl .nil)) (NAdd_f s62 s65 (by omega) (by omega)) Try.func70 rfl rfl (by simp) rfl ?_
        rintro v66 L66 ⟨M66, a66, p66, rfl, rfl, r66⟩
        change At _ _ _ [M66, M65, M62, M58, M57, M44, M35, N1, M26, M22, M19, M16, M13, R] _
        have s66 := r66.rsl; rw [be_bytesOf, be_bytesOf] at s66 ⊢
        refine At.moreS (Lst := [M65, M62, M58, M57, M44, M35, N1, M26, M22, M19, M16, M13, R]) (Lst' := [M66, M65, M62, M58, M57, M44, M35, N1, M26, M22, M19, M16, M13, R]) (.cons _ (.refl _)) (.refl _) ?_
        refine op_str (nxsf rfl rfl rfl) Try.underlying34 Try.underlying5 Try.underlying9 rfl (by assumption) (by first | exact mem0 | exact mem1 | exact mem2 | exact mem3 | exact mem4 | exact mem5 | exact mem6 | exact mem7 | exact mem8 | exact mem9 | exact mem10 | exact mem11 | exact mem12 | exact mem13) rfl ?_
        refine op_neS (nxsf rfl rfl rfl) rfl rfl rfl ?_
        refine op_move (nxsf rfl rfl rfl) rfl rfl ?_
        refine At.partP (d := 69) rfl (fun g69 => ?_) (fun g69 => ?_)
        · exact absurd rfl g69
        · refine op_move (nxsgf rfl rfl rfl rfl rfl rfl) rfl rfl ?_
          refine op_move (nxsgf rfl rfl rfl rfl rfl rfl) rfl rfl ?_
          refine op_move (nxsgf rfl rfl rfl rfl rfl rfl) rfl rfl ?_
          refine op_move (nxsgf rfl rfl rfl rfl rfl rfl) rfl rfl ?_
          refine op_callA (Nx.agree (nxsgs rfl rfl rfl rfl rfl rfl rfl)) (.cons rfl (.cons rfl .nil)) (NMul_f s13 s16 (by omega) (by omega)) Try.func69 rfl rfl (by simp) rfl ?_
          rintro v72 L72 ⟨M72, a72, p72, rfl, rfl, r72⟩
          change At _ _ _ [M72, M66, M65, M62, M58, M57, M44, M35, N1, M26, M22, M19, M16, M13, R] _
          have s72 := r72.rsl; rw [hA, hB] at s72 ⊢
          refine At.anyS (.refl _) ?_
          refine op_str (nxsgf rfl rfl rfl rfl rfl rfl) Try.underlying34 Try.underlying5 Try.underlying9 rfl (by assumption) (by first | exact mem0 | exact mem1 | exact mem2 | exact mem3 | exact mem4 | exact mem5 | exact mem6 | exact mem7 | exact mem8 | exact mem9 | exact mem10 | exact mem11 | exact mem12 | exact mem13 | exact mem14) rfl ?_
          refine op_callA (Nx.agree (nxsgm rfl rfl rfl rfl rfl rfl)) (.cons rfl (.cons rfl .nil)) (NMul_f s16 s13 (by omega) (by omega)) Try.func69 rfl rfl (by simp) rfl ?_
          rintro v76 L76 ⟨M76, a76, p76, rfl, rfl, r76⟩
          change At _ _ _ [M76, M72, M66, M65, M62, M58, M57, M44, M35, N1, M26, M22, M19, M16, M13, R] _
          have s76 := r76.rsl; rw [hA, hB, Nat.mul_comm B A] at s76 ⊢
          refine At.moreS (Lst := [M72, M66, M65, M62, M58, M57, M44, M35, N1, M26, M22, M19, M16, M13, R]) (Lst' := [M76, M72, M66, M65, M62, M58, M57, M44, M35, N1, M26, M22, M19, M16, M13, R]) (.cons _ (.refl _)) (.refl _) ?_
          refine op_str (nxsgf rfl rfl rfl rfl rfl rfl) Try.underlying34 Try.underlying5 Try.underlying9 rfl (by assumption) (by first | exact mem0 | exact mem1 | exact mem2 | exact mem3 | exact mem4 | exact mem5 | exact mem6 | exact mem7 | exact mem8 | exact mem9 | exact mem10 | exact mem11 | exact mem12 | exact mem13 | exact mem14 | exact mem15) rfl ?_
          refine op_neS (nxsgf rfl rfl rfl rfl rfl rfl) rfl rfl rfl ?_
          refine op_pickF (nxsf rfl rfl rfl) rfl rfl rfl ?_
          refine At.sNil ?_
          refine At.norm (hk_8 ?_)
          refine At.condP rfl (fun c79 => ?_) (fun c79 => ?_)
          · exact absurd rfl c79
          · refine At.skip ?_
            refine At.norm (hk_7 ?_)
            refine At.seq fun K9 hk_9 => ?_
            refine At.region ?_
            refine op_move (nxlf rfl) rfl rfl ?_
            refine op_move (nxlf rfl) rfl rfl ?_
            refine op_callA (nxla rfl) (.cons rfl (.cons rfl .nil)) (NDivMod_f s13 s16 (by omega) (by omega) (by rw [hB]; exact hcase)) Try.func39 rfl rfl (by simp) rfl ?_
            rintro v83 L83 ⟨Mq, pq, cq, Mr, pr, cr, rfl, rfl, rq, rr⟩
            change At _ _ _ [Mq, Mr, M76, M72, M66, M65, M62, M58, M57, M44, M35, N1, M26, M22, M19, M16, M13, R] _
            have sq := rq.rsl; have sr := rr.rsl; rw [hA, hB] at sq sr ⊢
            refine op_move (nxlf rfl) rfl rfl ?_
            refine op_extract (nxlf rfl) rfl rfl rfl ?_
            refine op_extract (nxlf rfl) rfl rfl rfl ?_
            refine op_extract (nxlf rfl) rfl rfl rfl ?_
            refine op_assign (nxlf rfl) rfl rfl ?_
            refine op_assign (nxlf rfl) rfl rfl ?_
            refine op_assign (nxlf rfl) rfl rfl ?_
            refine At.opsNil ?_
            refine At.norm (hk_9 ?_)
            refine At.seq fun K10 hk_10 => ?_
            refine At.seq fun K11 hk_11 => ?_
            refine At.region ?_
            refine op_move (nxlf rfl) rfl rfl ?_
            refine op_not (nxlf rfl) rfl rfl ?_
            refine At.opsNil ?_
            refine At.norm (hk_11 ?_)
            refine At.condF rfl ?_
            refine At.skip ?_
            refine At.norm (hk_10 ?_)
            refine At.seq fun K12 hk_12 => ?_
            refine At.perm sel17 ?_
            refine At.perm sel17 ?_
            refine At.perm sel17 ?_
            refine At.perm sel17 ?_
            refine At.perm sel5 ?_
            refine At.perm sel5 ?_
            refine At.perm sel17 ?_
            refine At.perm sel17 ?_
            refine At.perm sel17 ?_
            refine At.perm sel17 ?_
            refine At.perm sel17 ?_
            refine At.perm sel17 ?_
            refine At.perm sel17 ?_
            refine At.perm sel17 ?_
            refine At.perm sel17 ?_
            refine At.perm sel17 ?_
            refine At.perm sel17 ?_
            refine At.perm sel17 ?_
            refine At.drawnS [Mq, Mr, M19, M16, M13, R] [2,4,13,17] [3,6] [0,1,3,6,2,4,5,7,8,9,10,11,12,13,14,15,16,17,18,19] (by kernel_rfl) (by kernel_rfl) (.cons _ (.cons _ (.cons _ (.cons _ (.cons _ (.cons _ (.cons _ (.cons _ (.cons _ (.cons _ (.cons _ (.cons _ (.refl _))))))))))))) ?_
            refine op_move (nxsf rfl rfl rfl) rfl rfl ?_
            refine op_move (nxsf rfl rfl rfl) rfl rfl ?_
            refine op_move (nxsf rfl rfl rfl) rfl rfl ?_
            refine op_move (nxsf rfl rfl rfl) rfl rfl ?_
            refine op_callA (Nx.agree (nxss rfl rfl rfl rfl)) (.cons rfl (.cons rfl .nil)) (NMul_f sq s16 (by omega) (by omega)) Try.func69 rfl rfl (by simp) rfl ?_
            rintro v98 L98 ⟨M98, a98, p98, rfl, rfl, r98⟩
            change At _ _ _ [M98, M76, M72, M66, M65, M62, M58, M57, M44, M35, N1, M26, M22, Mq, Mr, M19, M16, M13, R] _
            have s98 := r98.rsl; rw [be_bytesOf, hB] at s98 ⊢
            refine At.anyS (.refl _) ?_
            refine op_callA (Nx.agree (nxss rfl rfl rfl rfl)) (.cons rfl (.cons rfl .nil)) (NAdd_f s98 sr (by omega) (by omega)) Try.func70 rfl rfl (by simp) rfl ?_
            rintro v100 L100 ⟨M100, a100, p100, rfl, rfl, r100⟩
            change At _ _ _ [M100, M98, M76, M72, M66, M65, M62, M58, M57, M44, M35, N1, M26, M22, Mq, Mr, M19, M16, M13, R] _
            have s100 := r100.rsl; rw [be_bytesOf, be_bytesOf, Nat.div_add_mod'] at s100 ⊢
            refine At.anyS (.refl _) ?_
            refine op_str (nxsf rfl rfl rfl) Try.underlying34 Try.underlying5 Try.underlying9 rfl (by assumption) (by first | exact mem0 | exact mem1 | exact mem2 | exact mem3 | exact mem4 | exact mem5 | exact mem6 | exact mem7 | exact mem8 | exact mem9 | exact mem10 | exact mem11 | exact mem12 | exact mem13 | exact mem14 | exact mem15 | exact mem16 | exact mem17 | exact mem18 | exact mem19) rfl ?_
            refine op_callA (Nx.agree (nxsm rfl rfl rfl)) (.cons rfl .nil) (NTrim_f s13 (by omega)) Try.func67 rfl rfl (by simp) rfl ?_
            rintro v103 L103 ⟨M103, a103, p103, rfl, rfl, r103⟩
            change At _ _ _ [M103, M100, M98, M76, M72, M66, M65, M62, M58, M57, M44, M35, N1, M26, M22, Mq, Mr, M19, M16, M13, R] _
            have s103 := r103.rsl; rw [hA] at s103 ⊢
            refine At.moreS (Lst := [M100, M98, M76, M72, M66, M65, M62, M58, M57, M44, M35, N1, M26, M22, Mq, Mr, M19, M16, M13, R]) (Lst' := [M103, M100, M98, M76, M72, M66, M65, M62, M58, M57, M44, M35, N1, M26, M22, Mq, Mr, M19, M16, M13, R]) (.cons _ (.refl _)) (.refl _) ?_
            refine op_str (nxsf rfl rfl rfl) Try.underlying34 Try.underlying5 Try.underlying9 rfl (by assumption) (by first | exact mem0 | exact mem1 | exact mem2 | exact mem3 | exact mem4 | exact mem5 | exact mem6 | exact mem7 | exact mem8 | exact mem9 | exact mem10 | exact mem11 | exact mem12 | exact mem13 | exact mem14 | exact mem15 | exact mem16 | exact mem17 | exact mem18 | exact mem19 | exact mem20) rfl ?_
            refine op_eqS (nxsf rfl rfl rfl) rfl rfl rfl ?_
            refine op_move (nxsf rfl rfl rfl) rfl rfl ?_
            refine At.partP (d := 106) rfl (fun g106 => ?_) (fun g106 => ?_)
            · refine op_move (nxsgf rfl rfl rfl rfl rfl rfl) rfl rfl ?_
              refine op_move (nxsgf rfl rfl rfl rfl rfl rfl) rfl rfl ?_
              refine op_callA (Nx.agree (nxsgs rfl rfl rfl rfl rfl rfl rfl)) (.cons rfl (.cons rfl .nil)) (NCmp_f sr s16 (by omega) (by omega)) Try.func75 rfl rfl (by simp) rfl ?_
              rintro v109 L109 ⟨rfl, rfl⟩
              change At _ _ _ [M103, M100, M98, M76, M72, M66, M65, M62, M58, M57, M44, M35, N1, M26, M22, Mq, Mr, M19, M16, M13, R] _
              rw [be_bytesOf, hB]
              refine At.anyS (.refl _) ?_
              refine op_lss (nxsgf rfl rfl rfl rfl rfl rfl) rfl rfl rfl ?_
              refine op_pickT (nxsf rfl rfl rfl) rfl rfl rfl ?_
              refine op_move (nxsf rfl rfl rfl) rfl rfl ?_
              refine At.partP (d := 112) rfl (fun g112 => ?_) (fun g112 => ?_)
              · refine op_callA (Nx.agree (nxsgs rfl rfl rfl rfl rfl rfl rfl)) .nil (Nwakes_f) Try.func40 rfl rfl (by simp) rfl ?_
                rintro v113 L113 ⟨rfl, rfl⟩
                change At _ _ _ [M103, M100, M98, M76, M72, M66, M65, M62, M58, M57, M44, M35, N1, M26, M22, Mq, Mr, M19, M16, M13, R] _
                refine At.anyS (.refl _) ?_
                refine op_pickT (nxsf rfl rfl rfl) rfl rfl rfl ?_
                refine op_assign (nxsf rfl rfl rfl) rfl rfl ?_
                refine At.sNil ?_
                refine At.norm (hk_12 ?_)
                refine At.ret (?_)
                refine At.sub (L' := [R]) (.cons _ (.cons _ (.cons _ (.cons _ (.cons _ (.cons _ (.cons _ (.cons _ (.cons _ (.cons _ (.cons _ (.cons _ (.cons _ (.cons _ (.cons _ (.cons _ (.cons _ (.cons _ (.cons _ (.cons _ (.cons_cons _ (.slnil)))))))))))))))))))))) ?_
                refine At.ret1 (L1 := []) rfl (.tmp rfl .nil) (.refl _) (.refl _) ?_
                exact ⟨rfl, rfl⟩
              · exact absurd (cmpN_neg.2 (Nat.mod_lt _ hcase)) g112
            · exact absurd rfl g106
theorem NatWhole_f (ha : RSl N 1 ao n ca (u8s a)) (hb : RSl N 1 bo m cb (u8s b)) (hm : RSl N 1 mo k cm (u8s l)) :
    Fn Try.prog 16 #[.agg #[.slice ao n ca, .slice bo m cb, .slice mo k cm, .int .i64 I, .int .i64 W]] [] [N] (fun v L => v = .bool true ∧ L = []) := by
  rcases Nat.eq_zero_or_pos (be (b.take 600)) with h | h
  · exact NatWhole_z ha hb hm h
  · exact NatWhole_p ha hb hm h
end
end Go.Proofs.Ytefljbbpaideaaa
