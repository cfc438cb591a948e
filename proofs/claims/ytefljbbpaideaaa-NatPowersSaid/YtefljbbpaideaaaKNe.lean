/- quarrylaw02.NatPowers answers true. No condition. -/
import Derived.Test.YtefljbbpaideaaaKNd
namespace Go.Proofs.Ytefljbbpaideaaa
set_option linter.unusedVariables false
set_option linter.unusedSimpArgs false
open Go Go.RowKit
section
variable {N : Heaplet} {ao bo mo : Option Addr} {n m k ca cb cm : Nat} {a b l : List UInt8} {I W : Int}
set_option maxRecDepth 100000 in
set_option maxHeartbeats 1000000 in
theorem NatPowers_z (ha : RSl N 1 ao n ca (u8s a)) (hb : RSl N 1 bo m cb (u8s b)) (hm : RSl N 1 mo k cm (u8s l)) (hcase : be (l.take 80) = 0) :
    Fn Try.prog 7 #[.agg #[.slice ao n ca, .slice bo m cb, .slice mo k cm, .int .i64 I, .int .i64 W]] [] [N] (fun v L => v = .bool true ∧ L = []) := by
  have ha6 : (a.take 80).length ≤ 80 := by rw [List.length_take]; omega
  have hb6 : (b.take 40).length ≤ 40 := by rw [List.length_take]; omega
  have hm6 : (l.take 80).length ≤ 80 := by rw [List.length_take]; omega
  have hz := digs_zero.2 hcase
  refine Fn.enter (vs := [.agg #[.slice ao n ca, .slice bo m cb, .slice mo k cm, .int .i64 I, .int .i64 W]]) Try.func7 rfl rfl rfl ?_
  intro E R hR
  have ha := ha.le (hR N (by simp))
  have hb := hb.le (hR N (by simp))
  have hm := hm.le (hR N (by simp))
  change At _ _ E [R] _
  refine At.seq fun K1 hk_1 => ?_
  refine At.region ?_
  refine op_box (nxla rfl) rfl rfl rfl (fun N1 b1 B1 => ?_)
  refine op_assign (nxlf rfl) rfl rfl ?_
  refine At.opsNil ?_
  refine At.norm (hk_1 ?_)
  refine At.seq fun K2 hk_2 => ?_
  refine At.region ?_
  refine op_fieldAddr (nxlf rfl) fl36_0 rfl rfl ?_
  refine op_loadB (nxlf rfl) sc34 rfl B1 (by first | rfl) mem0 rfl ?_
  refine op_callA (nxla rfl) (.cons rfl (.cons rfl .nil)) (KTwin_f ha 80 80 rfl (by decide)) Try.func43 rfl rfl (by simp) rfl ?_
  rintro v10 L10 ⟨M10, a10, p10, rfl, rfl, r10⟩
  change At _ _ _ [M10, N1, R] _
  have s10 := r10.rsl
  refine op_assign (nxlf rfl) rfl rfl ?_
  refine At.opsNil ?_
  refine At.norm (hk_2 ?_)
  refine At.seq fun K3 hk_3 => ?_
  refine At.region ?_
  refine op_fieldAddr (nxlf rfl) fl36_1 rfl rfl ?_
  refine op_loadB (nxlf rfl) sc34 rfl B1 (by first | rfl) mem1 rfl ?_
  refine op_callA (nxla rfl) (.cons rfl (.cons rfl .nil)) (KTwin_f hb 40 40 rfl (by decide)) Try.func43 rfl rfl (by simp) rfl ?_
  rintro v13 L13 ⟨M13, a13, p13, rfl, rfl, r13⟩
  change At _ _ _ [M13, M10, N1, R] _
  have s13 := r13.rsl
  refine op_assign (nxlf rfl) rfl rfl ?_
  refine At.opsNil ?_
  refine At.norm (hk_3 ?_)
  refine At.seq fun K4 hk_4 => ?_
  refine At.region ?_
  refine op_fieldAddr (nxlf rfl) fl36_2 rfl rfl ?_
  refine op_loadB (nxlf rfl) sc34 rfl B1 (by first | rfl) mem2 rfl ?_
  refine op_callA (nxla rfl) (.cons rfl (.cons rfl .nil)) (KTwin_f hm 80 80 rfl (by decide)) Try.func43 rfl rfl (by simp) rfl ?_
  rintro v16 L16 ⟨M16, a16, p16, rfl, rfl, r16⟩
  change At _ _ _ [M16, M13, M10, N1, R] _
  have s16 := r16.rsl
  refine op_assign (nxlf rfl) rfl rfl ?_
  refine At.opsNil ?_
  refine At.norm (hk_4 ?_)
  refine At.seq fun K5 hk_5 => ?_
  refine At.region ?_
  refine op_move (nxlf rfl) rfl rfl ?_
  refine op_callA (nxla rfl) (.cons rfl (.cons rfl .nil)) (KTwin_all s10 80 80 rfl (by decide) ha6) Try.func43 rfl rfl (by simp) rfl ?_
  rintro v18 L18 ⟨M18, a18, p18, rfl, rfl, r18⟩
  change At _ _ _ [M18, M16, M13, M10, N1, R] _
  have s18 := r18.rsl
  refine op_move (nxlf rfl) rfl rfl ?_
  refine op_callA (nxla rfl) (.cons rfl (.cons rfl .nil)) (KTwin_all s13 80 80 rfl (by decide) (by omega)) Try.func43 rfl rfl (by simp) rfl ?_
  rintro v20 L20 ⟨M20, a20, p20, rfl, rfl, r20⟩
  change At _ _ _ [M20, M18, M16, M13, M10, N1, R] _
  have s20 := r20.rsl
  refine op_move (nxlf rfl) rfl rfl ?_
  refine op_callA (nxla rfl) (.cons rfl (.cons rfl .nil)) (KTwin_all s16 80 80 rfl (by decide) hm6) Try.func43 rfl rfl (by simp) rfl ?_
  rintro v22 L22 ⟨M22, a22, p22, rfl, rfl, r22⟩
  change At _ _ _ [M22, M20, M18, M16, M13, M10, N1, R] _
  have s22 := r22.rsl
  refine op_callA (nxla rfl) (.cons rfl (.cons rfl (.cons rfl .nil))) (NModExp_0 s22 s20 (by omega) (by omega) hcase) Try.func44 rfl rfl (by simp) rfl ?_
  rintro v23 L23 ⟨rfl, rfl⟩
  change At _ _ _ [M22, M20, M18, M16, M13, M10, N1, R] _
  refine op_assign (nxlf rfl) rfl rfl ?_
  refine At.opsNil ?_
  refine At.norm (hk_5 ?_)
  refine At.seq fun K6 hk_6 => ?_
  refine At.region ?_
  refine op_move (nxlf rfl) rfl rfl ?_
  refine op_callA (nxla rfl) (.cons rfl .nil) (rFrom_f s16 (by omega)) Try.func37 rfl rfl (by simp) rfl ?_
  rintro v25 L25 ⟨M25, a25, p25, rfl, rfl, s25⟩
  change At _ _ _ [M25, M22, M20, M18, M16, M13, M10, N1, R] _
  refine op_assign (nxlf rfl) rfl rfl ?_
  refine At.opsNil ?_
  refine At.norm (hk_6 ?_)
  refine At.seq fun K7 hk_7 => ?_
  refine At.seq fun K8 hk_8 => ?_
  refine At.region ?_
  refine op_move (nxlf rfl) rfl rfl ?_
  refine op_lenS (nxlf rfl) se38 rfl rfl ?_
  refine op_eql (nxlf rfl) rfl rfl rfl ?_
  refine At.opsNil ?_
  refine At.norm (hk_8 ?_)
  refine At.condP rfl (fun c28 => ?_) (fun c28 => ?_)
  · refine At.seq fun K9 hk_9 => ?_
    refine At.region ?_
    refine op_move (nxlf rfl) rfl rfl ?_
    refine op_lenS (nxlf rfl) se34 rfl rfl ?_
    refine op_eql (nxlf rfl) rfl rfl rfl ?_
    refine op_move (nxlf rfl) rfl rfl ?_
    refine At.partP (d := 32) rfl (fun g32 => ?_) (fun g32 => ?_)
    · refine op_callA (nxga rfl rfl rfl rfl) .nil (Nwakes_f) Try.func40 rfl rfl (by simp) rfl ?_
      rintro v33 L33 ⟨rfl, rfl⟩
      change At _ _ _ [M25, M22, M20, M18, M16, M13, M10, N1, R] _
      refine op_pickT (nxlf rfl) rfl rfl rfl ?_
      refine op_assign (nxlf rfl) rfl rfl ?_
      refine At.opsNil ?_
      refine At.norm (hk_9 ?_)
      refine At.ret (At.thenRet (?_))
      refine At.sub (L' := [R]) (.cons _ (.cons _ (.cons _ (.cons _ (.cons _ (.cons _ (.cons _ (.cons _ (.cons_cons _ (.slnil)))))))))) ?_
      refine At.ret1 (L1 := []) rfl (.tmp rfl .nil) (.refl _) (.refl _) ?_
      exact ⟨rfl, rfl⟩
    · exact absurd rfl g32
  · exfalso; omega
set_option maxRecDepth 100000 in
set_option maxHeartbeats 1000000 in
theorem NatPowers_p (ha : RSl N 1 ao n ca (u8s a)) (hb : RSl N 1 bo m cb (u8s b)) (hm : RSl N 1 mo k cm (u8s l)) (hcase : 0 < be (l.take 80)) :
    Fn Try.prog 7 #[.agg #[.slice ao n ca, .slice bo m cb, .slice mo k cm, .int .i64 I, .int .i64 W]] [] [N] (fun v L => v = .bool true ∧ L = []) := by
  have ha6 : (a.take 80).length ≤ 80 := by rw [List.length_take]; omega
  have hb6 : (b.take 40).length ≤ 40 := by rw [List.length_take]; omega
  have hm6 : (l.take 80).length ≤ 80 := by rw [List.length_take]; omega
  have hda := digs_be_len (a.take 80)
  have hdb := digs_be_len (b.take 40)
  have hdm := digs_be_len (l.take 80)
  have hz : (digsOf (be (l.take 80))).length ≠ 0 := fun h => by have := digs_zero.1 h; omega
  have hr : (digsOf (be (a.take 80) ^ be (b.take 40) % be (l.take 80))).length ≤ (digsOf (be (l.take 80))).length := digs_mono (Nat.le_of_lt (Nat.mod_lt _ hcase))
  refine Fn.enter (vs := [.agg #[.slice ao n ca, .slice bo m cb, .slice mo k cm, .int .i64 I, .int .i64 W]]) Try.func7 rfl rfl rfl ?_
  intro E R hR
  have ha := ha.le (hR N (by simp))
  have hb := hb.le (hR N (by simp))
  have hm := hm.le (hR N (by simp))
  change At _ _ E [R] _
  refine At.seq fun K1 hk_1 => ?_
  refine At.region ?_
  refine op_box (nxla rfl) rfl rfl rfl (fun N1 b1 B1 => ?_)
  refine op_assign (nxlf rfl) rfl rfl ?_
  refine At.opsNil ?_
  refine At.norm (hk_1 ?_)
  refine At.seq fun K2 hk_2 => ?_
  refine At.region ?_
  refine op_fieldAddr (nxlf rfl) fl36_0 rfl rfl ?_
  refine op_loadB (nxlf rfl) sc34 rfl B1 (by first | rfl) mem0 rfl ?_
  refine op_callA (nxla rfl) (.cons rfl (.cons rfl .nil)) (KTwin_f ha 80 80 rfl (by decide)) Try.func43 rfl rfl (by simp) rfl ?_
  rintro v10 L10 ⟨M10, a10, p10, rfl, rfl, r10⟩
  change At _ _ _ [M10, N1, R] _
  have s10 := r10.rsl
  refine op_assign (nxlf rfl) rfl rfl ?_
  refine At.opsNil ?_
  refine At.norm (hk_2 ?_)
  refine At.seq fun K3 hk_3 => ?_
  refine At.region ?_
  refine op_fieldAddr (nxlf rfl) fl36_1 rfl rfl ?_
  refine op_loadB (nxlf rfl) sc34 rfl B1 (by first | rfl) mem1 rfl ?_
  refine op_callA (nxla rfl) (.cons rfl (.cons rfl .nil)) (KTwin_f hb 40 40 rfl (by decide)) Try.func43 rfl rfl (by simp) rfl ?_
  rintro v13 L13 ⟨M13, a13, p13, rfl, rfl, r13⟩
  change At _ _ _ [M13, M10, N1, R] _
  have s13 := r13.rsl
  refine op_assign (nxlf rfl) rfl rfl ?_
  refine At.opsNil ?_
  refine At.norm (hk_3 ?_)
  refine At.seq fun K4 hk_4 => ?_
  refine At.region ?_
  refine op_fieldAddr (nxlf rfl) fl36_2 rfl rfl ?_
  refine op_loadB (nxlf rfl) sc34 rfl B1 (by first | rfl) mem2 rfl ?_
  refine op_callA (nxla rfl) (.cons rfl (.cons rfl .nil)) (KTwin_f hm 80 80 rfl (by decide)) Try.func43 rfl rfl (by simp) rfl ?_
  rintro v16 L16 ⟨M16, a16, p16, rfl, rfl, r16⟩
  change At _ _ _ [M16, M13, M10, N1, R] _
  have s16 := r16.rsl
  refine op_assign (nxlf rfl) rfl rfl ?_
  refine At.opsNil ?_
  refine At.norm (hk_4 ?_)
  refine At.seq fun K5 hk_5 => ?_
  refine At.region ?_
  refine op_move (nxlf rfl) rfl rfl ?_
  refine op_callA (nxla rfl) (.cons rfl (.cons rfl .nil)) (KTwin_all s10 80 80 rfl (by decide) ha6) Try.func43 rfl rfl (by simp) rfl ?_
  rintro v18 L18 ⟨M18, a18, p18, rfl, rfl, r18⟩
  change At _ _ _ [M18, M16, M13, M10, N1, R] _
  have s18 := r18.rsl
  refine op_move (nxlf rfl) rfl rfl ?_
  refine op_callA (nxla rfl) (.cons rfl (.cons rfl .nil)) (KTwin_all s13 80 80 rfl (by decide) (by omega)) Try.func43 rfl rfl (by simp) rfl ?_
  rintro v20 L20 ⟨M20, a20, p20, rfl, rfl, r20⟩
  change At _ _ _ [M20, M18, M16, M13, M10, N1, R] _
  have s20 := r20.rsl
  refine op_move (nxlf rfl) rfl rfl ?_
  refine op_callA (nxla rfl) (.cons rfl (.cons rfl .nil)) (KTwin_all s16 80 80 rfl (by decide) hm6) Try.func43 rfl rfl (by simp) rfl ?_
  rintro v22 L22 ⟨M22, a22, p22, rfl, rfl, r22⟩
  change At _ _ _ [M22, M20, M18, M16, M13, M10, N1, R] _
  have s22 := r22.rsl
  refine op_callA (nxla rfl) (.cons rfl (.cons rfl (.cons rfl .nil))) (NModExp_f s18 s20 s22 (by omega) (by omega) (by omega) hcase) Try.func44 rfl rfl (by simp) rfl ?_
  rintro v23 L23 ⟨M23, a23, p23, rfl, rfl, r23⟩
  change At _ _ _ [M23, M22, M20, M18, M16, M13, M10, N1, R] _
  have s23 := r23.rsl
  refine op_assign (nxlf rfl) rfl rfl ?_
  refine At.opsNil ?_
  refine At.norm (hk_5 ?_)
  refine At.seq fun K6 hk_6 => ?_
  refine At.region ?_
  refine op_move (nxlf rfl) rfl rfl ?_
  refine op_callA (nxla rfl) (.cons rfl .nil) (rFrom_f s16 (by omega)) Try.func37 rfl rfl (by simp) rfl ?_
  rintro v25 L25 ⟨M25, a25, p25, rfl, rfl, s25⟩
  change At _ _ _ [M25, M23, M22, M20, M18, M16, M13, M10, N1, R] _
  refine op_assign (nxlf rfl) rfl rfl ?_
  refine At.opsNil ?_
  refine At.norm (hk_6 ?_)
  refine At.seq fun K7 hk_7 => ?_
  refine At.seq fun K8 hk_8 => ?_
  refine At.region ?_
  refine op_move (nxlf rfl) rfl rfl ?_
  refine op_lenS (nxlf rfl) se38 rfl rfl ?_
  refine op_eql (nxlf rfl) rfl rfl rfl ?_
  refine At.opsNil ?_
  refine At.norm (hk_8 ?_)
  refine At.condP rfl (fun c28 => ?_) (fun c28 => ?_)
  · exfalso; omega
  · refine At.skip ?_
    refine At.norm (hk_7 ?_)
    refine At.seq fun K9 hk_9 => ?_
    refine At.perm sel9 ?_
    refine At.perm sel8 ?_
    refine At.perm sel8 ?_
    refine At.perm sel8 ?_
    refine At.perm sel5 ?_
    refine At.perm sel5 ?_
    refine At.perm sel9 ?_
    refine At.perm sel9 ?_
    refine At.perm sel9 ?_
    refine At.perm sel9 ?_
    refine At.drawnS [M25, M23, M16, M13, M10, R] [12] [0,4,6] [0,1,2,4,6,3,5,7,8,9,10,11,12,13,14] (by kernel_rfl) (by kernel_rfl) (.cons _ (.cons _ (.cons _ (.cons _ (.refl _))))) ?_
    refine op_move (nxsf rfl rfl rfl) rfl rfl ?_
    refine op_str (nxsf rfl rfl rfl) Try.underlying34 Try.underlying5 Try.underlying9 rfl (by assumption) (by first | exact mem0 | exact mem1 | exact mem2 | exact mem3 | exact mem4 | exact mem5 | exact mem6 | exact mem7 | exact mem8 | exact mem9) rfl ?_
    refine op_move (nxsf rfl rfl rfl) rfl rfl ?_
    refine op_move (nxsf rfl rfl rfl) rfl rfl ?_
    refine op_move (nxsf rfl rfl rfl) rfl rfl ?_
    refine op_callA (Nx.agree (nxsm rfl rfl rfl)) (.cons rfl .nil) (rFrom_f s10 (by omega)) Try.func37 rfl rfl (by simp) rfl ?_
    rintro v38 L38 ⟨M38, a38, p38, rfl, rfl, s38⟩
    change At _ _ _ [M38, M22, M20, M18, N1, M25, M23, M16, M13, M10, R] _
    refine At.perm sel10 ?_
    refine At.perm sel10 ?_
    refine At.perm sel10 ?_
    refine At.perm sel10 ?_
    refine At.perm sel10 ?_
    refine At.perm sel10 ?_
    refine At.perm sel6 ?_
    refine At.perm sel10 ?_
    refine At.perm sel10 ?_
    refine At.perm sel10 ?_
    refine At.perm sel10 ?_
    refine At.moreS (Lst := [M25, M23, M16, M13, M10, R]) (Lst' := [M38, M25, M23, M16, M13, M10, R]) (.cons _ (.refl _)) (.cons _ (.cons _ (.cons _ (.cons _ (.refl _))))) ?_
    refine op_callA (Nx.agree (nxsm rfl rfl rfl)) (.cons rfl .nil) (rFrom_f s13 (by omega)) Try.func37 rfl rfl (by simp) rfl ?_
    rintro v40 L40 ⟨M40, a40, p40, rfl, rfl, s40⟩
    change At _ _ _ [M40, M22, M20, M18, N1, M38, M25, M23, M16, M13, M10, R] _
    refine At.perm sel11 ?_
    refine At.perm sel11 ?_
    refine At.perm sel11 ?_
    refine At.perm sel11 ?_
    refine At.perm sel11 ?_
    refine At.perm sel11 ?_
    refine At.perm sel11 ?_
    refine At.perm sel7 ?_
    refine At.perm sel11 ?_
    refine At.perm sel11 ?_
    refine At.perm sel11 ?_
    refine At.perm sel11 ?_
    refine At.moreS (Lst := [M38, M25, M23, M16, M13, M10, R]) (Lst' := [M40, M38, M25, M23, M16, M13, M10, R]) (.cons _ (.refl _)) (.cons _ (.cons _ (.cons _ (.cons _ (.refl _))))) ?_
    refine op_callA (Nx.agree (nxsm rfl rfl rfl)) (.cons rfl (.cons rfl (.cons rfl .nil))) (rModExp_f s38 s40 s25 (by omega) (by omega) (by omega) hcase) Try.func45 rfl rfl (by simp) rfl ?_
    rintro v42 L42 ⟨M42, a42, p42, rfl, rfl, s42⟩
    change At _ _ _ [M42, M22, M20, M18, N1, M40, M38, M25, M23, M16, M13, M10, R] _
    refine At.perm sel12 ?_
    refine At.perm sel12 ?_
    refine At.perm sel12 ?_
    refine At.perm sel12 ?_
    refine At.perm sel12 ?_
    refine At.perm sel12 ?_
    refine At.perm sel12 ?_
    refine At.perm sel12 ?_
    refine At.perm sel8 ?_
    refine At.perm sel12 ?_
    refine At.perm sel12 ?_
    refine At.perm sel12 ?_
    refine At.perm sel12 ?_
    refine At.moreS (Lst := [M40, M38, M25, M23, M16, M13, M10, R]) (Lst' := [M42, M40, M38, M25, M23, M16, M13, M10, R]) (.cons _ (.refl _)) (.cons _ (.cons _ (.cons _ (.cons _ (.refl _))))) ?_
    refine op_callA (Nx.agree (nxsm rfl rfl rfl)) (.cons rfl .nil) (or_bytes (N := M25) (.inl s42) (by omega)) Try.func42 rfl rfl (by simp) rfl ?_
    rintro v43 L43 ⟨M43, a43, p43, rfl, rfl, r43⟩
    change At _ _ _ [M43, M22, M20, M18, N1, M42, M40, M38, M25, M23, M16, M13, M10, R] _
    have s43 := r43.rsl
    refine At.perm sel13 ?_
    refine At.perm sel13 ?_
    refine At.perm sel13 ?_
    refine At.perm sel13 ?_
    refine At.perm sel13 ?_
    refine At.perm sel13 ?_
    refine At.perm sel13 ?_
    refine At.perm sel13 ?_
    refine At.perm sel13 ?_
    refine At.perm sel9 ?_
    refine At.perm sel13 ?_
    refine At.perm sel13 ?_
    refine At.perm sel13 ?_
    refine At.perm sel13 ?_
    refine At.moreS (Lst := [M42, M40, M38, M25, M23, M16, M13, M10, R]) (Lst' := [M43, M42, M40, M38, M25, M23, M16, M13, M10, R]) (.cons _ (.refl _)) (.cons _ (.cons _ (.cons _ (.cons _ (.refl _))))) ?_
    refine op_str (nxsf rfl rfl rfl) Try.underlying34 Try.underlying5 Try.underlying9 rfl (by assumption) (by first | exact mem0 | exact mem1 | exact mem2 | exact mem3 | exact mem4 | exact mem5 | exact mem6 | exact mem7 | exact mem8 | exact mem9) rfl ?_
    refine op_eqS (nxsf rfl rfl rfl) rfl rfl rfl ?_
    refine op_move (nxsf rfl rfl rfl) rfl rfl ?_
    refine At.partP (d := 46) rfl (fun g46 => ?_) (fun g46 => ?_)
    · refine op_callA (Nx.agree (nxsgs rfl rfl rfl rfl rfl rfl rfl)) .nil (Nwakes_f) Try.func40 rfl rfl (by simp) rfl ?_
      rintro v47 L47 ⟨rfl, rfl⟩
      change At _ _ _ [M22, M20, M18, N1, M43, M42, M40, M38, M25, M23, M16, M13, M10, R] _
      refine At.anyS (.refl _) ?_
      refine op_pickT (nxsf rfl rfl rfl) rfl rfl rfl ?_
      refine op_assign (nxsf rfl rfl rfl) rfl rfl ?_
      refine At.sNil ?_
      refine At.norm (hk_9 ?_)
      refine At.ret (?_)
      refine At.sub (L' := [R]) (.cons _ (.cons _ (.cons _ (.cons _ (.cons _ (.cons _ (.cons _ (.cons _ (.cons _ (.cons _ (.cons _ (.cons _ (.cons _ (.cons_cons _ (.slnil))))))))))))))) ?_
      refine At.ret1 (L1 := []) rfl (.tmp rfl .nil) (.refl _) (.refl _) ?_
      exact ⟨rfl, rfl⟩
    · exact absurd rfl g46
theorem NatPowers_f (ha : RSl N 1 ao n ca (u8s a)) (hb : RSl N 1 bo m cb (u8s b)) (hm : RSl N 1 mo k cm (u8s l)) :
    Fn Try.prog 7 #[.agg #[.slice ao n ca, .slice bo m cb, .slice mo k cm, .int .i64 I, .int .i64 W]] [] [N] (fun v L => v = .bool true ∧ L = []) := by
  rcases Nat.eq_zero_or_pos (be (l.take 80)) with h | h
  · exact NatPowers_z ha hb hm h
  · exact NatPowers_p ha hb hm h
end
end Go.Proofs.Ytefljbbpaideaaa
