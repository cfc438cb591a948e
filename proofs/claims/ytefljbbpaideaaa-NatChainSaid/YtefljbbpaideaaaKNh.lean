/- quarrylaw02.NatChain answers true. No condition. -/
import Derived.Test.YtefljbbpaideaaaKNg0
import Derived.Test.YtefljbbpaideaaaKNd
namespace Go.Proofs.Ytefljbbpaideaaa
set_option linter.unusedVariables false
set_option linter.unusedSimpArgs false
open Go Go.RowKit
theorem bytes_zero {V : Nat} : (bytesOf V).length = 0 ↔ V = 0 := by
  rw [length_bytesOf]
  constructor
  · intro h
    rcases Nat.eq_zero_or_pos V with h0 | h0
    · exact h0
    · have := bitLen_pos h0; omega
  · rintro rfl; rfl
section
variable {N : Heaplet} {ao bo mo : Option Addr} {n m k ca cb cm : Nat} {a b l : List UInt8} {I W : Int}
set_option maxRecDepth 100000 in
set_option maxHeartbeats 2000000 in
theorem NatChain_z (ha : RSl N 1 ao n ca (u8s a)) (hb : RSl N 1 bo m cb (u8s b)) (hm : RSl N 1 mo k cm (u8s l)) (X Y : UInt64) (hcase : be (l.take 40) = 0) :
    Fn Try.prog 11 #[.agg #[.slice ao n ca, .slice bo m cb, .slice mo k cm, .int .i64 I, .int .i64 W], .int .u64 (X.toNat : Int), .int .u64 (Y.toNat : Int)] [] [N] (fun v L => v = .bool true ∧ L = []) := by
  have ha6 : (a.take 40).length ≤ 40 := by rw [List.length_take]; omega
  have hb6 : (b.take 40).length ≤ 40 := by rw [List.length_take]; omega
  have hm6 : (l.take 40).length ≤ 40 := by rw [List.length_take]; omega
  have haa : (a.take 600).length ≤ 600 := by rw [List.length_take]; omega
  have hbb : (b.take 600).length ≤ 600 := by rw [List.length_take]; omega
  have ya := bytes_be (a.take 40)
  have yb := bytes_be (b.take 40)
  have ym := bytes_be (l.take 40)
  have yX : (bytesOf X.toNat).length ≤ 8 := bytesOf_le (by have := X.toNat_lt; omega)
  have yY : (bytesOf Y.toNat).length ≤ 8 := bytesOf_le (by have := Y.toNat_lt; omega)
  have dX : (digsOf X.toNat).length ≤ 2 := by rw [length_digsOf]; exact digLen_le.2 (by have := X.toNat_lt; omega)
  have dY : (digsOf Y.toNat).length ≤ 2 := by rw [length_digsOf]; exact digLen_le.2 (by have := Y.toNat_lt; omega)
  have yXY := bytes_add (X := X.toNat) (Y := Y.toNat) (n := 8) (by omega) (by omega)
  generalize hA : be (a.take 40) = A at *
  generalize hB : be (b.take 40) = B at *
  generalize hC : be (l.take 40) = C at *
  have yab := bytes_mul (X := A) (Y := B) (n := 40) (by omega) (by omega)
  refine Fn.enter (vs := [.agg #[.slice ao n ca, .slice bo m cb, .slice mo k cm, .int .i64 I, .int .i64 W], .int .u64 (X.toNat : Int), .int .u64 (Y.toNat : Int)]) Try.func11 rfl rfl rfl ?_
  intro E R hR
  have ha := ha.le (hR N (by simp))
  have hb := hb.le (hR N (by simp))
  have hm := hm.le (hR N (by simp))
  change At _ _ E [R] _
  refine At.seq fun K1 hk_1 => ?_
  refine At.region ?_
  refine op_box (nxla rfl) rfl rfl rfl (fun N3 b3 B3 => ?_)
  refine op_assign (nxlf rfl) rfl rfl ?_
  refine At.opsNil ?_
  refine At.norm (hk_1 ?_)
  refine At.seq fun K2 hk_2 => ?_
  refine At.region ?_
  refine op_fieldAddr (nxlf rfl) fl36_2 rfl rfl ?_
  refine op_loadB (nxlf rfl) sc34 rfl B3 (by first | rfl) mem0 rfl ?_
  refine op_callA (nxla rfl) (.cons rfl (.cons rfl .nil)) (KTwin_f hm 40 40 rfl (by decide)) Try.func43 rfl rfl (by simp) rfl ?_
  rintro v20 L20 ⟨M20, a20, p20, rfl, rfl, r20⟩
  change At _ _ _ [M20, N3, R] _
  have s20 := r20.rsl
  refine op_assign (nxlf rfl) rfl rfl ?_
  refine At.opsNil ?_
  refine At.norm (hk_2 ?_)
  refine At.seq fun K3 hk_3 => ?_
  refine At.seq fun K4 hk_4 => ?_
  refine At.region ?_
  refine op_move (nxlf rfl) rfl rfl ?_
  refine op_callA (nxla rfl) (.cons rfl .nil) (NTrim_f s20 (by omega)) Try.func67 rfl rfl (by simp) rfl ?_
  rintro v22 L22 ⟨M22, a22, p22, rfl, rfl, r22⟩
  change At _ _ _ [M22, M20, N3, R] _
  have s22 := r22.rsl; rw [hC]
  rw [hcase, show (bytesOf 0).length = 0 from rfl]
  refine op_lenS (nxlf rfl) se34 rfl rfl ?_
  refine op_eql (nxlf rfl) rfl rfl rfl ?_
  refine At.opsNil ?_
  refine At.norm (hk_4 ?_)
  refine At.condP rfl (fun c24 => ?_) (fun c24 => ?_)
  · refine At.seq fun K5 hk_5 => ?_
    refine At.perm sel3 ?_
    refine At.perm sel2 ?_
    refine At.perm sel3 ?_
    refine At.perm sel3 ?_
    refine At.drawnS [N3, M20, R] [5,7,11] [6] [0,1,3,4,6,2,5,7,8,9,10,11,12,13] (by kernel_rfl) (by kernel_rfl) (.cons _ (.refl _)) ?_
    refine op_fieldAddr (nxsf rfl rfl rfl) fl36_0 rfl rfl ?_
    refine op_loadB (nxsf rfl rfl rfl) sc34 rfl B3 (by first | rfl) mem0 rfl ?_
    refine op_fieldAddr (nxsf rfl rfl rfl) fl36_1 rfl rfl ?_
    refine op_loadB (nxsf rfl rfl rfl) sc34 rfl B3 (by first | rfl) mem0 rfl ?_
    refine op_move (nxsf rfl rfl rfl) rfl rfl ?_
    refine op_callA (Nx.agree (nxsm rfl rfl rfl)) (.cons rfl .nil) (few_f ha) Try.func38 rfl rfl (by simp) rfl ?_
    rintro v27 L27 ⟨M27, a27, p27, rfl, rfl, r27⟩
    change At _ _ _ [M27, M22, N3, M20, R] _
    have s27 := r27.rsl
    refine At.perm sel4 ?_
    refine At.perm sel4 ?_
    refine At.perm sel4 ?_
    refine At.perm sel3 ?_
    refine At.perm sel4 ?_
    refine At.moreS (Lst := [N3, M20, R]) (Lst' := [M27, N3, M20, R]) (.cons _ (.refl _)) (.cons _ (.refl _)) ?_
    refine op_callA (Nx.agree (nxss rfl rfl rfl rfl)) (.cons rfl .nil) (few_f hb) Try.func38 rfl rfl (by simp) rfl ?_
    rintro v30 L30 ⟨M30, a30, p30, rfl, rfl, r30⟩
    change At _ _ _ [M30, M22, M27, N3, M20, R] _
    have s30 := r30.rsl
    refine At.anyS (.refl _) ?_
    refine op_callA (Nx.agree (nxss rfl rfl rfl rfl)) (.cons rfl (.cons rfl (.cons rfl .nil))) (NModExp_0 s20 s30 (by omega) (by omega) (by rw [hC]; exact hcase)) Try.func44 rfl rfl (by simp) rfl ?_
    rintro v32 L32 ⟨rfl, rfl⟩
    change At _ _ _ [M30, M22, M27, N3, M20, R] _
    refine At.anyS (.refl _) ?_
    refine op_lenS (nxsf rfl rfl rfl) se34 rfl rfl ?_
    refine op_eql (nxsf rfl rfl rfl) rfl rfl rfl ?_
    refine op_move (nxsf rfl rfl rfl) rfl rfl ?_
    refine At.partP (d := 35) rfl (fun g35 => ?_) (fun g35 => ?_)
    · refine op_callA (Nx.agree (nxsgs rfl rfl rfl rfl rfl rfl rfl)) .nil (Nwakes_f) Try.func40 rfl rfl (by simp) rfl ?_
      rintro v36 L36 ⟨rfl, rfl⟩
      change At _ _ _ [M30, M22, M27, N3, M20, R] _
      refine At.anyS (.refl _) ?_
      refine op_pickT (nxsf rfl rfl rfl) rfl rfl rfl ?_
      refine op_assign (nxsf rfl rfl rfl) rfl rfl ?_
      refine At.sNil ?_
      refine At.norm (hk_5 ?_)
      refine At.ret (At.thenRet (?_))
      refine At.sub (L' := [R]) (.cons _ (.cons _ (.cons _ (.cons _ (.cons _ (.cons_cons _ (.slnil))))))) ?_
      refine At.ret1 (L1 := []) rfl (.tmp rfl .nil) (.refl _) (.refl _) ?_
      exact ⟨rfl, rfl⟩
    · exact absurd rfl g35
  · exact absurd rfl c24
set_option maxRecDepth 100000 in
set_option maxHeartbeats 2000000 in
theorem NatChain_p (ha : RSl N 1 ao n ca (u8s a)) (hb : RSl N 1 bo m cb (u8s b)) (hm : RSl N 1 mo k cm (u8s l)) (X Y : UInt64) (hcase : 0 < be (l.take 40)) :
    Fn Try.prog 11 #[.agg #[.slice ao n ca, .slice bo m cb, .slice mo k cm, .int .i64 I, .int .i64 W], .int .u64 (X.toNat : Int), .int .u64 (Y.toNat : Int)] [] [N] (fun v L => v = .bool true ∧ L = []) := by
  have ha6 : (a.take 40).length ≤ 40 := by rw [List.length_take]; omega
  have hb6 : (b.take 40).length ≤ 40 := by rw [List.length_take]; omega
  have hm6 : (l.take 40).length ≤ 40 := by rw [List.length_take]; omega
  have haa : (a.take 600).length ≤ 600 := by rw [List.length_take]; omega
  have hbb : (b.take 600).length ≤ 600 := by rw [List.length_take]; omega
  have ya := bytes_be (a.take 40)
  have yb := bytes_be (b.take 40)
  have ym := bytes_be (l.take 40)
  have yX : (bytesOf X.toNat).length ≤ 8 := bytesOf_le (by have := X.toNat_lt; omega)
  have yY : (bytesOf Y.toNat).length ≤ 8 := bytesOf_le (by have := Y.toNat_lt; omega)
  have dX : (digsOf X.toNat).length ≤ 2 := by rw [length_digsOf]; exact digLen_le.2 (by have := X.toNat_lt; omega)
  have dY : (digsOf Y.toNat).length ≤ 2 := by rw [length_digsOf]; exact digLen_le.2 (by have := Y.toNat_lt; omega)
  have yXY := bytes_add (X := X.toNat) (Y := Y.toNat) (n := 8) (by omega) (by omega)
  generalize hA : be (a.take 40) = A at *
  generalize hB : be (b.take 40) = B at *
  generalize hC : be (l.take 40) = C at *
  have yab := bytes_mul (X := A) (Y := B) (n := 40) (by omega) (by omega)
  have hz : (bytesOf C).length ≠ 0 := fun h => by have := bytes_zero.1 h; omega
  have hmod : ∀ V : Nat, (bytesOf (V % C)).length ≤ 40 := fun V => by
    have := bytes_mono (Nat.le_of_lt (Nat.mod_lt V hcase)); omega
  refine Fn.enter (vs := [.agg #[.slice ao n ca, .slice bo m cb, .slice mo k cm, .int .i64 I, .int .i64 W], .int .u64 (X.toNat : Int), .int .u64 (Y.toNat : Int)]) Try.func11 rfl rfl rfl ?_
  intro E R hR
  have ha := ha.le (hR N (by simp))
  have hb := hb.le (hR N (by simp))
  have hm := hm.le (hR N (by simp))
  change At _ _ E [R] _
  refine At.seq fun K1 hk_1 => ?_
  refine At.region ?_
  refine op_box (nxla rfl) rfl rfl rfl (fun N3 b3 B3 => ?_)
  refine op_assign (nxlf rfl) rfl rfl ?_
  refine At.opsNil ?_
  refine At.norm (hk_1 ?_)
  refine At.seq fun K2 hk_2 => ?_
  refine At.region ?_
  refine op_fieldAddr (nxlf rfl) fl36_2 rfl rfl ?_
  refine op_loadB (nxlf rfl) sc34 rfl B3 (by first | rfl) mem0 rfl ?_
  refine op_callA (nxla rfl) (.cons rfl (.cons rfl .nil)) (KTwin_f hm 40 40 rfl (by decide)) Try.func43 rfl rfl (by simp) rfl ?_
  rintro v20 L20 ⟨M20, a20, p20, rfl, rfl, r20⟩
  change At _ _ _ [M20, N3, R] _
  have s20 := r20.rsl
  refine op_assign (nxlf rfl) rfl rfl ?_
  refine At.opsNil ?_
  refine At.norm (hk_2 ?_)
  refine At.seq fun K3 hk_3 => ?_
  refine At.seq fun K4 hk_4 => ?_
  refine At.region ?_
  refine op_move (nxlf rfl) rfl rfl ?_
  refine op_callA (nxla rfl) (.cons rfl .nil) (NTrim_f s20 (by omega)) Try.func67 rfl rfl (by simp) rfl ?_
  rintro v22 L22 ⟨M22, a22, p22, rfl, rfl, r22⟩
  change At _ _ _ [M22, M20, N3, R] _
  have s22 := r22.rsl; rw [hC]
  refine op_lenS (nxlf rfl) se34 rfl rfl ?_
  refine op_eql (nxlf rfl) rfl rfl rfl ?_
  refine At.opsNil ?_
  refine At.norm (hk_4 ?_)
  refine At.condP rfl (fun c24 => ?_) (fun c24 => ?_)
  · exfalso; omega
  · refine At.skip ?_
    refine At.norm (hk_3 ?_)
    refine At.seq fun K5 hk_5 => ?_
    refine At.region ?_
    refine op_fieldAddr (nxlf rfl) fl36_0 rfl rfl ?_
    refine op_loadB (nxlf rfl) sc34 rfl B3 (by first | rfl) mem2 rfl ?_
    refine op_callA (nxla rfl) (.cons rfl (.cons rfl .nil)) (KTwin_f ha 40 40 rfl (by decide)) Try.func43 rfl rfl (by simp) rfl ?_
    rintro v40 L40 ⟨M40, a40, p40, rfl, rfl, r40⟩
    change At _ _ _ [M40, M22, M20, N3, R] _
    have s40 := r40.rsl
    refine op_assign (nxlf rfl) rfl rfl ?_
    refine At.opsNil ?_
    refine At.norm (hk_5 ?_)
    refine At.seq fun K6 hk_6 => ?_
    refine At.region ?_
    refine op_fieldAddr (nxlf rfl) fl36_1 rfl rfl ?_
    refine op_loadB (nxlf rfl) sc34 rfl B3 (by first | rfl) mem3 rfl ?_
    refine op_callA (nxla rfl) (.cons rfl (.cons rfl .nil)) (KTwin_f hb 40 40 rfl (by decide)) Try.func43 rfl rfl (by simp) rfl ?_
    rintro v43 L43 ⟨M43, a43, p43, rfl, rfl, r43⟩
    change At _ _ _ [M43, M40, M22, M20, N3, R] _
    have s43 := r43.rsl
    refine op_assign (nxlf rfl) rfl rfl ?_
    refine At.opsNil ?_
    refine At.norm (hk_6 ?_)
    refine At.seq fun K7 hk_7 => ?_
    refine At.region ?_
    refine op_move (nxlf rfl) rfl rfl ?_
    refine op_callA (nxla rfl) (.cons rfl .nil) (Of32_f X) Try.func68 rfl rfl (by simp) rfl ?_
    rintro v45 L45 ⟨M45, a45, p45, rfl, rfl, s45⟩
    change At _ _ _ [M45, M43, M40, M22, M20, N3, R] _
    refine op_callA (nxla rfl) (.cons rfl .nil) (or_bytes (N := R) (.inl s45) (by omega)) Try.func42 rfl rfl (by simp) rfl ?_
    rintro v46 L46 ⟨M46, a46, p46, rfl, rfl, r46⟩
    change At _ _ _ [M46, M45, M43, M40, M22, M20, N3, R] _
    have s46 := r46.rsl
    refine op_assign (nxlf rfl) rfl rfl ?_
    refine At.opsNil ?_
    refine At.norm (hk_7 ?_)
    refine At.seq fun K8 hk_8 => ?_
    refine At.region ?_
    refine op_move (nxlf rfl) rfl rfl ?_
    refine op_callA (nxla rfl) (.cons rfl .nil) (Of32_f Y) Try.func68 rfl rfl (by simp) rfl ?_
    rintro v48 L48 ⟨M48, a48, p48, rfl, rfl, s48⟩
    change At _ _ _ [M48, M46, M45, M43, M40, M22, M20, N3, R] _
    refine op_callA (nxla rfl) (.cons rfl .nil) (or_bytes (N := R) (.inl s48) (by omega)) Try.func42 rfl rfl (by simp) rfl ?_
    rintro v49 L49 ⟨M49, a49, p49, rfl, rfl, r49⟩
    change At _ _ _ [M49, M48, M46, M45, M43, M40, M22, M20, N3, R] _
    have s49 := r49.rsl
    refine op_assign (nxlf rfl) rfl rfl ?_
    refine At.opsNil ?_
    refine At.norm (hk_8 ?_)
    refine At.seq fun K9 hk_9 => ?_
    refine At.region ?_
    refine op_move (nxlf rfl) rfl rfl ?_
    refine op_move (nxlf rfl) rfl rfl ?_
    refine op_move (nxlf rfl) rfl rfl ?_
    refine op_callA (nxla rfl) (.cons rfl (.cons rfl (.cons rfl .nil))) (NModExp_f s40 s46 s20 (by omega) (by omega) (by omega) (by rw [hC]; exact hcase)) Try.func44 rfl rfl (by simp) rfl ?_
    rintro v54 L54 ⟨M54, a54, p54, rfl, rfl, r54⟩
    change At _ _ _ [M54, M49, M48, M46, M45, M43, M40, M22, M20, N3, R] _
    have s54 := r54.rsl; rw [hA, hC, be_bytesOf] at s54 ⊢
    refine op_move (nxlf rfl) rfl rfl ?_
    refine op_move (nxlf rfl) rfl rfl ?_
    refine op_move (nxlf rfl) rfl rfl ?_
    refine op_callA (nxla rfl) (.cons rfl (.cons rfl (.cons rfl .nil))) (NModExp_f s40 s49 s20 (by omega) (by omega) (by omega) (by rw [hC]; exact hcase)) Try.func44 rfl rfl (by simp) rfl ?_
    rintro v58 L58 ⟨M58, a58, p58, rfl, rfl, r58⟩
    change At _ _ _ [M58, M54, M49, M48, M46, M45, M43, M40, M22, M20, N3, R] _
    have s58 := r58.rsl; rw [hA, hC, be_bytesOf] at s58 ⊢
    refine op_callA (nxla rfl) (.cons rfl (.cons rfl .nil)) (NMul_f s54 s58 (by have := hmod (A ^ X.toNat); omega) (by have := hmod (A ^ Y.toNat); omega)) Try.func69 rfl rfl (by simp) rfl ?_
    rintro v59 L59 ⟨M59, a59, p59, rfl, rfl, r59⟩
    change At _ _ _ [M59, M58, M54, M49, M48, M46, M45, M43, M40, M22, M20, N3, R] _
    have s59 := r59.rsl; rw [be_bytesOf, be_bytesOf] at s59 ⊢
    refine op_move (nxlf rfl) rfl rfl ?_
    refine op_callA (nxla rfl) (.cons rfl (.cons rfl .nil)) (NDivMod_f s59 s20 (by have := bytes_mul (hmod (A ^ X.toNat)) (hmod (A ^ Y.toNat)); omega) (by omega) (by rw [hC]; exact hcase)) Try.func39 rfl rfl (by simp) rfl ?_
    rintro v61 L61 ⟨Mq, pq, cq, Mr, pr, cr, rfl, rfl, rq, rr⟩
    change At _ _ _ [Mq, Mr, M59, M58, M54, M49, M48, M46, M45, M43, M40, M22, M20, N3, R] _
    have sr := rr.rsl; rw [be_bytesOf, hC, ← Nat.mul_mod, ← Nat.pow_add] at sr ⊢
    refine op_move (nxlf rfl) rfl rfl ?_
    refine op_extract (nxlf rfl) rfl rfl rfl ?_
    refine op_extract (nxlf rfl) rfl rfl rfl ?_
    refine op_extract (nxlf rfl) rfl rfl rfl ?_
    refine op_assign (nxlf rfl) rfl rfl ?_
    refine op_assign (nxlf rfl) rfl rfl ?_
    refine op_assign (nxlf rfl) rfl rfl ?_
    refine At.opsNil ?_
    refine At.norm (hk_9 ?_)
    refine At.seq fun K10 hk_10 => ?_
    refine At.seq fun K11 hk_11 => ?_
    refine At.perm sel14 ?_
    refine At.perm sel13 ?_
    refine At.perm sel12 ?_
    refine At.perm sel12 ?_
    refine At.perm sel11 ?_
    refine At.perm sel10 ?_
    refine At.perm sel7 ?_
    refine At.perm sel14 ?_
    refine At.perm sel14 ?_
    refine At.perm sel14 ?_
    refine At.perm sel14 ?_
    refine At.perm sel14 ?_
    refine At.perm sel14 ?_
    refine At.perm sel14 ?_
    refine At.perm sel14 ?_
    refine At.drawnS [Mr, M49, M46, M43, M40, M20, R] [] [0,2,6] [0,1,2,3,4,6,5,7,8,9] (by kernel_rfl) (by kernel_rfl) (.cons _ (.cons _ (.cons _ (.cons _ (.cons _ (.cons _ (.cons _ (.cons _ (.refl _))))))))) ?_
    refine op_move (nxsf rfl rfl rfl) rfl rfl ?_
    refine op_str (nxsf rfl rfl rfl) Try.underlying34 Try.underlying5 Try.underlying9 rfl (by assumption) (by first | exact mem0 | exact mem1 | exact mem2 | exact mem3 | exact mem4 | exact mem5 | exact mem6 | exact mem7 | exact mem8 | exact mem9) rfl ?_
    refine op_move (nxsf rfl rfl rfl) rfl rfl ?_
    refine op_move (nxsf rfl rfl rfl) rfl rfl ?_
    refine op_move (nxsf rfl rfl rfl) rfl rfl ?_
    refine op_move (nxsf rfl rfl rfl) rfl rfl ?_
    refine op_callA (Nx.agree (nxsm rfl rfl rfl)) (.cons rfl (.cons rfl .nil)) (NAdd_f s46 s49 (by omega) (by omega)) Try.func70 rfl rfl (by simp) rfl ?_
    rintro v70 L70 ⟨M70, a70, p70, rfl, rfl, r70⟩
    change At _ _ _ [M70, Mq, M59, M58, M54, M48, M45, M22, N3, Mr, M49, M46, M43, M40, M20, R] _
    have s70 := r70.rsl; rw [be_bytesOf, be_bytesOf] at s70 ⊢
    refine At.perm sel15 ?_
    refine At.perm sel15 ?_
    refine At.perm sel15 ?_
    refine At.perm sel15 ?_
    refine At.perm sel15 ?_
    refine At.perm sel15 ?_
    refine At.perm sel15 ?_
    refine At.perm sel7 ?_
    refine At.perm sel15 ?_
    refine At.perm sel15 ?_
    refine At.perm sel15 ?_
    refine At.perm sel15 ?_
    refine At.perm sel15 ?_
    refine At.perm sel15 ?_
    refine At.perm sel15 ?_
    refine At.perm sel15 ?_
    refine At.moreS (Lst := [Mr, M49, M46, M43, M40, M20, R]) (Lst' := [M70, Mr, M49, M46, M43, M40, M20, R]) (.cons _ (.refl _)) (.cons _ (.cons _ (.cons _ (.cons _ (.cons _ (.cons _ (.cons _ (.cons _ (.refl _))))))))) ?_
    refine op_callA (Nx.agree (nxsm rfl rfl rfl)) (.cons rfl (.cons rfl (.cons rfl .nil))) (NModExp_f s40 s70 s20 (by omega) (by omega) (by omega) (by rw [hC]; exact hcase)) Try.func44 rfl rfl (by simp) rfl ?_
    rintro v72 L72 ⟨M72, a72, p72, rfl, rfl, r72⟩
    change At _ _ _ [M72, Mq, M59, M58, M54, M48, M45, M22, N3, M70, Mr, M49, M46, M43, M40, M20, R] _
    have s72 := r72.rsl; rw [hA, hC, be_bytesOf] at s72 ⊢
    refine At.perm sel16 ?_
    refine At.perm sel16 ?_
    refine At.perm sel16 ?_
    refine At.perm sel16 ?_
    refine At.perm sel16 ?_
    refine At.perm sel16 ?_
    refine At.perm sel16 ?_
    refine At.perm sel16 ?_
    refine At.perm sel8 ?_
    refine At.perm sel16 ?_
    refine At.perm sel16 ?_
    refine At.perm sel16 ?_
    refine At.perm sel16 ?_
    refine At.perm sel16 ?_
    refine At.perm sel16 ?_
    refine At.perm sel16 ?_
    refine At.perm sel16 ?_
    refine At.moreS (Lst := [M70, Mr, M49, M46, M43, M40, M20, R]) (Lst' := [M72, M70, Mr, M49, M46, M43, M40, M20, R]) (.cons _ (.refl _)) (.cons _ (.cons _ (.cons _ (.cons _ (.cons _ (.cons _ (.cons _ (.cons _ (.refl _))))))))) ?_
    refine op_str (nxsf rfl rfl rfl) Try.underlying34 Try.underlying5 Try.underlying9 rfl (by assumption) (by first | exact mem0 | exact mem1 | exact mem2 | exact mem3 | exact mem4 | exact mem5 | exact mem6 | exact mem7 | exact mem8 | exact mem9) rfl ?_
    refine op_neS (nxsf rfl rfl rfl) rfl rfl rfl ?_
    refine At.sNil ?_
    refine At.norm (hk_11 ?_)
    refine At.condP rfl (fun c74 => ?_) (fun c74 => ?_)
    · exact absurd rfl c74
    · refine At.skip ?_
      refine At.norm (hk_10 ?_)
      refine At.seq fun K12 hk_12 => ?_
      refine At.region ?_
      refine op_move (nxlf rfl) rfl rfl ?_
      refine op_move (nxlf rfl) rfl rfl ?_
      refine op_move (nxlf rfl) rfl rfl ?_
      refine op_callA (nxla rfl) (.cons rfl (.cons rfl (.cons rfl .nil))) (NModExp_f s40 s46 s20 (by omega) (by omega) (by omega) (by rw [hC]; exact hcase)) Try.func44 rfl rfl (by simp) rfl ?_
      rintro v79 L79 ⟨M79, a79, p79, rfl, rfl, r79⟩
      change At _ _ _ [M79, Mq, M59, M58, M54, M48, M45, M22, N3, M72, M70, Mr, M49, M46, M43, M40, M20, R] _
      have s79 := r79.rsl; rw [hA, hC, be_bytesOf] at s79 ⊢
      refine op_move (nxlf rfl) rfl rfl ?_
      refine op_move (nxlf rfl) rfl rfl ?_
      refine op_move (nxlf rfl) rfl rfl ?_
      refine op_callA (nxla rfl) (.cons rfl (.cons rfl (.cons rfl .nil))) (NModExp_f s43 s46 s20 (by omega) (by omega) (by omega) (by rw [hC]; exact hcase)) Try.func44 rfl rfl (by simp) rfl ?_
      rintro v83 L83 ⟨M83, a83, p83, rfl, rfl, r83⟩
      change At _ _ _ [M83, M79, Mq, M59, M58, M54, M48, M45, M22, N3, M72, M70, Mr, M49, M46, M43, M40, M20, R] _
      have s83 := r83.rsl; rw [hB, hC, be_bytesOf] at s83 ⊢
      refine op_callA (nxla rfl) (.cons rfl (.cons rfl .nil)) (NMul_f s79 s83 (by have := hmod (A ^ X.toNat); omega) (by have := hmod (B ^ X.toNat); omega)) Try.func69 rfl rfl (by simp) rfl ?_
      rintro v84 L84 ⟨M84, a84, p84, rfl, rfl, r84⟩
      change At _ _ _ [M84, M83, M79, Mq, M59, M58, M54, M48, M45, M22, N3, M72, M70, Mr, M49, M46, M43, M40, M20, R] _
      have s84 := r84.rsl; rw [be_bytesOf, be_bytesOf] at s84 ⊢
      refine op_move (nxlf rfl) rfl rfl ?_
      refine op_callA (nxla rfl) (.cons rfl (.cons rfl .nil)) (NDivMod_f s84 s20 (by have := bytes_mul (hmod (A ^ X.toNat)) (hmod (B ^ X.toNat)); omega) (by omega) (by rw [hC]; exact hcase)) Try.func39 rfl rfl (by simp) rfl ?_
      rintro v86 L86 ⟨Kq, kq, dq, Kr, kr, dr, rfl, rfl, tq, tr⟩
      change At _ _ _ [Kq, Kr, M84, M83, M79, Mq, M59, M58, M54, M48, M45, M22, N3, M72, M70, Mr, M49, M46, M43, M40, M20, R] _
      have ur := tr.rsl; rw [be_bytesOf, hC, ← Nat.mul_mod, ← Nat.mul_pow] at ur ⊢
      refine op_move (nxlf rfl) rfl rfl ?_
      refine op_extract (nxlf rfl) rfl rfl rfl ?_
      refine op_extract (nxlf rfl) rfl rfl rfl ?_
      refine op_extract (nxlf rfl) rfl rfl rfl ?_
      refine op_assign (nxlf rfl) rfl rfl ?_
      refine op_assign (nxlf rfl) rfl rfl ?_
      refine op_assign (nxlf rfl) rfl rfl ?_
      refine At.opsNil ?_
      refine At.norm (hk_12 ?_)
      refine At.seq fun K13 hk_13 => ?_
      refine At.perm sel21 ?_
      refine At.perm sel21 ?_
      refine At.perm sel21 ?_
      refine At.perm sel21 ?_
      refine At.perm sel21 ?_
      refine At.perm sel6 ?_
      refine At.perm sel21 ?_
      refine At.perm sel21 ?_
      refine At.perm sel21 ?_
      refine At.perm sel21 ?_
      refine At.perm sel21 ?_
      refine At.perm sel21 ?_
      refine At.perm sel21 ?_
      refine At.perm sel21 ?_
      refine At.perm sel21 ?_
      refine At.perm sel21 ?_
      refine At.perm sel21 ?_
      refine At.perm sel21 ?_
      refine At.perm sel21 ?_
      refine At.perm sel21 ?_
      refine At.perm sel21 ?_
      refine At.perm sel21 ?_
      refine At.drawnS [Kr, M46, M43, M40, M20, R] [11] [0,5,6] [0,1,2,3,5,6,4,7,8,9,10,11,12,13] (by kernel_rfl) (by kernel_rfl) (.cons _ (.cons _ (.cons _ (.cons _ (.cons _ (.cons _ (.cons _ (.cons _ (.cons _ (.cons _ (.cons _ (.cons _ (.cons _ (.cons _ (.cons _ (.cons _ (.refl _))))))))))))))))) ?_
      refine op_move (nxsf rfl rfl rfl) rfl rfl ?_
      refine op_str (nxsf rfl rfl rfl) Try.underlying34 Try.underlying5 Try.underlying9 rfl (by assumption) (by first | exact mem0 | exact mem1 | exact mem2 | exact mem3 | exact mem4 | exact mem5 | exact mem6 | exact mem7 | exact mem8 | exact mem9) rfl ?_
      refine op_move (nxsf rfl rfl rfl) rfl rfl ?_
      refine op_move (nxsf rfl rfl rfl) rfl rfl ?_
      refine op_move (nxsf rfl rfl rfl) rfl rfl ?_
      refine op_move (nxsf rfl rfl rfl) rfl rfl ?_
      refine op_callA (Nx.agree (nxsm rfl rfl rfl)) (.cons rfl (.cons rfl .nil)) (NMul_f s40 s43 (by omega) (by omega)) Try.func69 rfl rfl (by simp) rfl ?_
      rintro v94 L94 ⟨M94, a94, p94, rfl, rfl, r94⟩
      change At _ _ _ [M94, Kq, M84, M83, M79, Mq, M59, M58, M54, M48, M45, M22, N3, M72, M70, Mr, M49, Kr, M46, M43, M40, M20, R] _
      have s94 := r94.rsl; rw [hA, hB] at s94 ⊢
      refine At.perm sel22 ?_
      refine At.perm sel22 ?_
      refine At.perm sel22 ?_
      refine At.perm sel22 ?_
      refine At.perm sel22 ?_
      refine At.perm sel22 ?_
      refine At.perm sel6 ?_
      refine At.perm sel22 ?_
      refine At.perm sel22 ?_
      refine At.perm sel22 ?_
      refine At.perm sel22 ?_
      refine At.perm sel22 ?_
      refine At.perm sel22 ?_
      refine At.perm sel22 ?_
      refine At.perm sel22 ?_
      refine At.perm sel22 ?_
      refine At.perm sel22 ?_
      refine At.perm sel22 ?_
      refine At.perm sel22 ?_
      refine At.perm sel22 ?_
      refine At.perm sel22 ?_
      refine At.perm sel22 ?_
      refine At.perm sel22 ?_
      refine At.moreS (Lst := [Kr, M46, M43, M40, M20, R]) (Lst' := [M94, Kr, M46, M43, M40, M20, R]) (.cons _ (.refl _)) (.cons _ (.cons _ (.cons _ (.cons _ (.cons _ (.cons _ (.cons _ (.cons _ (.cons _ (.cons _ (.cons _ (.cons _ (.cons _ (.cons _ (.cons _ (.cons _ (.refl _))))))))))))))))) ?_
      refine op_callA (Nx.agree (nxsm rfl rfl rfl)) (.cons rfl (.cons rfl (.cons rfl .nil))) (NModExp_f s94 s46 s20 (by omega) (by omega) (by omega) (by rw [hC]; exact hcase)) Try.func44 rfl rfl (by simp) rfl ?_
      rintro v97 L97 ⟨M97, a97, p97, rfl, rfl, r97⟩
      change At _ _ _ [M97, Kq, M84, M83, M79, Mq, M59, M58, M54, M48, M45, M22, N3, M72, M70, Mr, M49, M94, Kr, M46, M43, M40, M20, R] _
      have s97 := r97.rsl; rw [be_bytesOf, hC, be_bytesOf] at s97 ⊢
      refine At.perm sel23 ?_
      refine At.perm sel23 ?_
      refine At.perm sel23 ?_
      refine At.perm sel23 ?_
      refine At.perm sel23 ?_
      refine At.perm sel23 ?_
      refine At.perm sel23 ?_
      refine At.perm sel7 ?_
      refine At.perm sel23 ?_
      refine At.perm sel23 ?_
      refine At.perm sel23 ?_
      refine At.perm sel23 ?_
      refine At.perm sel23 ?_
      refine At.perm sel23 ?_
      refine At.perm sel23 ?_
      refine At.perm sel23 ?_
      refine At.perm sel23 ?_
      refine At.perm sel23 ?_
      refine At.perm sel23 ?_
      refine At.perm sel23 ?_
      refine At.perm sel23 ?_
      refine At.perm sel23 ?_
      refine At.perm sel23 ?_
      refine At.perm sel23 ?_
      refine At.moreS (Lst := [M94, Kr, M46, M43, M40, M20, R]) (Lst' := [M97, M94, Kr, M46, M43, M40, M20, R]) (.cons _ (.refl _)) (.cons _ (.cons _ (.cons _ (.cons _ (.cons _ (.cons _ (.cons _ (.cons _ (.cons _ (.cons _ (.cons _ (.cons _ (.cons _ (.cons _ (.cons _ (.cons _ (.refl _))))))))))))))))) ?_
      refine op_str (nxsf rfl rfl rfl) Try.underlying34 Try.underlying5 Try.underlying9 rfl (by assumption) (by first | exact mem0 | exact mem1 | exact mem2 | exact mem3 | exact mem4 | exact mem5 | exact mem6 | exact mem7 | exact mem8 | exact mem9) rfl ?_
      refine op_eqS (nxsf rfl rfl rfl) rfl rfl rfl ?_
      refine op_move (nxsf rfl rfl rfl) rfl rfl ?_
      refine At.partP (d := 100) rfl (fun g100 => ?_) (fun g100 => ?_)
      · refine op_callA (Nx.agree (nxsgs rfl rfl rfl rfl rfl rfl rfl)) .nil (Nwakes_f) Try.func40 rfl rfl (by simp) rfl ?_
        rintro v101 L101 ⟨rfl, rfl⟩
        change At _ _ _ [Kq, M84, M83, M79, Mq, M59, M58, M54, M48, M45, M22, N3, M72, M70, Mr, M49, M97, M94, Kr, M46, M43, M40, M20, R] _
        refine At.anyS (.refl _) ?_
        refine op_pickT (nxsf rfl rfl rfl) rfl rfl rfl ?_
        refine op_assign (nxsf rfl rfl rfl) rfl rfl ?_
        refine At.sNil ?_
        refine At.norm (hk_13 ?_)
        refine At.ret (?_)
        refine At.sub (L' := [R]) (.cons _ (.cons _ (.cons _ (.cons _ (.cons _ (.cons _ (.cons _ (.cons _ (.cons _ (.cons _ (.cons _ (.cons _ (.cons _ (.cons _ (.cons _ (.cons _ (.cons _ (.cons _ (.cons _ (.cons _ (.cons _ (.cons _ (.cons _ (.cons_cons _ (.slnil))))))))))))))))))))))))) ?_
        refine At.ret1 (L1 := []) rfl (.tmp rfl .nil) (.refl _) (.refl _) ?_
        exact ⟨rfl, rfl⟩
      · exact absurd rfl g100
theorem NatChain_f (ha : RSl N 1 ao n ca (u8s a)) (hb : RSl N 1 bo m cb (u8s b)) (hm : RSl N 1 mo k cm (u8s l)) (X Y : UInt64) :
    Fn Try.prog 11 #[.agg #[.slice ao n ca, .slice bo m cb, .slice mo k cm, .int .i64 I, .int .i64 W], .int .u64 (X.toNat : Int), .int .u64 (Y.toNat : Int)] [] [N] (fun v L => v = .bool true ∧ L = []) := by
  rcases Nat.eq_zero_or_pos (be (l.take 40)) with h | h
  · exact NatChain_z ha hb hm X Y h
  · exact NatChain_p ha hb hm X Y h
end
end Go.Proofs.Ytefljbbpaideaaa
