/- Several texts in one: see the remarks ahead of each part. No condition but those told there. -/
import Derived.Test.YtbmlhdecnfplaaaK15
import Derived.Test.YtbmlhdecnfplaaaK7
import Derived.Test.YtbmlhdecnfplaaaProg
import Derived.Test.YtbmlhdecnfplaaaK1
import Derived.WalkKit
import Derived.WalkSpells
import Derived.WalkLawsBesides
import Derived.Lib.Hide
import Derived.Deep.DeepCutAuto
/- Package head: the excess behind a block; the price of blob gas. No condition. -/
namespace Go.Proofs.Ytbmlhdecnfplaaa
set_option linter.unusedVariables false
set_option linter.unusedSimpArgs false
open Go Go.RowKit
theorem FExcess_f {h : Hd} {ao : Option Addr} {n cap : Nat} (hk : h.Ok) : Fn Try.prog 20 #[.agg (h.cells ao n cap).toArray] [] [] (fun v L => v = .int .u64 (exF h.ex.toNat h.bg.toNat : Int) ∧ L = []) := by
  obtain ⟨hA, hA1⟩ := add64_law h.ex h.bg 0 (by decide)
  obtain ⟨hS, hS1⟩ := sub64_law (addS h.ex h.bg 0) 393216 0 (by decide)
  obtain ⟨s, hs⟩ : ∃ s, addS h.ex h.bg 0 = s := ⟨_, rfl⟩
  obtain ⟨c, hc⟩ : ∃ c, addC h.ex h.bg 0 = c := ⟨_, rfl⟩
  rw [hs] at hA hS hS1
  rw [hc] at hA hA1
  obtain ⟨r, hr⟩ : ∃ r, subS s 393216 0 = r := ⟨_, rfl⟩
  obtain ⟨b, hb⟩ : ∃ b, subC s 393216 0 = b := ⟨_, rfl⟩
  rw [hr] at hS
  rw [hb] at hS hS1
  have z0 : (0 : UInt64).toNat = 0 := rfl
  have z1 : (393216 : UInt64).toNat = 393216 := rfl
  rw [z0] at hA hS
  rw [z1] at hS
  have hs64 := s.toNat_lt
  have hr64 := r.toNat_lt
  have hex := h.ex.toNat_lt
  have hbg := h.bg.toNat_lt
  have ext1 : ∀ w, (callFunc 51 #[.int .u64 (h.ex.toNat : Int), .int .u64 (h.bg.toNat : Int), .int .u64 0]).run Try.prog w = .ok (.value (.tuple #[.int .u64 (s.toNat : Int), .int .u64 (c.toNat : Int)])) w := by
    intro w
    have := Add64_x h.ex h.bg 0 (by decide) w
    rw [hs, hc] at this
    exact this
  have ext2 : ∀ w, (callFunc 52 #[.int .u64 (s.toNat : Int), .int .u64 393216, .int .u64 0]).run Try.prog w = .ok (.value (.tuple #[.int .u64 (r.toNat : Int), .int .u64 (b.toNat : Int)])) w := by
    intro w
    have := Sub64_x s 393216 0 (by decide) w
    rw [hr, hb] at this
    exact this
  clear hs hc hr hb
  refine Fn.enter (vs := [.agg (h.cells ao n cap).toArray]) Try.func20 rfl rfl rfl ?_
  intro E R hR
  change At _ _ E [R] _
  refine At.seq fun K1 hk_1 => ?_
  refine At.region ?_
  refine op_box (nxla rfl) rfl rfl rfl (fun N1 b1 B1 => ?_)
  change Blk N1 b1 _ (h.cells ao n cap) at B1
  refine op_assign (nxlf rfl) rfl rfl ?_
  refine At.opsNil ?_
  refine At.norm (hk_1 ?_)
  refine At.seq fun K2 hk_2 => ?_
  refine At.region ?_
  refine op_fieldAddr (nxlf rfl) fl33_19 rfl rfl ?_
  refine op_loadB (nxlf rfl) sc27 rfl B1 (by first | rfl | exact Hd.ex_at hk | exact Hd.bg_at hk) mem0 rfl ?_
  refine op_fieldAddr (nxlf rfl) fl33_18 rfl rfl ?_
  refine op_loadB (nxlf rfl) sc27 rfl B1 (by first | rfl | exact Hd.ex_at hk | exact Hd.bg_at hk) mem0 rfl ?_
  refine op_ext (nxla rfl) (.cons rfl (.cons rfl (.cons rfl .nil))) (ext1) rfl ?_
  refine op_move (nxlf rfl) rfl rfl ?_
  refine op_extract (nxlf rfl) rfl rfl rfl ?_
  refine op_extract (nxlf rfl) rfl rfl rfl ?_
  refine op_assign (nxlf rfl) rfl rfl ?_
  refine op_assign (nxlf rfl) rfl rfl ?_
  refine At.opsNil ?_
  refine At.norm (hk_2 ?_)
  refine At.seq fun K3 hk_3 => ?_
  refine At.region ?_
  refine op_move (nxlf rfl) rfl rfl ?_
  refine op_ext (nxla rfl) (.cons rfl (.cons rfl (.cons rfl .nil))) (ext2) rfl ?_
  refine op_move (nxlf rfl) rfl rfl ?_
  refine op_extract (nxlf rfl) rfl rfl rfl ?_
  refine op_extract (nxlf rfl) rfl rfl rfl ?_
  refine op_assign (nxlf rfl) rfl rfl ?_
  refine op_assign (nxlf rfl) rfl rfl ?_
  refine At.opsNil ?_
  refine At.norm (hk_3 ?_)
  refine At.seq fun K4 hk_4 => ?_
  refine At.block ?_
  refine At.seq fun K5 hk_5 => ?_
  refine At.region ?_
  refine op_move (nxlf rfl) rfl rfl ?_
  refine op_move (nxlf rfl) rfl rfl ?_
  refine op_lss (nxlf rfl) rfl rfl rfl ?_
  refine op_assign (nxlf rfl) rfl rfl ?_
  refine At.opsNil ?_
  refine At.norm (hk_5 ?_)
  refine At.condP rfl (fun c20 => ?_) (fun c20 => ?_)
  · refine At.seq fun K6 hk_6 => ?_
    refine At.region ?_
    refine op_assign (nxlf rfl) rfl rfl ?_
    refine At.opsNil ?_
    refine At.norm (hk_6 ?_)
    refine At.ret (At.inRet (At.thenRet (?_)))
    refine At.sub (L' := [R]) (.cons _ (.cons_cons _ (.slnil))) ?_
    refine At.ret1 (L1 := []) rfl (.tmp rfl .nil) (.refl _) (.refl _) ?_
    refine ⟨?_, rfl⟩
    unfold exF
    first
      | (rw [if_pos (by omega)]; rfl)
      | (rw [if_neg (by omega), if_pos (by omega)]; rfl)
      | (rw [if_neg (by omega), if_neg (by omega)]; exact congrArg (Value.int .u64) (by omega))
  · refine At.seq fun K7 hk_7 => ?_
    refine At.region ?_
    refine op_move (nxlf rfl) rfl rfl ?_
    refine op_move (nxlf rfl) rfl rfl ?_
    refine op_gtr (nxlf rfl) rfl rfl rfl ?_
    refine op_assign (nxlf rfl) rfl rfl ?_
    refine At.opsNil ?_
    refine At.norm (hk_7 ?_)
    refine At.condP rfl (fun c24 => ?_) (fun c24 => ?_)
    · refine At.seq fun K8 hk_8 => ?_
      refine At.region ?_
      refine op_assign (nxlf rfl) rfl rfl ?_
      refine At.opsNil ?_
      refine At.norm (hk_8 ?_)
      refine At.ret (At.inRet (At.thenRet (?_)))
      refine At.sub (L' := [R]) (.cons _ (.cons_cons _ (.slnil))) ?_
      refine At.ret1 (L1 := []) rfl (.tmp rfl .nil) (.refl _) (.refl _) ?_
      refine ⟨?_, rfl⟩
      unfold exF
      first
        | (rw [if_pos (by omega)]; rfl)
        | (rw [if_neg (by omega), if_pos (by omega)]; rfl)
        | (rw [if_neg (by omega), if_neg (by omega)]; exact congrArg (Value.int .u64) (by omega))
    · refine At.skip ?_
      refine At.inNorm ?_
      refine At.norm (hk_4 ?_)
      refine At.seq fun K9 hk_9 => ?_
      refine At.region ?_
      refine op_move (nxlf rfl) rfl rfl ?_
      refine op_assign (nxlf rfl) rfl rfl ?_
      refine At.opsNil ?_
      refine At.norm (hk_9 ?_)
      refine At.ret (?_)
      refine At.sub (L' := [R]) (.cons _ (.cons_cons _ (.slnil))) ?_
      refine At.ret1 (L1 := []) rfl (.tmp rfl .nil) (.refl _) (.refl _) ?_
      refine ⟨?_, rfl⟩
      unfold exF
      first
        | (rw [if_pos (by omega)]; rfl)
        | (rw [if_neg (by omega), if_pos (by omega)]; rfl)
        | (rw [if_neg (by omega), if_neg (by omega)]; exact congrArg (Value.int .u64) (by omega))
theorem limbs_le {V k : Nat} (h : V < 2 ^ k) : (limbsOf V).length ≤ (k + 63) / 64 := by
  rw [length_limbsOf]
  have := bitLen_le.2 h
  omega
theorem limbs_nil {V : Nat} : (limbsOf V).length = 0 ↔ V = 0 := by
  rw [length_limbsOf]
  have h := bitLen_le (n := V) (k := 0)
  rw [Nat.pow_zero] at h
  omega
theorem u64_mul {a b : Nat} (x y : UInt64) (hx : x.toNat = a) (hy : y.toNat = b) (h : a * b < 18446744073709551616) : (x * y).toNat = a * b := by
  rw [UInt64.toNat_mul, hx, hy, Nat.mod_eq_of_lt h]
theorem bT_len {x k : Nat} (h : x ≤ 600000000) (hk : k ≤ 700) : (limbsOf (bT x k)).length ≤ 100 := Nat.le_trans (limbs_le (bT_lt h)) (by omega)
theorem bS_len {x k : Nat} (h : x ≤ 600000000) (hk : k ≤ 700) : (limbsOf (bS x k)).length ≤ 100 := Nat.le_trans (limbs_le (bS_lt h k)) (by omega)
theorem bTx_len {x k : Nat} (h : x ≤ 600000000) (hk : k ≤ 700) : (limbsOf (bT x k * x)).length ≤ 100 := Nat.le_trans (limbs_le (bTx_lt h)) (by omega)
theorem blobQ_len {x k : Nat} (h : x ≤ 600000000) (h0 : bT x k = 0) (hk : k ≤ 700) : (limbsOf (blobQ x)).length ≤ 100 := by
  rw [← blobQ_eq h0 hk]
  exact Nat.le_trans (limbs_le (Nat.lt_of_le_of_lt (Nat.div_le_self ..) (bS_lt h k))) (by omega)
theorem WNot_0 : Fn Try.prog 43 #[.agg #[.int .u64 0, .int .u64 0, .int .u64 0, .int .u64 0]] [] [] (fun v L => v = wo (WW - 1) ∧ L = []) := by
  have := WNot_f (x := 0) WW_pos
  rw [wo_zero, Nat.sub_zero] at this
  exact this
set_option maxRecDepth 100000 in
set_option maxHeartbeats 2000000 in
theorem FBlobFee_f (x : UInt64) : Fn Try.prog 11 #[.int .u64 (x.toNat : Int)] [] [] (fun v L => v = wo (blobF x.toNat) ∧ L = []) := by
  have hWp := WW_pos
  refine Fn.enter (vs := [.int .u64 (x.toNat : Int)]) Try.func11 rfl rfl rfl ?_
  intro E R hR
  change At _ _ E [R] _
  refine At.seq fun K1 hk_1 => ?_
  refine At.region ?_
  refine op_alloc (nxla rfl) ze29 rfl (fun N2 b2 B2 => ?_)
  change Blk N2 b2 _ [.int .u64 0, .int .u64 0, .int .u64 0, .int .u64 0] at B2
  refine At.opsNil ?_
  refine At.norm (hk_1 ?_)
  refine At.seq fun K2 hk_2 => ?_
  refine At.region ?_
  refine op_buildA (out := [.int .u64 0, .int .u64 0, .int .u64 0, .int .u64 0]) (nxlf rfl) ze29 ae29 .nil rfl rfl ?_
  refine op_callA (nxla rfl) (.cons rfl .nil) (WNot_0) Try.func43 rfl rfl (by simp) rfl ?_
  rintro v10 L10 ⟨rfl, rfl⟩
  change At _ _ _ [N2, R] _
  refine op_alloc (nxla rfl) ze29 rfl (fun N3 b3 B3 => ?_)
  change Blk N3 b3 _ [.int .u64 0, .int .u64 0, .int .u64 0, .int .u64 0] at B3
  refine op_store (nxl rfl) sz29 rfl rfl rfl rfl rfl B3 (by simp) sel0 (fun N3 B3 => ?_)
  rw [setL_whole (by simp)] at B3
  refine At.opsNil ?_
  refine At.norm (hk_2 ?_)
  refine At.seq fun K3 hk_3 => ?_
  refine At.seq fun K4 hk_4 => ?_
  refine At.region ?_
  refine op_move (nxlf rfl) rfl rfl ?_
  refine op_gtr (nxlf rfl) rfl rfl rfl ?_
  refine At.opsNil ?_
  refine At.norm (hk_4 ?_)
  refine At.condP rfl (fun c12 => ?_) (fun c12 => ?_)
  · have hF : WW - 1 = blobF x.toNat := by rw [blobF, if_pos (by omega)]
    refine At.seq fun K5 hk_5 => ?_
    refine At.region ?_
    refine op_loadAggB (ds := u64s (wl (WW - 1))) (nxlf rfl) ag29 rfl B3 (by first | (rw [List.drop_zero, List.take_of_length_le (by first | (simp; done) | (simp; omega))]; done) | rfl) (by first | (simp; done) | (simp; omega)) mem0 rfl ?_
    refine op_store (nxl rfl) sz29 rfl rfl rfl rfl rfl B2 (by simp) sel1 (fun N2 B2 => ?_)
    rw [setL_whole (by simp), hF] at B2
    refine At.opsNil ?_
    refine At.norm (hk_5 ?_)
    refine At.ret (At.thenRet (?_))
    refine At.sub (L' := [N2, R]) (.cons_cons _ (.cons _ (.cons_cons _ (.slnil)))) ?_
    refine At.ret1 (L1 := []) rfl (.cell rfl (res_agg (ds := u64s (wl (blobF x.toNat))) ag29 B2 (by first | (rw [List.drop_zero, List.take_of_length_le (by first | (simp; done) | (simp; omega))]; done) | rfl) (by first | (simp; done) | (simp; omega)) mem0) .nil) (.cons _ (.refl _)) (.refl _) ?_
    exact ⟨rfl, rfl⟩
  · have hx6 : x.toNat ≤ 600000000 := by omega
    have hbf : blobF x.toNat = capW (blobQ x.toNat) := by rw [blobF, if_neg (by omega)]
    refine At.skip ?_
    refine At.norm (hk_3 ?_)
    refine At.seq fun K6 hk_6 => ?_
    refine At.region ?_
    refine op_callA (nxla rfl) (.cons rfl .nil) (small_f 0) Try.func27 rfl rfl (by simp) rfl ?_
    rintro v14 L14 ⟨N14, p14, c14, rfl, rfl, s14⟩
    change At _ _ _ [N14, N3, N2, R] _
    refine op_callA (nxla rfl) (.cons rfl .nil) (small_f 3338477) Try.func27 rfl rfl (by simp) rfl ?_
    rintro v15 L15 ⟨N15, p15, c15, rfl, rfl, s15⟩
    change At _ _ _ [N15, N14, N3, N2, R] _
    refine op_assign (nxlf rfl) rfl rfl ?_
    refine op_assign (nxlf rfl) rfl rfl ?_
    refine At.opsNil ?_
    refine At.norm (hk_6 ?_)
    refine At.seq fun K7 hk_7 => ?_
    refine At.seq fun K8 hk_8 => ?_
    refine At.region ?_
    refine op_assign (nxlf rfl) rfl rfl ?_
    refine At.opsNil ?_
    refine At.norm (hk_8 ?_)
    refine At.block ?_
    refine At.perm sel4 ?_
    refine At.perm sel3 ?_
    refine At.perm sel4 ?_
    refine At.perm sel3 ?_
    refine At.perm sel4 ?_
    refine At.loop (fun fr_ hp_ ms_ => ∃ (k : Nat) (i : UInt64) (a b : List UInt64) (pa pb : Option Addr) (na nb ca cb : Nat) (Na Nb : Heaplet), fr_ = [(0, .int .u64 (x.toNat : Int)), (2, .pointer (some ⟨b2, 0, none⟩)), (3, .pointer (some ⟨b3, 0, none⟩)), (4, .slice pa na ca), (5, .slice pb nb cb), (6, .int .u64 (i.toNat : Int))] ∧ hp_ = [Na, Nb, N2, N3, R] ∧ 701 - k = ms_ ∧ (k ≤ 700) ∧ (i.toNat = k + 1) ∧ (RSl Na 1 pa na ca (u64s a)) ∧ (RSl Nb 1 pb nb cb (u64s b)) ∧ (v64 a = bS x.toNat k) ∧ (v64 b = bT x.toNat k) ∧ (na ≤ 100) ∧ (nb ≤ 100)) ?_ (.refl _) ⟨0, 1, [0], [3338477], p14, p15, 1, 1, c14, c15, N14, N15, rfl, rfl, rfl, by omega, rfl, s14, s15, by rw [v64_x1]; rfl, by rw [v64_x1]; rfl, by omega, by omega⟩ ?_
    · exact .cons (by first | exact lkI rfl (by omega) | rfl) (.cons (by first | exact lkI rfl (by omega) | rfl) (.cons (by first | exact lkI rfl (by omega) | rfl) (.cons (by first | exact lkI rfl (by omega) | rfl) (.cons (by first | exact lkI rfl (by omega) | rfl) (.cons (by first | exact lkI rfl (by omega) | rfl) .nil)))))
    rintro _ _ _ ⟨k, i, a, b, pa, pb, na, nb, ca, cb, Na, Nb, rfl, rfl, rfl, hkk, hi, sa, sb, hva, hvb, hna, hnb⟩
    have hmul : (3338477 * i).toNat = 3338477 * (k + 1) := u64_mul _ _ rfl hi (by omega)
    refine At.seq fun K9 hk_9 => ?_
    refine At.seq fun K10 hk_10 => ?_
    refine At.region ?_
    refine op_move (nxlf rfl) rfl rfl ?_
    refine op_callA (nxla rfl) (.cons rfl .nil) (Trim_f sb) Try.func44 rfl rfl (by simp) rfl ?_
    rintro v17 L17 ⟨rfl, rfl, t17, l17⟩
    change At _ _ _ [Na, Nb, N2, N3, R] _
    refine op_lenS (nxlf rfl) se59 rfl rfl ?_
    refine op_gtr (nxlf rfl) rfl rfl rfl ?_
    refine At.opsNil ?_
    refine At.norm (hk_10 ?_)
    refine At.condP rfl (fun c19 => ?_) (fun c19 => ?_)
    · have hne : bT x.toNat k ≠ 0 := by
        intro h0
        rw [hvb, limbs_nil.2 h0] at c19
        exact absurd c19 (by decide)
      have hk1 : k + 1 ≤ 700 := bT_on hx6 hkk hne
      refine At.skip ?_
      refine At.norm (hk_9 ?_)
      refine At.seq fun K11 hk_11 => ?_
      refine At.block ?_
      refine At.seq fun K12 hk_12 => ?_
      refine At.region ?_
      refine op_move (nxlf rfl) rfl rfl ?_
      refine op_move (nxlf rfl) rfl rfl ?_
      refine op_callA (nxla rfl) (.cons rfl (.cons rfl .nil)) (Add_f sa sb (by omega) (by omega)) Try.func29 rfl rfl (by simp) rfl ?_
      rintro v24 L24 ⟨N24, p24, c24, rfl, rfl, s24⟩
      change At _ _ _ [N24, Na, Nb, N2, N3, R] _
      rw [hva, hvb, ← bS_s] at s24 ⊢
      refine op_assign (nxlf rfl) rfl rfl ?_
      refine At.opsNil ?_
      refine At.norm (hk_12 ?_)
      refine At.region ?_
      refine op_move (nxlf rfl) rfl rfl ?_
      refine op_move (nxlf rfl) rfl rfl ?_
      refine op_callA (nxla rfl) (.cons rfl .nil) (small_f x) Try.func27 rfl rfl (by simp) rfl ?_
      rintro v27 L27 ⟨N27, p27, c27, rfl, rfl, s27⟩
      change At _ _ _ [N27, N24, Na, Nb, N2, N3, R] _
      refine op_callA (nxla rfl) (.cons rfl (.cons rfl .nil)) (Mul_f sb s27 (by omega) (by omega)) Try.func25 rfl rfl (by simp) rfl ?_
      rintro v28 L28 ⟨N28, p28, c28, rfl, rfl, s28⟩
      change At _ _ _ [N28, N27, N24, Na, Nb, N2, N3, R] _
      rw [hvb, v64_x1] at s28 ⊢
      refine op_move (nxlf rfl) rfl rfl ?_
      refine op_mulU (a := 3338477) (nxlf rfl) rfl rfl rfl ?_
      refine op_callA (nxla rfl) (.cons rfl (.cons rfl .nil)) (over_f s28 (Nat.le_trans (bTx_len hx6 hkk) (by decide)) (3338477 * i) (by omega)) Try.func26 rfl rfl (by simp) rfl ?_
      rintro v31 L31 ⟨N31, p31, c31, rfl, rfl, s31⟩
      change At _ _ _ [N31, N28, N27, N24, Na, Nb, N2, N3, R] _
      rw [v64_limbsOf, hmul, ← bT_s] at s31 ⊢
      refine op_assign (nxlf rfl) rfl rfl ?_
      refine At.opsNil ?_
      refine At.inNorm ?_
      refine At.norm (hk_11 ?_)
      refine At.region ?_
      refine op_move (nxlf rfl) rfl rfl ?_
      refine op_addU (b := 1) (nxlf rfl) rfl rfl rfl ?_
      refine op_assign (nxlf rfl) rfl rfl ?_
      refine At.opsNil ?_
      refine At.norm ?_
      refine At.sub (L' := [N31, N24, N2, N3, R]) (.cons_cons _ (.cons _ (.cons _ (.cons_cons _ (.cons _ (.cons _ (.cons_cons _ (.cons_cons _ (.cons_cons _ (.slnil)))))))))) ?_
      refine At.perm sel4 ?_
      refine At.perm sel4 ?_
      refine At.perm sel4 ?_
      refine At.perm sel3 ?_
      refine At.perm sel4 ?_
      refine At.back ?_ (.refl _) ⟨k + 1, i + 1, limbsOf (bS x.toNat (k + 1)), limbsOf (bT x.toNat (k + 1)), p24, p31, (limbsOf (bS x.toNat (k + 1))).length, (limbsOf (bT x.toNat (k + 1))).length, c24, c31, N24, N31, rfl, rfl, rfl, hk1, by rw [UInt64.toNat_add, hi]; show (k + 1 + 1) % 18446744073709551616 = _; omega, s24, s31, v64_limbsOf _, v64_limbsOf _, bS_len hx6 hk1, bT_len hx6 hk1⟩ ?_
      · exact .cons (by first | exact lkI rfl (by omega) | rfl) (.cons (by first | exact lkI rfl (by omega) | rfl) (.cons (by first | exact lkI rfl (by omega) | rfl) (.cons (by first | exact lkI rfl (by omega) | rfl) (.cons (by first | exact lkI rfl (by omega) | rfl) (.cons (by first | exact lkI rfl (by omega) | rfl) .nil)))))
      · omega
    · have h0 : bT x.toNat k = 0 := by
        rw [hvb] at c19
        exact limbs_nil.1 (by omega)
      refine At.exit (At.thenExit (At.thenExit (At.inHit ?_)))
      refine At.norm (hk_7 ?_)
      refine At.seq fun K13 hk_13 => ?_
      refine At.seq fun K14 hk_14 => ?_
      refine At.region ?_
      refine op_move (nxlf rfl) rfl rfl ?_
      refine op_callA (nxla rfl) (.cons rfl (.cons rfl .nil)) (over_f sa (by omega) 3338477 (by decide)) Try.func26 rfl rfl (by simp) rfl ?_
      rintro v34 L34 ⟨N34, p34, c34, rfl, rfl, s34⟩
      change At _ _ _ [N34, Na, Nb, N2, N3, R] _
      rw [hva, show (3338477 : UInt64).toNat = 3338477 from rfl, blobQ_eq h0 hkk] at s34 ⊢
      refine op_callA (nxla rfl) (.cons rfl .nil) (fit_f s34 (Nat.le_trans (blobQ_len hx6 h0 hkk) (by decide))) Try.func31 rfl rfl (by simp) rfl ?_
      rintro v35 L35 ⟨rfl, rfl⟩
      change At _ _ _ [N34, Na, Nb, N2, N3, R] _
      rw [v64_limbsOf]
      refine op_move (nxlf rfl) rfl rfl ?_
      refine op_extract (nxlf rfl) rfl rfl rfl ?_
      refine op_extract (nxlf rfl) rfl rfl rfl ?_
      refine op_alloc (nxla rfl) ze29 rfl (fun N7 b7 B7 => ?_)
      change Blk N7 b7 _ [.int .u64 0, .int .u64 0, .int .u64 0, .int .u64 0] at B7
      refine op_store (nxl rfl) sz29 rfl rfl rfl rfl rfl B7 (by simp) sel0 (fun N7 B7 => ?_)
      rw [setL_whole (by simp)] at B7
      refine op_assign (nxlf rfl) rfl rfl ?_
      refine At.opsNil ?_
      refine At.norm (hk_14 ?_)
      refine At.seq fun K15 hk_15 => ?_
      refine At.region ?_
      refine op_move (nxlf rfl) rfl rfl ?_
      refine At.opsNil ?_
      refine At.norm (hk_15 ?_)
      refine At.condP rfl (fun c38 => ?_) (fun c38 => ?_)
      · have hF : fitV (blobQ x.toNat) = blobF x.toNat := by rw [hbf, fitV_y (by assumption), capW, if_pos (by assumption)]
        refine At.seq fun K16 hk_16 => ?_
        refine At.region ?_
        refine op_loadAggB (ds := u64s (wl (fitV (blobQ x.toNat)))) (nxlf rfl) ag29 rfl B7 (by first | (rw [List.drop_zero, List.take_of_length_le (by first | (simp; done) | (simp; omega))]; done) | rfl) (by first | (simp; done) | (simp; omega)) mem0 rfl ?_
        refine op_store (nxl rfl) sz29 rfl rfl rfl rfl rfl B2 (by simp) sel4 (fun N2 B2 => ?_)
        rw [setL_whole (by simp), hF] at B2
        refine At.opsNil ?_
        refine At.norm (hk_16 ?_)
        refine At.ret (At.thenRet (?_))
        refine At.sub (L' := [N2, R]) (.cons_cons _ (.cons _ (.cons _ (.cons _ (.cons _ (.cons _ (.cons_cons _ (.slnil)))))))) ?_
        refine At.ret1 (L1 := []) rfl (.cell rfl (res_agg (ds := u64s (wl (blobF x.toNat))) ag29 B2 (by first | (rw [List.drop_zero, List.take_of_length_le (by first | (simp; done) | (simp; omega))]; done) | rfl) (by first | (simp; done) | (simp; omega)) mem0) .nil) (.cons _ (.refl _)) (.refl _) ?_
        exact ⟨rfl, rfl⟩
      · have hF : WW - 1 = blobF x.toNat := by rw [hbf, capW, if_neg (by assumption)]
        refine At.skip ?_
        refine At.norm (hk_13 ?_)
        refine At.seq fun K17 hk_17 => ?_
        refine At.region ?_
        refine op_loadAggB (ds := u64s (wl (WW - 1))) (nxlf rfl) ag29 rfl B3 (by first | (rw [List.drop_zero, List.take_of_length_le (by first | (simp; done) | (simp; omega))]; done) | rfl) (by first | (simp; done) | (simp; omega)) mem5 rfl ?_
        refine op_store (nxl rfl) sz29 rfl rfl rfl rfl rfl B2 (by simp) sel4 (fun N2 B2 => ?_)
        rw [setL_whole (by simp), hF] at B2
        refine At.opsNil ?_
        refine At.norm (hk_17 ?_)
        refine At.ret (?_)
        refine At.sub (L' := [N2, R]) (.cons_cons _ (.cons _ (.cons _ (.cons _ (.cons _ (.cons _ (.cons_cons _ (.slnil)))))))) ?_
        refine At.ret1 (L1 := []) rfl (.cell rfl (res_agg (ds := u64s (wl (blobF x.toNat))) ag29 B2 (by first | (rw [List.drop_zero, List.take_of_length_le (by first | (simp; done) | (simp; omega))]; done) | rfl) (by first | (simp; done) | (simp; omega)) mem0) .nil) (.cons _ (.refl _)) (.refl _) ?_
        exact ⟨rfl, rfl⟩
end Go.Proofs.Ytbmlhdecnfplaaa
/- The engine, closures called where operations may run in any order. For whatever program. No condition. -/
namespace Go.Proofs.Ytbmlhdecnfplaaa
set_option linter.unusedVariables false
set_option linter.unusedSimpArgs false
open Go Go.RowKit
section
variable {P : Program} {n : Nat} {l : List (Nat × Value)} {E : World} {L : List Heaplet} {X Y : Act → World → Prop} {d : Nat} {ty : TypeId}
theorem op_callVA {f : FuncId} {fn : Func} {c : Operand} {xs : List Operand} {args caps : List Value} {ats : Array TypeId} {Lr : List Heaplet} {Post : Value → List Heaplet → Prop} {pos : _} {aft : _} {g : _} (s : NxA P n l E L ⟨some d, .call ⟨.value c, xs.toArray, ats⟩, ty, pos, aft, g⟩ X Y)
    (hcv : ev l c = some (.func (.func f) #[] caps.toArray)) (ha : Evs l xs args) (hc : Fn P f (args ++ caps).toArray [] Lr Post) (hfn : P.funcs[f]? = some fn) (hb : fn.body.isSome = true) (hne : (fn.name == "runtime.NumGoroutine") = false) (hr : ∀ N ∈ Lr, N ∈ L) (hn : Nat.ble (d + 1) n = true)
    (h : ∀ v L1, Post v L1 → At n ((d, v) :: l) E (L1 ++ L) Y) : At n l E L X := fun a w hf hw => by
  refine s a w hf hw ?_
  unfold Oper.wp
  have hrun : (execOp a.eval ⟨some d, .call ⟨.value c, xs.toArray, ats⟩, ty, pos, aft, g⟩).run P w = .ok (.enter f (args ++ caps).toArray) w := by
    have hne' : fn.name ≠ "runtime.NumGoroutine" := by simpa using hne
    have he := hf.eval hcv
    have hap : args.toArray ++ caps.toArray = (args ++ caps).toArray := by simp
    simp only [execOp, resolve, invoke, Sem.run_bind, Sem.run_pure, Result.andThen_ok, List.map_toArray, ha.map hf, he, Deferred.ofValue, Array.empty_append, hap, run_call hfn hb hne']
  rw [hrun]
  have hwR : Hp E ([] ++ [whole w]) w := (Hp.whole w).env hw.os hw.tape hw.output
  refine Calls.mono (hc E w (whole w) hwR fun N hN => hw.sub N (hr N hN)) ?_
  rintro e w' ⟨v, L1, rfl, hP, hw'⟩
  exact ⟨hw'.agree, h v L1 hP _ _ (hf.put (Nat.le_of_ble_eq_true hn)) (hw'.refine hw.sub hw.sep)⟩
end
end Go.Proofs.Ytbmlhdecnfplaaa
/- Package head: the base fee. No condition. -/
namespace Go.Proofs.Ytbmlhdecnfplaaa
set_option linter.unusedVariables false
set_option linter.unusedSimpArgs false
open Go Go.RowKit
theorem Blk.one1 {N : Heaplet} {b : Nat} {e : TypeId} {v : Value} (h : Blk N b e [v]) : RSl N 1 (some ⟨b, 0, none⟩) 1 1 [v] :=
  ⟨rfl, Nat.le_refl _, by decide, fun _ => ⟨b, 0, rfl, h.rng⟩⟩
theorem limbs_mul {A B p q V : Nat} (ha : A < 2 ^ p) (hb : B < 2 ^ q) (hv : V ≤ A * B) : (limbsOf V).length ≤ (p + q + 63) / 64 := by
  refine limbs_le ?_
  rw [Nat.pow_add]
  exact Nat.lt_of_le_of_lt hv (Nat.mul_lt_mul'' ha hb)
theorem limbs_add {A B m : Nat} (ha : (limbsOf A).length ≤ m) (hb : (limbsOf B).length ≤ m) : (limbsOf (A + B)).length ≤ m + 1 := by
  rw [length_limbsOf] at ha hb ⊢
  have h1 : A < 2 ^ (64 * m) := bitLen_le.1 (by omega)
  have h2 : B < 2 ^ (64 * m) := bitLen_le.1 (by omega)
  have h3 : bitLen (A + B) ≤ 64 * m + 1 := bitLen_le.2 (by rw [Nat.pow_succ]; omega)
  omega
theorem word_len {A : Nat} (h : A < WW) : (limbsOf A).length ≤ 4 := limbs_le (k := 256) h
theorem part_len {b g a : Nat} (hb : b < WW) (ha : a < 2 ^ 64) : (limbsOf (partN b g a)).length ≤ 5 := limbs_mul (p := 256) (q := 64) hb ha (Nat.le_trans (Nat.div_le_self ..) (Nat.div_le_self ..))
theorem more_len {b g a : Nat} (hb : b < WW) (ha : a < 2 ^ 64) : (limbsOf (moreN b g a)).length ≤ 5 := by
  unfold moreN
  split
  · exact Nat.le_trans (limbs_le (V := 1) (k := 1) (by decide)) (by decide)
  · exact part_len hb ha
theorem base_len {gl gu b : Nat} (hb : b < WW) (hu : gu < 2 ^ 64) : (limbsOf (baseF gl gu b)).length ≤ 6 := by
  unfold baseF
  split
  · exact limbs_add (Nat.le_trans (word_len hb) (by decide)) (more_len hb (Nat.lt_of_le_of_lt (Nat.sub_le ..) hu))
  · exact Nat.le_trans (limbs_mono (Nat.sub_le ..)) (Nat.le_trans (word_len hb) (by decide))
set_option maxRecDepth 100000 in
theorem Fpart_f {N8 N6 N : Heaplet} {b8 b6 : Nat} {e8 e6 : TypeId} {p : Option Addr} {n c : Nat} {l : List UInt64} {g : UInt64} (B8 : Blk N8 b8 e8 [.slice p n c]) (B6 : Blk N6 b6 e6 [.int .u64 (g.toNat : Int)]) (sb : RSl N 1 p n c (u64s l)) (hn : n ≤ 1000) (hl : v64 l < WW) (hg : 0 < g.toNat) (a : UInt64) :
    Fn Try.prog 46 #[.int .u64 (a.toNat : Int), .pointer (some ⟨b8, 0, none⟩), .pointer (some ⟨b6, 0, none⟩)] [] [N8, N6, N] (LimbsP (partN (v64 l) g.toNat a.toNat)) := by
  have hm : (limbsOf (v64 l * a.toNat)).length ≤ 5 := limbs_mul (p := 256) (q := 64) hl a.toNat_lt (Nat.le_refl _)
  have hq : (limbsOf (v64 l * a.toNat / g.toNat)).length ≤ 5 := Nat.le_trans (limbs_mono (Nat.div_le_self ..)) hm
  refine Fn.enter (vs := [.int .u64 (a.toNat : Int), .pointer (some ⟨b8, 0, none⟩), .pointer (some ⟨b6, 0, none⟩)]) Try.func46 rfl rfl rfl ?_
  intro E R hR
  have h8 := (B8.le (hR N8 (by simp))).one1
  have h6 := (B6.le (hR N6 (by simp))).one1
  have sb := sb.le (hR N (by simp))
  change At _ _ E [R] _
  refine At.seq fun K1 hk_1 => ?_
  refine At.region ?_
  refine op_assign (nxlf rfl) rfl rfl ?_
  refine At.opsNil ?_
  refine At.norm (hk_1 ?_)
  refine At.seq fun K2 hk_2 => ?_
  refine At.drawnS [R] [5,6] [] [0,1,4,2,3,5,6,7] (by kernel_rfl) (by kernel_rfl) (.refl _) ?_
  refine op_loadE (ao := some ⟨b8, 0, none⟩) (j := 0) (nxsf rfl rfl rfl) sc59 rfl h8 rfl (by first | exact mem0 | exact mem1 | exact mem2 | exact mem3 | exact mem4) rfl ?_
  refine op_move (nxsf rfl rfl rfl) rfl rfl ?_
  refine op_loadE (ao := some ⟨b6, 0, none⟩) (j := 0) (nxsf rfl rfl rfl) sc27 rfl h6 rfl (by first | exact mem0 | exact mem1 | exact mem2 | exact mem3 | exact mem4) rfl ?_
  refine op_callA (Nx.agree (nxsm rfl rfl rfl)) (.cons rfl .nil) (small_f a) Try.func27 rfl rfl (by simp) rfl ?_
  rintro v7 L7 ⟨N7, p7, c7, rfl, rfl, s7⟩
  change At _ _ _ [N7, R] _
  refine At.moreS (Lst := [R]) (Lst' := [N7, R]) (.cons _ (.refl _)) (.refl _) ?_
  refine op_callA (Nx.agree (nxsm rfl rfl rfl)) (.cons rfl (.cons rfl .nil)) (Mul_f sb s7 (by omega) (by omega)) Try.func25 rfl rfl (by simp) rfl ?_
  rintro v8 L8 ⟨N8x, p8, c8, rfl, rfl, s8⟩
  change At _ _ _ [N8x, N7, R] _
  rw [v64_x1] at s8 ⊢
  refine At.moreS (Lst := [N7, R]) (Lst' := [N8x, N7, R]) (.cons _ (.refl _)) (.refl _) ?_
  refine op_callA (Nx.agree (nxss rfl rfl rfl rfl)) (.cons rfl (.cons rfl .nil)) (over_f s8 (by omega) g hg) Try.func26 rfl rfl (by simp) rfl ?_
  rintro v10 L10 ⟨N10, p10, c10, rfl, rfl, s10⟩
  change At _ _ _ [N10, N8x, N7, R] _
  rw [v64_limbsOf] at s10 ⊢
  refine At.anyS (.refl _) ?_
  refine op_callA (Nx.agree (nxss rfl rfl rfl rfl)) (.cons rfl (.cons rfl .nil)) (over_f s10 (by omega) 8 (by decide)) Try.func26 rfl rfl (by simp) rfl ?_
  rintro v11 L11 ⟨N11, p11, c11, rfl, rfl, s11⟩
  change At _ _ _ [N11, N10, N8x, N7, R] _
  rw [v64_limbsOf, show (8 : UInt64).toNat = 8 from rfl] at s11 ⊢
  refine At.anyS (.refl _) ?_
  refine op_assign (nxsf rfl rfl rfl) rfl rfl ?_
  refine At.sNil ?_
  refine At.norm (hk_2 ?_)
  refine At.ret (?_)
  refine At.sub (L' := [N11, R]) (.cons_cons _ (.cons _ (.cons _ (.cons _ (.cons_cons _ (.slnil)))))) ?_
  refine At.ret1 (L1 := [N11]) rfl (.tmp rfl .nil) (.refl _) (.refl _) ?_
  exact ⟨N11, p11, c11, rfl, rfl, s11⟩
section
variable {h : Hd} {ao : Option Addr} {n cap : Nat}
set_option maxRecDepth 100000 in
theorem FBaseFee_1 (hk : h.Ok) : Fn Try.prog 12 #[.bool true, .agg (h.cells ao n cap).toArray] [] [] (fun v L => v = .tuple #[wo 1000000000, .bool true] ∧ L = []) := by
  refine Fn.enter (vs := [.bool true, .agg (h.cells ao n cap).toArray]) Try.func12 rfl rfl rfl ?_
  intro E R hR
  change At _ _ E [R] _
  refine At.seq fun K1 hk_1 => ?_
  refine At.region ?_
  refine op_box (nxla rfl) rfl rfl rfl (fun N3 b3 B3 => ?_)
  refine op_alloc (nxla rfl) ze29 rfl (fun N4 b4 B4 => ?_)
  change Blk N4 b4 _ [.int .u64 0, .int .u64 0, .int .u64 0, .int .u64 0] at B4
  refine op_assign (nxlf rfl) rfl rfl ?_
  refine At.opsNil ?_
  refine At.norm (hk_1 ?_)
  refine At.seq fun K2 hk_2 => ?_
  refine At.seq fun K3 hk_3 => ?_
  refine At.region ?_
  refine op_move (nxlf rfl) rfl rfl ?_
  refine At.opsNil ?_
  refine At.norm (hk_3 ?_)
  refine At.condT rfl ?_
  refine At.seq fun K4 hk_4 => ?_
  refine At.region ?_
  refine op_callA (nxla rfl) (.cons rfl .nil) (WOf_f 1000000000) Try.func45 rfl rfl (by simp) rfl ?_
  rintro v12 L12 ⟨rfl, rfl⟩
  change At _ _ _ [N4, N3, R] _
  refine op_store (nxl rfl) sz29 rfl rfl rfl rfl rfl B4 (by simp) sel0 (fun N4 B4 => ?_)
  rw [setL_whole (by simp)] at B4
  refine op_assign (nxlf rfl) rfl rfl ?_
  refine At.opsNil ?_
  refine At.norm (hk_4 ?_)
  refine At.ret (At.thenRet (?_))
  refine At.sub (L' := [N4, R]) (.cons_cons _ (.cons _ (.cons_cons _ (.slnil)))) ?_
  refine At.retN (L1 := []) rfl (.cell rfl (res_agg (ds := u64s (wl 1000000000)) ag29 B4 (by first | (rw [List.drop_zero, List.take_of_length_le (by first | (simp; done) | (simp; omega))]; done) | rfl) (by first | (simp; done) | (simp; omega)) mem0) (.tmp rfl .nil)) rfl (.cons _ (.refl _)) (.refl _) ?_
  exact ⟨rfl, rfl⟩
set_option maxRecDepth 100000 in
set_option maxHeartbeats 2000000 in
theorem FBaseFee_0 (hk : h.Ok) : Fn Try.prog 12 #[.bool false, .agg (h.cells ao n cap).toArray] [] [] (fun v L => v = .tuple #[wo (feeR false h.gl.toNat h.gu.toNat h.bf).1, .bool (feeR false h.gl.toNat h.gu.toNat h.bf).2] ∧ L = []) := by
  have hbf := hk.bf
  have hbl := base_len (gl := h.gl.toNat) hbf h.gu.toNat_lt
  have hvb := v64_wl_lt hbf
  obtain ⟨g, hg⟩ : ∃ g, h.gl / 2 = g := ⟨_, rfl⟩
  have hgn : g.toNat = h.gl.toNat / 2 := by rw [← hg, UInt64.toNat_div]; rfl
  refine Fn.enter (vs := [.bool false, .agg (h.cells ao n cap).toArray]) Try.func12 rfl rfl rfl ?_
  intro E R hR
  change At _ _ E [R] _
  refine At.seq fun K1 hk_1 => ?_
  refine At.region ?_
  refine op_box (nxla rfl) rfl rfl rfl (fun N3 b3 B3 => ?_)
  change Blk N3 b3 _ (h.cells ao n cap) at B3
  refine op_alloc (nxla rfl) ze29 rfl (fun N4 b4 B4 => ?_)
  change Blk N4 b4 _ [.int .u64 0, .int .u64 0, .int .u64 0, .int .u64 0] at B4
  refine op_assign (nxlf rfl) rfl rfl ?_
  refine At.opsNil ?_
  refine At.norm (hk_1 ?_)
  refine At.seq fun K2 hk_2 => ?_
  refine At.seq fun K3 hk_3 => ?_
  refine At.region ?_
  refine op_move (nxlf rfl) rfl rfl ?_
  refine At.opsNil ?_
  refine At.norm (hk_3 ?_)
  refine At.condF rfl ?_
  refine At.skip ?_
  refine At.norm (hk_2 ?_)
  refine At.seq fun K4 hk_4 => ?_
  refine At.planS [N4, N3, R] (.take 0 (.take 1 (.take 2 (.take 3 (.take 4 (.take 5 (.take 6 (.fork 7 false (.fork 8 false (.fork 9 false (.take 10 (.fork 11 true .done .nofork)) .nofork) .nofork) (.fork 8 false (.fork 7 false (.fork 9 false (.take 10 (.fork 11 true .done .nofork)) .nofork) .nofork) .nofork))))))))) (by kernel_rfl) (by kernel_rfl) (.refl _) ?_
  refine op_fieldAddr (nxpf rfl rfl) fl33_10 rfl rfl ?_
  refine op_loadB (nxpf rfl rfl) sc27 rfl B3 (by first | rfl | exact Hd.gl_at hk | exact Hd.gu_at hk) mem1 rfl ?_
  refine op_quoU (b := 2) (nxpf rfl rfl) rfl rfl (by first | omega | decide) rfl ?_
  rw [hg]
  refine op_fieldAddr (nxpf rfl rfl) fl33_11 rfl rfl ?_
  refine op_loadB (nxpf rfl rfl) sc27 rfl B3 (by first | rfl | exact Hd.gl_at hk | exact Hd.gu_at hk) mem1 rfl ?_
  refine op_fieldAddr (nxpf rfl rfl) fl33_16 rfl rfl ?_
  refine op_sliceA (nxpf rfl rfl) ae29 rfl .none .none .none (by omega) (by omega) (by omega) (by simp) rfl ?_
  refine At.fork ?_ ?_
  rotate_left
  · refine At.fork ?_ ?_
    rotate_left
    · exact At.pNo
    refine op_alloc (Nx.agree (nxpa rfl rfl)) ze59 rfl (fun N8 b8 B8 => ?_)
    change Blk N8 b8 _ [.slice none 0 0] at B8
    refine At.andS (.cons _ (.refl _)) ?_
    refine At.fork ?_ ?_
    rotate_left
    · exact At.pNo
    refine op_alloc (Nx.agree (nxpa rfl rfl)) ze27 rfl (fun N6 b6 B6 => ?_)
    change Blk N6 b6 _ [.int .u64 0] at B6
    refine At.andS (.cons _ (.cons _ (.refl _))) ?_
    refine At.fork ?_ ?_
    rotate_left
    · exact At.pNo
    refine op_store (nxpa rfl rfl) sz27 rfl rfl rfl rfl rfl B6 (by simp) sel0 (fun N6 B6 => ?_)
    simp only [setL, List.set] at B6
    refine At.andS (.cons _ (.cons _ (.refl _))) ?_
    refine op_assign (nxpf rfl rfl) rfl rfl ?_
    refine At.fork ?_ ?_
    rotate_left
    · exact At.pNo
    refine op_store (nxpl rfl rfl) sz59 rfl rfl rfl rfl rfl B8 (by simp) sel1 (fun N8 B8 => ?_)
    simp only [setL, List.set] at B8
    refine At.pDone ?_
    refine At.norm (hk_4 ?_)
    refine At.seq fun K5 hk_5 => ?_
    refine At.seq fun K6 hk_6 => ?_
    refine At.region ?_
    have sb := Hd.slice_bf B3 hk
    refine op_loadB (nxlf rfl) sc27 rfl B6 (by first | rfl | exact Hd.gl_at hk | exact Hd.gu_at hk) mem1 rfl ?_
    refine op_eql (nxlf rfl) rfl rfl rfl ?_
    refine At.opsNil ?_
    refine At.norm (hk_6 ?_)
    refine At.condP rfl (fun c21 => ?_) (fun c21 => ?_)
    · have hf : feeR false h.gl.toNat h.gu.toNat h.bf = (0, false) := feeR_0 (by omega)
      refine At.seq fun K7 hk_7 => ?_
      refine At.region ?_
      refine op_buildA (out := [.int .u64 0, .int .u64 0, .int .u64 0, .int .u64 0]) (nxlf rfl) ze29 ae29 .nil rfl rfl ?_
      refine op_store (nxl rfl) sz29 rfl rfl rfl rfl rfl B4 (by simp) sel2 (fun N4 B4 => ?_)
      have B4 : Blk N4 b4 29 (u64s (wl (feeR false h.gl.toNat h.gu.toNat h.bf).1)) := by rw [hf]; exact B4
      refine op_assign (nxlf rfl) rfl rfl ?_
      refine At.opsNil ?_
      refine At.norm (hk_7 ?_)
      refine At.ret (At.thenRet (?_))
      refine At.sub (L' := [N4, R]) (.cons_cons _ (.cons _ (.cons _ (.cons _ (.cons_cons _ (.slnil)))))) ?_
      refine At.retN (L1 := []) rfl (.cell rfl (res_agg (ds := u64s (wl (feeR false h.gl.toNat h.gu.toNat h.bf).1)) ag29 B4 (by first | (rw [List.drop_zero, List.take_of_length_le (by first | (simp; done) | (simp; omega))]; done) | rfl) (by first | (simp; done) | (simp; omega)) mem0) (.tmp rfl .nil)) rfl (.cons _ (.refl _)) (.refl _) ?_
      exact ⟨by rw [hf]; rfl, rfl⟩
    · have hf : feeR false h.gl.toNat h.gu.toNat h.bf = (fitV (baseF h.gl.toNat h.gu.toNat h.bf), decide (baseF h.gl.toNat h.gu.toNat h.bf < WW)) := feeR_1 (by omega)
      have hg0 : 0 < g.toNat := by omega
      refine At.skip ?_
      refine At.norm (hk_5 ?_)
      refine At.seq fun K8 hk_8 => ?_
      refine At.region ?_
      refine op_mkF (nxlf rfl) .nil (.cons rfl (.cons rfl .nil)) rfl ?_
      refine op_assign (nxlf rfl) rfl rfl ?_
      refine At.opsNil ?_
      refine At.norm (hk_8 ?_)
      refine At.seq fun K9 hk_9 => ?_
      refine At.seq fun K10 hk_10 => ?_
      refine At.region ?_
      refine op_move (nxlf rfl) rfl rfl ?_
      refine op_loadB (nxlf rfl) sc27 rfl B6 (by first | rfl | exact Hd.gl_at hk | exact Hd.gu_at hk) mem1 rfl ?_
      refine op_gtr (nxlf rfl) rfl rfl rfl ?_
      refine At.opsNil ?_
      refine At.norm (hk_10 ?_)
      refine At.condP rfl (fun c26 => ?_) (fun c26 => ?_)
      · have hbase : baseF h.gl.toNat h.gu.toNat h.bf = h.bf + moreN h.bf g.toNat (h.gu - g).toNat := by
          rw [baseF, if_pos (by omega), UInt64.toNat_sub_of_le _ _ (UInt64.le_iff_toNat_le.2 (by omega)), hgn]
        refine At.seq fun K11 hk_11 => ?_
        refine At.region ?_
        refine op_move (nxlf rfl) rfl rfl ?_
        refine op_move (nxlf rfl) rfl rfl ?_
        refine op_loadB (nxlf rfl) sc27 rfl B6 (by first | rfl | exact Hd.gl_at hk | exact Hd.gu_at hk) mem1 rfl ?_
        refine op_subU (nxlf rfl) rfl rfl rfl ?_
        refine op_callV (nxl rfl) rfl (.cons rfl .nil) (Fpart_f B8 B6 sb (by omega) (by rw [hvb]; exact hbf) hg0 (h.gu - g)) (F := [N8, N6, N4, N3, R]) Try.func46 rfl rfl (.refl _) (by simp) rfl ?_
        rintro v31 L31 ⟨N31, p31, c31, rfl, rfl, s31⟩
        change At _ _ _ [N31, N8, N6, N4, N3, R] _
        rw [hvb] at s31 ⊢
        refine op_assign (nxlf rfl) rfl rfl ?_
        refine At.opsNil ?_
        refine At.norm (hk_11 ?_)
        refine At.seq fun K12 hk_12 => ?_
        refine At.seq fun K13 hk_13 => ?_
        refine At.region ?_
        refine op_move (nxlf rfl) rfl rfl ?_
        refine op_lenS (nxlf rfl) se59 rfl rfl ?_
        refine op_eql (nxlf rfl) rfl rfl rfl ?_
        refine At.opsNil ?_
        refine At.norm (hk_13 ?_)
        refine At.condP rfl (fun c34 => ?_) (fun c34 => ?_)
        · have hm1 : moreN h.bf g.toNat (h.gu - g).toNat = 1 := by rw [moreN, if_pos (limbs_nil.1 (by omega))]
          refine At.region ?_
          refine op_callA (nxla rfl) (.cons rfl .nil) (small_f 1) Try.func27 rfl rfl (by simp) rfl ?_
          rintro v35 L35 ⟨N35, p35, c35, rfl, rfl, s35⟩
          change At _ _ _ [N35, N31, N8, N6, N4, N3, R] _
          have sq := s35
          have hq : v64 [1] = moreN h.bf g.toNat (h.gu - g).toNat := by rw [hm1]; rfl
          refine op_assign (nxlf rfl) rfl rfl ?_
          refine At.opsNil ?_
          refine At.norm (hk_12 ?_)
          refine At.seq fun K14 hk_14 => ?_
          refine At.region ?_
          refine op_loadB (nxlf rfl) sc59 rfl B8 (by first | rfl | exact Hd.gl_at hk | exact Hd.gu_at hk) mem2 rfl ?_
          refine op_move (nxlf rfl) rfl rfl ?_
          refine op_callA (nxla rfl) (.cons rfl (.cons rfl .nil)) (Add_f sb sq (by omega) (by omega)) Try.func29 rfl rfl (by simp) rfl ?_
          rintro v38 L38 ⟨N38, p38, c38, rfl, rfl, s38⟩
          change At _ _ _ [N38, N35, N31, N8, N6, N4, N3, R] _
          rw [hvb, hq, ← hbase] at s38 ⊢
          refine op_callA (nxla rfl) (.cons rfl .nil) (fit_f s38 (by omega)) Try.func31 rfl rfl (by simp) rfl ?_
          rintro v39 L39 ⟨rfl, rfl⟩
          change At _ _ _ [N38, N35, N31, N8, N6, N4, N3, R] _
          rw [v64_limbsOf]
          refine op_extract (nxlf rfl) rfl rfl rfl ?_
          refine op_extract (nxlf rfl) rfl rfl rfl ?_
          refine op_store (nxl rfl) sz29 rfl rfl rfl rfl rfl B4 (by simp) sel5 (fun N4 B4 => ?_)
          rw [setL_whole (by simp)] at B4
          have B4 : Blk N4 b4 29 (u64s (wl (feeR false h.gl.toNat h.gu.toNat h.bf).1)) := by rw [hf]; exact B4
          refine op_assign (nxlf rfl) rfl rfl ?_
          refine At.opsNil ?_
          refine At.norm (hk_14 ?_)
          refine At.ret (At.thenRet (?_))
          refine At.sub (L' := [N4, R]) (.cons_cons _ (.cons _ (.cons _ (.cons _ (.cons _ (.cons _ (.cons _ (.cons_cons _ (.slnil))))))))) ?_
          refine At.retN (L1 := []) rfl (.cell rfl (res_agg (ds := u64s (wl (feeR false h.gl.toNat h.gu.toNat h.bf).1)) ag29 B4 (by first | (rw [List.drop_zero, List.take_of_length_le (by first | (simp; done) | (simp; omega))]; done) | rfl) (by first | (simp; done) | (simp; omega)) mem0) (.tmp rfl .nil)) rfl (.cons _ (.refl _)) (.refl _) ?_
          exact ⟨by rw [hf]; rfl, rfl⟩
        · have hm1 : moreN h.bf g.toNat (h.gu - g).toNat = partN h.bf g.toNat (h.gu - g).toNat := by rw [moreN, if_neg (fun h0 => by have := limbs_nil.2 h0; omega)]
          have hpl := part_len (g := g.toNat) hbf (h.gu - g).toNat_lt
          have sq := s31
          have hq : v64 (limbsOf (partN h.bf g.toNat (h.gu - g).toNat)) = moreN h.bf g.toNat (h.gu - g).toNat := by rw [hm1, v64_limbsOf]
          refine At.skip ?_
          refine At.norm (hk_12 ?_)
          refine At.seq fun K15 hk_15 => ?_
          refine At.region ?_
          refine op_loadB (nxlf rfl) sc59 rfl B8 (by first | rfl | exact Hd.gl_at hk | exact Hd.gu_at hk) mem1 rfl ?_
          refine op_move (nxlf rfl) rfl rfl ?_
          refine op_callA (nxla rfl) (.cons rfl (.cons rfl .nil)) (Add_f sb sq (by omega) (by omega)) Try.func29 rfl rfl (by simp) rfl ?_
          rintro v38 L38 ⟨N38, p38, c38, rfl, rfl, s38⟩
          change At _ _ _ [N38, N31, N8, N6, N4, N3, R] _
          rw [hvb, hq, ← hbase] at s38 ⊢
          refine op_callA (nxla rfl) (.cons rfl .nil) (fit_f s38 (by omega)) Try.func31 rfl rfl (by simp) rfl ?_
          rintro v39 L39 ⟨rfl, rfl⟩
          change At _ _ _ [N38, N31, N8, N6, N4, N3, R] _
          rw [v64_limbsOf]
          refine op_extract (nxlf rfl) rfl rfl rfl ?_
          refine op_extract (nxlf rfl) rfl rfl rfl ?_
          refine op_store (nxl rfl) sz29 rfl rfl rfl rfl rfl B4 (by simp) sel4 (fun N4 B4 => ?_)
          rw [setL_whole (by simp)] at B4
          have B4 : Blk N4 b4 29 (u64s (wl (feeR false h.gl.toNat h.gu.toNat h.bf).1)) := by rw [hf]; exact B4
          refine op_assign (nxlf rfl) rfl rfl ?_
          refine At.opsNil ?_
          refine At.norm (hk_15 ?_)
          refine At.ret (At.thenRet (?_))
          refine At.sub (L' := [N4, R]) (.cons_cons _ (.cons _ (.cons _ (.cons _ (.cons _ (.cons _ (.cons_cons _ (.slnil)))))))) ?_
          refine At.retN (L1 := []) rfl (.cell rfl (res_agg (ds := u64s (wl (feeR false h.gl.toNat h.gu.toNat h.bf).1)) ag29 B4 (by first | (rw [List.drop_zero, List.take_of_length_le (by first | (simp; done) | (simp; omega))]; done) | rfl) (by first | (simp; done) | (simp; omega)) mem0) (.tmp rfl .nil)) rfl (.cons _ (.refl _)) (.refl _) ?_
          exact ⟨by rw [hf]; rfl, rfl⟩
      · have hgu : (g - h.gu).toNat = g.toNat - h.gu.toNat := UInt64.toNat_sub_of_le _ _ (UInt64.le_iff_toNat_le.2 (by omega))
        have hbase : baseF h.gl.toNat h.gu.toNat h.bf = h.bf - partN h.bf g.toNat (g - h.gu).toNat := by
          rw [baseF, if_neg (by omega), hgu, hgn]
        have hple : partN h.bf g.toNat (g - h.gu).toNat ≤ h.bf := part_le_b (by omega)
        refine At.skip ?_
        refine At.norm (hk_9 ?_)
        refine At.seq fun K16 hk_16 => ?_
        refine At.drawn [6,7,10] [0,1,2,3,4,5,6,7,8,9,10,11] (by kernel_rfl) (by kernel_rfl) ?_
        refine op_loadB (nxof rfl rfl rfl (by kernel_rfl)) sc59 rfl B8 (by first | rfl | exact Hd.gl_at hk | exact Hd.gu_at hk) mem0 rfl ?_
        refine op_move (nxof rfl rfl rfl (by kernel_rfl)) rfl rfl ?_
        refine op_loadB (nxof rfl rfl rfl (by kernel_rfl)) sc27 rfl B6 (by first | rfl | exact Hd.gl_at hk | exact Hd.gu_at hk) mem1 rfl ?_
        refine op_move (nxof rfl rfl rfl (by kernel_rfl)) rfl rfl ?_
        refine op_subU (nxof rfl rfl rfl (by kernel_rfl)) rfl rfl rfl ?_
        refine op_callVA (nxoa rfl rfl rfl) rfl (.cons rfl .nil) (Fpart_f B8 B6 sb (by omega) (by rw [hvb]; exact hbf) hg0 (g - h.gu)) Try.func46 rfl rfl (by simp) rfl ?_
        rintro v47 L47 ⟨N47, p47, c47, rfl, rfl, s47⟩
        change At _ _ _ [N47, N8, N6, N4, N3, R] _
        rw [hvb] at s47 ⊢
        have hl47 := part_len (g := g.toNat) hbf (g - h.gu).toNat_lt
        refine op_callA (nxosa rfl rfl rfl rfl) (.cons rfl (.cons rfl .nil)) (Sub_f sb s47 (by omega) (by omega) (by rw [hvb, v64_limbsOf]; exact hple)) Try.func28 rfl rfl (by simp) rfl ?_
        rintro v48 L48 ⟨N48, p48, c48, rfl, rfl, s48⟩
        change At _ _ _ [N48, N47, N8, N6, N4, N3, R] _
        rw [hvb, v64_limbsOf, ← hbase] at s48 ⊢
        refine op_callA (nxosa rfl rfl rfl rfl) (.cons rfl .nil) (fit_f s48 (by omega)) Try.func31 rfl rfl (by simp) rfl ?_
        rintro v49 L49 ⟨rfl, rfl⟩
        change At _ _ _ [N48, N47, N8, N6, N4, N3, R] _
        rw [v64_limbsOf]
        refine op_extract (nxof rfl rfl rfl (by kernel_rfl)) rfl rfl rfl ?_
        refine op_extract (nxof rfl rfl rfl (by kernel_rfl)) rfl rfl rfl ?_
        refine op_store (nxos rfl rfl rfl rfl) sz29 rfl rfl rfl rfl rfl B4 (by simp) sel4 (fun N4 B4 => ?_)
        rw [setL_whole (by simp)] at B4
        have B4 : Blk N4 b4 29 (u64s (wl (feeR false h.gl.toNat h.gu.toNat h.bf).1)) := by rw [hf]; exact B4
        refine op_assign (nxof rfl rfl rfl (by kernel_rfl)) rfl rfl ?_
        refine At.oneNil ?_
        refine At.norm (hk_16 ?_)
        refine At.ret (?_)
        refine At.sub (L' := [N4, R]) (.cons_cons _ (.cons _ (.cons _ (.cons _ (.cons _ (.cons _ (.cons_cons _ (.slnil)))))))) ?_
        refine At.retN (L1 := []) rfl (.cell rfl (res_agg (ds := u64s (wl (feeR false h.gl.toNat h.gu.toNat h.bf).1)) ag29 B4 (by first | (rw [List.drop_zero, List.take_of_length_le (by first | (simp; done) | (simp; omega))]; done) | rfl) (by first | (simp; done) | (simp; omega)) mem0) (.tmp rfl .nil)) rfl (.cons _ (.refl _)) (.refl _) ?_
        exact ⟨by rw [hf]; rfl, rfl⟩
  refine op_alloc (Nx.agree (nxpa rfl rfl)) ze27 rfl (fun N6 b6 B6 => ?_)
  change Blk N6 b6 _ [.int .u64 0] at B6
  refine At.andS (.cons _ (.refl _)) ?_
  refine At.fork ?_ ?_
  rotate_left
  · exact At.pNo
  refine op_alloc (Nx.agree (nxpa rfl rfl)) ze59 rfl (fun N8 b8 B8 => ?_)
  change Blk N8 b8 _ [.slice none 0 0] at B8
  refine At.andS (.cons _ (.cons _ (.refl _))) ?_
  refine At.fork ?_ ?_
  rotate_left
  · exact At.pNo
  refine op_store (nxpa rfl rfl) sz27 rfl rfl rfl rfl rfl B6 (by simp) sel1 (fun N6 B6 => ?_)
  simp only [setL, List.set] at B6
  refine At.andS (.cons _ (.cons _ (.refl _))) ?_
  refine op_assign (nxpf rfl rfl) rfl rfl ?_
  refine At.fork ?_ ?_
  rotate_left
  · exact At.pNo
  refine op_store (nxpl rfl rfl) sz59 rfl rfl rfl rfl rfl B8 (by simp) sel1 (fun N8 B8 => ?_)
  simp only [setL, List.set] at B8
  refine At.pDone ?_
  refine At.norm (hk_4 ?_)
  refine At.seq fun K17 hk_17 => ?_
  refine At.seq fun K18 hk_18 => ?_
  refine At.region ?_
  have sb := Hd.slice_bf B3 hk
  refine op_loadB (nxlf rfl) sc27 rfl B6 (by first | rfl | exact Hd.gl_at hk | exact Hd.gu_at hk) mem1 rfl ?_
  refine op_eql (nxlf rfl) rfl rfl rfl ?_
  refine At.opsNil ?_
  refine At.norm (hk_18 ?_)
  refine At.condP rfl (fun c21 => ?_) (fun c21 => ?_)
  · have hf : feeR false h.gl.toNat h.gu.toNat h.bf = (0, false) := feeR_0 (by omega)
    refine At.seq fun K19 hk_19 => ?_
    refine At.region ?_
    refine op_buildA (out := [.int .u64 0, .int .u64 0, .int .u64 0, .int .u64 0]) (nxlf rfl) ze29 ae29 .nil rfl rfl ?_
    refine op_store (nxl rfl) sz29 rfl rfl rfl rfl rfl B4 (by simp) sel2 (fun N4 B4 => ?_)
    have B4 : Blk N4 b4 29 (u64s (wl (feeR false h.gl.toNat h.gu.toNat h.bf).1)) := by rw [hf]; exact B4
    refine op_assign (nxlf rfl) rfl rfl ?_
    refine At.opsNil ?_
    refine At.norm (hk_19 ?_)
    refine At.ret (At.thenRet (?_))
    refine At.sub (L' := [N4, R]) (.cons_cons _ (.cons _ (.cons _ (.cons _ (.cons_cons _ (.slnil)))))) ?_
    refine At.retN (L1 := []) rfl (.cell rfl (res_agg (ds := u64s (wl (feeR false h.gl.toNat h.gu.toNat h.bf).1)) ag29 B4 (by first | (rw [List.drop_zero, List.take_of_length_le (by first | (simp; done) | (simp; omega))]; done) | rfl) (by first | (simp; done) | (simp; omega)) mem0) (.tmp rfl .nil)) rfl (.cons _ (.refl _)) (.refl _) ?_
    exact ⟨by rw [hf]; rfl, rfl⟩
  · have hf : feeR false h.gl.toNat h.gu.toNat h.bf = (fitV (baseF h.gl.toNat h.gu.toNat h.bf), decide (baseF h.gl.toNat h.gu.toNat h.bf < WW)) := feeR_1 (by omega)
    have hg0 : 0 < g.toNat := by omega
    refine At.skip ?_
    refine At.norm (hk_17 ?_)
    refine At.seq fun K20 hk_20 => ?_
    refine At.region ?_
    refine op_mkF (nxlf rfl) .nil (.cons rfl (.cons rfl .nil)) rfl ?_
    refine op_assign (nxlf rfl) rfl rfl ?_
    refine At.opsNil ?_
    refine At.norm (hk_20 ?_)
    refine At.seq fun K21 hk_21 => ?_
    refine At.seq fun K22 hk_22 => ?_
    refine At.region ?_
    refine op_move (nxlf rfl) rfl rfl ?_
    refine op_loadB (nxlf rfl) sc27 rfl B6 (by first | rfl | exact Hd.gl_at hk | exact Hd.gu_at hk) mem1 rfl ?_
    refine op_gtr (nxlf rfl) rfl rfl rfl ?_
    refine At.opsNil ?_
    refine At.norm (hk_22 ?_)
    refine At.condP rfl (fun c26 => ?_) (fun c26 => ?_)
    · have hbase : baseF h.gl.toNat h.gu.toNat h.bf = h.bf + moreN h.bf g.toNat (h.gu - g).toNat := by
        rw [baseF, if_pos (by omega), UInt64.toNat_sub_of_le _ _ (UInt64.le_iff_toNat_le.2 (by omega)), hgn]
      refine At.seq fun K23 hk_23 => ?_
      refine At.region ?_
      refine op_move (nxlf rfl) rfl rfl ?_
      refine op_move (nxlf rfl) rfl rfl ?_
      refine op_loadB (nxlf rfl) sc27 rfl B6 (by first | rfl | exact Hd.gl_at hk | exact Hd.gu_at hk) mem1 rfl ?_
      refine op_subU (nxlf rfl) rfl rfl rfl ?_
      refine op_callV (nxl rfl) rfl (.cons rfl .nil) (Fpart_f B8 B6 sb (by omega) (by rw [hvb]; exact hbf) hg0 (h.gu - g)) (F := [N8, N6, N4, N3, R]) Try.func46 rfl rfl (.refl _) (by simp) rfl ?_
      rintro v31 L31 ⟨N31, p31, c31, rfl, rfl, s31⟩
      change At _ _ _ [N31, N8, N6, N4, N3, R] _
      rw [hvb] at s31 ⊢
      refine op_assign (nxlf rfl) rfl rfl ?_
      refine At.opsNil ?_
      refine At.norm (hk_23 ?_)
      refine At.seq fun K24 hk_24 => ?_
      refine At.seq fun K25 hk_25 => ?_
      refine At.region ?_
      refine op_move (nxlf rfl) rfl rfl ?_
      refine op_lenS (nxlf rfl) se59 rfl rfl ?_
      refine op_eql (nxlf rfl) rfl rfl rfl ?_
      refine At.opsNil ?_
      refine At.norm (hk_25 ?_)
      refine At.condP rfl (fun c34 => ?_) (fun c34 => ?_)
      · have hm1 : moreN h.bf g.toNat (h.gu - g).toNat = 1 := by rw [moreN, if_pos (limbs_nil.1 (by omega))]
        refine At.region ?_
        refine op_callA (nxla rfl) (.cons rfl .nil) (small_f 1) Try.func27 rfl rfl (by simp) rfl ?_
        rintro v35 L35 ⟨N35, p35, c35, rfl, rfl, s35⟩
        change At _ _ _ [N35, N31, N8, N6, N4, N3, R] _
        have sq := s35
        have hq : v64 [1] = moreN h.bf g.toNat (h.gu - g).toNat := by rw [hm1]; rfl
        refine op_assign (nxlf rfl) rfl rfl ?_
        refine At.opsNil ?_
        refine At.norm (hk_24 ?_)
        refine At.seq fun K26 hk_26 => ?_
        refine At.region ?_
        refine op_loadB (nxlf rfl) sc59 rfl B8 (by first | rfl | exact Hd.gl_at hk | exact Hd.gu_at hk) mem2 rfl ?_
        refine op_move (nxlf rfl) rfl rfl ?_
        refine op_callA (nxla rfl) (.cons rfl (.cons rfl .nil)) (Add_f sb sq (by omega) (by omega)) Try.func29 rfl rfl (by simp) rfl ?_
        rintro v38 L38 ⟨N38, p38, c38, rfl, rfl, s38⟩
        change At _ _ _ [N38, N35, N31, N8, N6, N4, N3, R] _
        rw [hvb, hq, ← hbase] at s38 ⊢
        refine op_callA (nxla rfl) (.cons rfl .nil) (fit_f s38 (by omega)) Try.func31 rfl rfl (by simp) rfl ?_
        rintro v39 L39 ⟨rfl, rfl⟩
        change At _ _ _ [N38, N35, N31, N8, N6, N4, N3, R] _
        rw [v64_limbsOf]
        refine op_extract (nxlf rfl) rfl rfl rfl ?_
        refine op_extract (nxlf rfl) rfl rfl rfl ?_
        refine op_store (nxl rfl) sz29 rfl rfl rfl rfl rfl B4 (by simp) sel5 (fun N4 B4 => ?_)
        rw [setL_whole (by simp)] at B4
        have B4 : Blk N4 b4 29 (u64s (wl (feeR false h.gl.toNat h.gu.toNat h.bf).1)) := by rw [hf]; exact B4
        refine op_assign (nxlf rfl) rfl rfl ?_
        refine At.opsNil ?_
        refine At.norm (hk_26 ?_)
        refine At.ret (At.thenRet (?_))
        refine At.sub (L' := [N4, R]) (.cons_cons _ (.cons _ (.cons _ (.cons _ (.cons _ (.cons _ (.cons _ (.cons_cons _ (.slnil))))))))) ?_
        refine At.retN (L1 := []) rfl (.cell rfl (res_agg (ds := u64s (wl (feeR false h.gl.toNat h.gu.toNat h.bf).1)) ag29 B4 (by first | (rw [List.drop_zero, List.take_of_length_le (by first | (simp; done) | (simp; omega))]; done) | rfl) (by first | (simp; done) | (simp; omega)) mem0) (.tmp rfl .nil)) rfl (.cons _ (.refl _)) (.refl _) ?_
        exact ⟨by rw [hf]; rfl, rfl⟩
      · have hm1 : moreN h.bf g.toNat (h.gu - g).toNat = partN h.bf g.toNat (h.gu - g).toNat := by rw [moreN, if_neg (fun h0 => by have := limbs_nil.2 h0; omega)]
        have hpl := part_len (g := g.toNat) hbf (h.gu - g).toNat_lt
        have sq := s31
        have hq : v64 (limbsOf (partN h.bf g.toNat (h.gu - g).toNat)) = moreN h.bf g.toNat (h.gu - g).toNat := by rw [hm1, v64_limbsOf]
        refine At.skip ?_
        refine At.norm (hk_24 ?_)
        refine At.seq fun K27 hk_27 => ?_
        refine At.region ?_
        refine op_loadB (nxlf rfl) sc59 rfl B8 (by first | rfl | exact Hd.gl_at hk | exact Hd.gu_at hk) mem1 rfl ?_
        refine op_move (nxlf rfl) rfl rfl ?_
        refine op_callA (nxla rfl) (.cons rfl (.cons rfl .nil)) (Add_f sb sq (by omega) (by omega)) Try.func29 rfl rfl (by simp) rfl ?_
        rintro v38 L38 ⟨N38, p38, c38, rfl, rfl, s38⟩
        change At _ _ _ [N38, N31, N8, N6, N4, N3, R] _
        rw [hvb, hq, ← hbase] at s38 ⊢
        refine op_callA (nxla rfl) (.cons rfl .nil) (fit_f s38 (by omega)) Try.func31 rfl rfl (by simp) rfl ?_
        rintro v39 L39 ⟨rfl, rfl⟩
        change At _ _ _ [N38, N31, N8, N6, N4, N3, R] _
        rw [v64_limbsOf]
        refine op_extract (nxlf rfl) rfl rfl rfl ?_
        refine op_extract (nxlf rfl) rfl rfl rfl ?_
        refine op_store (nxl rfl) sz29 rfl rfl rfl rfl rfl B4 (by simp) sel4 (fun N4 B4 => ?_)
        rw [setL_whole (by simp)] at B4
        have B4 : Blk N4 b4 29 (u64s (wl (feeR false h.gl.toNat h.gu.toNat h.bf).1)) := by rw [hf]; exact B4
        refine op_assign (nxlf rfl) rfl rfl ?_
        refine At.opsNil ?_
        refine At.norm (hk_27 ?_)
        refine At.ret (At.thenRet (?_))
        refine At.sub (L' := [N4, R]) (.cons_cons _ (.cons _ (.cons _ (.cons _ (.cons _ (.cons _ (.cons_cons _ (.slnil)))))))) ?_
        refine At.retN (L1 := []) rfl (.cell rfl (res_agg (ds := u64s (wl (feeR false h.gl.toNat h.gu.toNat h.bf).1)) ag29 B4 (by first | (rw [List.drop_zero, List.take_of_length_le (by first | (simp; done) | (simp; omega))]; done) | rfl) (by first | (simp; done) | (simp; omega)) mem0) (.tmp rfl .nil)) rfl (.cons _ (.refl _)) (.refl _) ?_
        exact ⟨by rw [hf]; rfl, rfl⟩
    · have hgu : (g - h.gu).toNat = g.toNat - h.gu.toNat := UInt64.toNat_sub_of_le _ _ (UInt64.le_iff_toNat_le.2 (by omega))
      have hbase : baseF h.gl.toNat h.gu.toNat h.bf = h.bf - partN h.bf g.toNat (g - h.gu).toNat := by
        rw [baseF, if_neg (by omega), hgu, hgn]
      have hple : partN h.bf g.toNat (g - h.gu).toNat ≤ h.bf := part_le_b (by omega)
      refine At.skip ?_
      refine At.norm (hk_21 ?_)
      refine At.seq fun K28 hk_28 => ?_
      refine At.drawn [6,7,10] [0,1,2,3,4,5,6,7,8,9,10,11] (by kernel_rfl) (by kernel_rfl) ?_
      refine op_loadB (nxof rfl rfl rfl (by kernel_rfl)) sc59 rfl B8 (by first | rfl | exact Hd.gl_at hk | exact Hd.gu_at hk) mem0 rfl ?_
      refine op_move (nxof rfl rfl rfl (by kernel_rfl)) rfl rfl ?_
      refine op_loadB (nxof rfl rfl rfl (by kernel_rfl)) sc27 rfl B6 (by first | rfl | exact Hd.gl_at hk | exact Hd.gu_at hk) mem1 rfl ?_
      refine op_move (nxof rfl rfl rfl (by kernel_rfl)) rfl rfl ?_
      refine op_subU (nxof rfl rfl rfl (by kernel_rfl)) rfl rfl rfl ?_
      refine op_callVA (nxoa rfl rfl rfl) rfl (.cons rfl .nil) (Fpart_f B8 B6 sb (by omega) (by rw [hvb]; exact hbf) hg0 (g - h.gu)) Try.func46 rfl rfl (by simp) rfl ?_
      rintro v47 L47 ⟨N47, p47, c47, rfl, rfl, s47⟩
      change At _ _ _ [N47, N8, N6, N4, N3, R] _
      rw [hvb] at s47 ⊢
      have hl47 := part_len (g := g.toNat) hbf (g - h.gu).toNat_lt
      refine op_callA (nxosa rfl rfl rfl rfl) (.cons rfl (.cons rfl .nil)) (Sub_f sb s47 (by omega) (by omega) (by rw [hvb, v64_limbsOf]; exact hple)) Try.func28 rfl rfl (by simp) rfl ?_
      rintro v48 L48 ⟨N48, p48, c48, rfl, rfl, s48⟩
      change At _ _ _ [N48, N47, N8, N6, N4, N3, R] _
      rw [hvb, v64_limbsOf, ← hbase] at s48 ⊢
      refine op_callA (nxosa rfl rfl rfl rfl) (.cons rfl .nil) (fit_f s48 (by omega)) Try.func31 rfl rfl (by simp) rfl ?_
      rintro v49 L49 ⟨rfl, rfl⟩
      change At _ _ _ [N48, N47, N8, N6, N4, N3, R] _
      rw [v64_limbsOf]
      refine op_extract (nxof rfl rfl rfl (by kernel_rfl)) rfl rfl rfl ?_
      refine op_extract (nxof rfl rfl rfl (by kernel_rfl)) rfl rfl rfl ?_
      refine op_store (nxos rfl rfl rfl rfl) sz29 rfl rfl rfl rfl rfl B4 (by simp) sel4 (fun N4 B4 => ?_)
      rw [setL_whole (by simp)] at B4
      have B4 : Blk N4 b4 29 (u64s (wl (feeR false h.gl.toNat h.gu.toNat h.bf).1)) := by rw [hf]; exact B4
      refine op_assign (nxof rfl rfl rfl (by kernel_rfl)) rfl rfl ?_
      refine At.oneNil ?_
      refine At.norm (hk_28 ?_)
      refine At.ret (?_)
      refine At.sub (L' := [N4, R]) (.cons_cons _ (.cons _ (.cons _ (.cons _ (.cons _ (.cons _ (.cons_cons _ (.slnil)))))))) ?_
      refine At.retN (L1 := []) rfl (.cell rfl (res_agg (ds := u64s (wl (feeR false h.gl.toNat h.gu.toNat h.bf).1)) ag29 B4 (by first | (rw [List.drop_zero, List.take_of_length_le (by first | (simp; done) | (simp; omega))]; done) | rfl) (by first | (simp; done) | (simp; omega)) mem0) (.tmp rfl .nil)) rfl (.cons _ (.refl _)) (.refl _) ?_
      exact ⟨by rw [hf]; rfl, rfl⟩
theorem FBaseFee_f (hk : h.Ok) (first : Bool) : Fn Try.prog 12 #[.bool first, .agg (h.cells ao n cap).toArray] [] [] (fun v L => v = .tuple #[wo (feeR first h.gl.toNat h.gu.toNat h.bf).1, .bool (feeR first h.gl.toNat h.gu.toNat h.bf).2] ∧ L = []) := by
  cases first
  · exact FBaseFee_0 hk
  · exact FBaseFee_1 hk
end
end Go.Proofs.Ytbmlhdecnfplaaa
/- Layer 13: fork.since and helps for the walks over forks. No condition but those told below. -/
namespace Go.Proofs.Ytbmlhdecnfplaaa
set_option linter.unusedVariables false
set_option linter.unusedSimpArgs false
open Go.RowKit

theorem ret_of {w w' : World} {R : Value → World → Prop} {v : Value} (hR : R v w') (hb : Below w.heap.size w w') : Ret w R (.returned v) w' := ⟨v, rfl, hR, hb⟩

/-- The fork from which on there is an operation; 99: there is none. -/
def firstM (op : Int) : Int :=
  if (0 ≤ op ∧ op ≤ 11) ∨ (16 ≤ op ∧ op ≤ 26) ∨ op = 32 ∨ (48 ≤ op ∧ op ≤ 60) ∨ (64 ≤ op ∧ op ≤ 69) ∨ (80 ≤ op ∧ op ≤ 91) ∨ (96 ≤ op ∧ op ≤ 164) ∨ (240 ≤ op ∧ op ≤ 243) ∨ op = 255 then 0
  else if op = 244 then 1
  else if op = 61 ∨ op = 62 ∨ op = 250 ∨ op = 253 then 4
  else if (27 ≤ op ∧ op ≤ 29) ∨ op = 63 ∨ op = 245 then 5
  else if op = 70 ∨ op = 71 then 7
  else if op = 72 then 10
  else if op = 95 then 14
  else if op = 73 ∨ op = 74 ∨ (92 ≤ op ∧ op ≤ 94) then 15
  else 99
def sinceM (op : Int) : Int := if firstM op = 99 then -1 else firstM op

def opM (f op : Int) : Bool := decide (0 ≤ f ∧ f ≤ 15 ∧ firstM op ≤ f)
end Go.Proofs.Ytbmlhdecnfplaaa
