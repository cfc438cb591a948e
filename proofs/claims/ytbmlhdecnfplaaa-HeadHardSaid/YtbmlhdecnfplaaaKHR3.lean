/- The reference of package head: the difficulty. No condition. -/
import Derived.Test.YtbmlhdecnfplaaaK21
import Derived.Test.YtbmlhdecnfplaaaK26
namespace Go.Proofs.Ytbmlhdecnfplaaa
set_option linter.unusedVariables false
set_option linter.unusedSimpArgs false
open Go Go.RowKit
def upS (s : Nat × Bool) : Nat := if s.2 = true then 0 else s.1
def dnS (s : Nat × Bool) : Nat := if s.2 = true then s.1 else 0
theorem upS_le {s : Nat × Bool} (h : s.1 ≤ 99) : upS s ≤ 99 := by unfold upS; split <;> omega
theorem dnS_le {s : Nat × Bool} (h : s.1 ≤ 99) : dnS s ≤ 99 := by unfold dnS; split <;> omega
theorem difX_ud (d : Nat) (s : Nat × Bool) : d + d / 2048 * upS s - d / 2048 * dnS s = difX d s := by
  unfold difX upS dnS
  split
  · rw [Nat.mul_zero, Nat.add_zero]
  · rw [Nat.mul_zero, Nat.sub_zero]
theorem dn_le (d : Nat) {s : Nat × Bool} (h : s.1 ≤ 99) : d / 2048 * dnS s ≤ d + d / 2048 * upS s := by
  have := part_d (d := d) (dnS_le h)
  omega
theorem dir0_y {f : Nat} {b : Bool} {t : Nat} (h : f = 0) (ht : t < 13) : upS (dirF f b t) = 1 ∧ dnS (dirF f b t) = 0 := by
  subst h
  rw [dirF_0, decide_eq_false (by omega)]
  exact ⟨rfl, rfl⟩
theorem dir0_n {f : Nat} {b : Bool} {t : Nat} (h : f = 0) (ht : ¬ t < 13) : upS (dirF f b t) = 0 ∧ dnS (dirF f b t) = 1 := by
  subst h
  rw [dirF_0, decide_eq_true (by omega)]
  exact ⟨rfl, rfl⟩
set_option maxRecDepth 100000 in
theorem rSteps_f (y k : UInt64) : Fn Try.prog 34 #[.int .u64 (y.toNat : Int), .int .u64 (k.toNat : Int)] [] [] (fun v L => ∃ u d : UInt64, v = .tuple #[.int .u64 (u.toNat : Int), .int .u64 (d.toNat : Int)] ∧ L = [] ∧ u.toNat = upS (stepN y.toNat k.toNat) ∧ d.toNat = dnS (stepN y.toNat k.toNat)) := by
  refine Fn.enter (vs := [.int .u64 (y.toNat : Int), .int .u64 (k.toNat : Int)]) Try.func34 rfl rfl rfl ?_
  intro E R hR
  change At _ _ E [R] _
  refine At.seq fun K1 hk_1 => ?_
  refine At.region ?_
  refine op_assign (nxlf rfl) rfl rfl ?_
  refine op_assign (nxlf rfl) rfl rfl ?_
  refine At.opsNil ?_
  refine At.norm (hk_1 ?_)
  refine At.seq fun K2 hk_2 => ?_
  refine At.seq fun K3 hk_3 => ?_
  refine At.region ?_
  refine op_move (nxlf rfl) rfl rfl ?_
  refine op_move (nxlf rfl) rfl rfl ?_
  refine op_leq (nxlf rfl) rfl rfl rfl ?_
  refine At.opsNil ?_
  refine At.norm (hk_3 ?_)
  refine At.condP rfl (fun c8 => ?_) (fun c8 => ?_)
  · refine At.seq fun K4 hk_4 => ?_
    refine At.region ?_
    refine op_move (nxlf rfl) rfl rfl ?_
    refine op_move (nxlf rfl) rfl rfl ?_
    refine op_subU (nxlf rfl) rfl rfl rfl ?_
    refine op_assign (nxlf rfl) rfl rfl ?_
    refine op_assign (nxlf rfl) rfl rfl ?_
    refine At.opsNil ?_
    refine At.norm (hk_4 ?_)
    refine At.ret (At.thenRet (?_))
    refine At.retN (L1 := []) rfl (.tmp rfl (.tmp rfl .nil)) rfl (.refl _) (.refl _) ?_
    have hle : k.toNat ≤ y.toNat := by omega
    exact ⟨y - k, 0, rfl, rfl, by rw [stepN_up hle]; exact sub_nat hle, by rw [stepN_up hle]; rfl⟩
  · have hd : (k - y).toNat = k.toNat - y.toNat := sub_nat (by omega)
    refine At.skip ?_
    refine At.norm (hk_2 ?_)
    refine At.seq fun K5 hk_5 => ?_
    refine At.seq fun K6 hk_6 => ?_
    refine At.region ?_
    refine op_move (nxlf rfl) rfl rfl ?_
    refine op_move (nxlf rfl) rfl rfl ?_
    refine op_subU (nxlf rfl) rfl rfl rfl ?_
    refine op_gtr (nxlf rfl) rfl rfl rfl ?_
    refine At.opsNil ?_
    refine At.norm (hk_6 ?_)
    refine At.condP rfl (fun c15 => ?_) (fun c15 => ?_)
    · refine At.seq fun K7 hk_7 => ?_
      refine At.region ?_
      refine op_assign (nxlf rfl) rfl rfl ?_
      refine op_assign (nxlf rfl) rfl rfl ?_
      refine At.opsNil ?_
      refine At.norm (hk_7 ?_)
      refine At.ret (At.thenRet (?_))
      refine At.retN (L1 := []) rfl (.tmp rfl (.tmp rfl .nil)) rfl (.refl _) (.refl _) ?_
      have hle : ¬ k.toNat ≤ y.toNat := by omega
      have hm : min (k.toNat - y.toNat) 99 = 99 := by omega
      exact ⟨0, 99, rfl, rfl, by rw [stepN_dn hle]; rfl, by rw [stepN_dn hle, hm]; rfl⟩
    · refine At.skip ?_
      refine At.norm (hk_5 ?_)
      refine At.seq fun K8 hk_8 => ?_
      refine At.region ?_
      refine op_move (nxlf rfl) rfl rfl ?_
      refine op_move (nxlf rfl) rfl rfl ?_
      refine op_subU (nxlf rfl) rfl rfl rfl ?_
      refine op_assign (nxlf rfl) rfl rfl ?_
      refine op_assign (nxlf rfl) rfl rfl ?_
      refine At.opsNil ?_
      refine At.norm (hk_8 ?_)
      refine At.ret (?_)
      refine At.retN (L1 := []) rfl (.tmp rfl (.tmp rfl .nil)) rfl (.refl _) (.refl _) ?_
      have hle : ¬ k.toNat ≤ y.toNat := by omega
      have hm : min (k.toNat - y.toNat) 99 = k.toNat - y.toNat := by omega
      exact ⟨0, k - y, rfl, rfl, by rw [stepN_dn hle]; rfl, by rw [stepN_dn hle, hm]; exact hd⟩
section
variable {h : Hd} {ao : Option Addr} {n cap : Nat}
set_option maxRecDepth 100000 in
theorem rDiff_a (hk : h.Ok) {f : Int} (tm : UInt64) (hb : f < 0 ∨ 12 < f ∨ tm.toNat ≤ h.ti.toNat) : Fn Try.prog 8 #[.int .i64 f, .agg (h.cells ao n cap).toArray, .int .u64 (tm.toNat : Int)] [] [] (fun v L => v = .tuple #[wo 0, .bool false] ∧ L = []) := by
  refine Fn.enter (vs := [.int .i64 f, .agg (h.cells ao n cap).toArray, .int .u64 (tm.toNat : Int)]) Try.func8 rfl rfl rfl ?_
  intro E R hR
  change At _ _ E [R] _
  refine At.seq fun K1 hk_1 => ?_
  refine At.region ?_
  refine op_box (nxla rfl) rfl rfl rfl (fun N4 b4 B4 => ?_)
  change Blk N4 b4 _ (h.cells ao n cap) at B4
  refine op_alloc (nxla rfl) ze29 rfl (fun N6 b6 B6 => ?_)
  change Blk N6 b6 _ [.int .u64 0, .int .u64 0, .int .u64 0, .int .u64 0] at B6
  refine op_assign (nxlf rfl) rfl rfl ?_
  refine At.opsNil ?_
  refine At.norm (hk_1 ?_)
  refine At.seq fun K2 hk_2 => ?_
  refine At.seq fun K3 hk_3 => ?_
  refine At.region ?_
  refine op_move (nxlf rfl) rfl rfl ?_
  refine op_lss (nxlf rfl) rfl rfl rfl ?_
  refine op_move (nxlf rfl) rfl rfl ?_
  refine At.partP (d := 21) rfl (fun g21 => ?_) (fun g21 => ?_)
  · refine op_skip rfl rfl rfl rfl rfl rfl rfl ?_
    refine op_skip rfl rfl rfl rfl rfl rfl rfl ?_
    refine op_pickT (nxlf rfl) rfl rfl rfl ?_
    refine op_move (nxlf rfl) rfl rfl ?_
    refine op_skip rfl rfl rfl rfl rfl rfl rfl ?_
    refine op_skip rfl rfl rfl rfl rfl rfl rfl ?_
    refine op_skip rfl rfl rfl rfl rfl rfl rfl ?_
    refine op_skip rfl rfl rfl rfl rfl rfl rfl ?_
    refine op_pickT (nxlf rfl) rfl rfl rfl ?_
    refine At.opsNil ?_
    refine At.norm (hk_3 ?_)
    refine At.condT rfl ?_
    refine At.seq fun K4 hk_4 => ?_
    refine At.region ?_
    refine op_buildA (out := [.int .u64 0, .int .u64 0, .int .u64 0, .int .u64 0]) (nxlf rfl) ze29 ae29 .nil rfl rfl ?_
    refine op_store (nxl rfl) sz29 rfl rfl rfl rfl rfl B6 (by simp) sel0 (fun N6 B6 => ?_)
    simp only [setL, List.set] at B6
    refine op_assign (nxlf rfl) rfl rfl ?_
    refine At.opsNil ?_
    refine At.norm (hk_4 ?_)
    refine At.ret (At.thenRet (?_))
    refine At.sub (L' := [N6, R]) (.cons_cons _ (.cons _ (.cons_cons _ (.slnil)))) ?_
    refine At.retN (L1 := []) rfl (.cell rfl (res_agg (ds := [_, _, _, _]) ag29 B6 rfl rfl mem0) (.tmp rfl .nil)) rfl (.cons _ (.refl _)) (.refl _) ?_
    exact ⟨by rw [wo_zero], rfl⟩
  · refine op_move (nxgf rfl rfl rfl rfl) rfl rfl ?_
    refine op_gtr (nxgf rfl rfl rfl rfl) rfl rfl rfl ?_
    refine op_pickF (nxlf rfl) rfl rfl rfl ?_
    refine op_move (nxlf rfl) rfl rfl ?_
    refine At.partP (d := 25) rfl (fun g25 => ?_) (fun g25 => ?_)
    · refine op_skip rfl rfl rfl rfl rfl rfl rfl ?_
      refine op_skip rfl rfl rfl rfl rfl rfl rfl ?_
      refine op_skip rfl rfl rfl rfl rfl rfl rfl ?_
      refine op_skip rfl rfl rfl rfl rfl rfl rfl ?_
      refine op_pickT (nxlf rfl) rfl rfl rfl ?_
      refine At.opsNil ?_
      refine At.norm (hk_3 ?_)
      refine At.condT rfl ?_
      refine At.seq fun K5 hk_5 => ?_
      refine At.region ?_
      refine op_buildA (out := [.int .u64 0, .int .u64 0, .int .u64 0, .int .u64 0]) (nxlf rfl) ze29 ae29 .nil rfl rfl ?_
      refine op_store (nxl rfl) sz29 rfl rfl rfl rfl rfl B6 (by simp) sel0 (fun N6 B6 => ?_)
      simp only [setL, List.set] at B6
      refine op_assign (nxlf rfl) rfl rfl ?_
      refine At.opsNil ?_
      refine At.norm (hk_5 ?_)
      refine At.ret (At.thenRet (?_))
      refine At.sub (L' := [N6, R]) (.cons_cons _ (.cons _ (.cons_cons _ (.slnil)))) ?_
      refine At.retN (L1 := []) rfl (.cell rfl (res_agg (ds := [_, _, _, _]) ag29 B6 rfl rfl mem0) (.tmp rfl .nil)) rfl (.cons _ (.refl _)) (.refl _) ?_
      exact ⟨by rw [wo_zero], rfl⟩
    · refine op_move (nxgf rfl rfl rfl rfl) rfl rfl ?_
      refine op_fieldAddr (nxgf rfl rfl rfl rfl) fl33_12 rfl rfl ?_
      refine op_loadB (nxgf rfl rfl rfl rfl) sc27 rfl B4 (by first | rfl | exact Hd.ti_at hk) mem1 rfl ?_
      refine op_leq (nxgf rfl rfl rfl rfl) rfl rfl rfl ?_
      refine op_pickF (nxlf rfl) rfl rfl rfl ?_
      refine At.opsNil ?_
      refine At.norm (hk_3 ?_)
      refine At.condP rfl (fun c30 => ?_) (fun c30 => ?_)
      · refine At.seq fun K6 hk_6 => ?_
        refine At.region ?_
        refine op_buildA (out := [.int .u64 0, .int .u64 0, .int .u64 0, .int .u64 0]) (nxlf rfl) ze29 ae29 .nil rfl rfl ?_
        refine op_store (nxl rfl) sz29 rfl rfl rfl rfl rfl B6 (by simp) sel0 (fun N6 B6 => ?_)
        simp only [setL, List.set] at B6
        refine op_assign (nxlf rfl) rfl rfl ?_
        refine At.opsNil ?_
        refine At.norm (hk_6 ?_)
        refine At.ret (At.thenRet (?_))
        refine At.sub (L' := [N6, R]) (.cons_cons _ (.cons _ (.cons_cons _ (.slnil)))) ?_
        refine At.retN (L1 := []) rfl (.cell rfl (res_agg (ds := [_, _, _, _]) ag29 B6 rfl rfl mem0) (.tmp rfl .nil)) rfl (.cons _ (.refl _)) (.refl _) ?_
        exact ⟨by rw [wo_zero], rfl⟩
      · exfalso; omega
theorem fit_far {f de nu d : Nat} {b : Bool} {t V A : Nat} (hV : V = hardX f de nu d b t) (hp : ¬ bombP de nu < 2) (h3 : bombP de nu ≤ 300) (hA : A = difD d (dirF f b t) + 2 ^ (bombP de nu - 2)) : fitV A = fitV V ∧ decide (A < WW) = decide (V < WW) := by
  by_cases hn : bombP de nu - 2 ≤ 256
  · rw [hV, hardX, bomb_near hp hn, ← hA]; exact ⟨rfl, rfl⟩
  · have e1 : WW ≤ 2 ^ (bombP de nu - 2) := Nat.pow_le_pow_right (by decide) (by omega)
    have e2 : bombF de nu = WW := by rw [bomb_2 hp, Nat.min_eq_right (by omega)]; rfl
    have h1 : ¬ A < WW := by omega
    have h2 : ¬ V < WW := by rw [hV, hardX, e2]; omega
    rw [fitV_n h1, fitV_n h2, decide_eq_false h1, decide_eq_false h2]
    exact ⟨rfl, rfl⟩
set_option maxRecDepth 100000 in
set_option maxHeartbeats 4000000 in
theorem rDiff_c (hk : h.Ok) {f : Nat} (hf : f ≤ 12) (tm : UInt64) (ht : h.ti.toNat < tm.toNat) {V : Nat} (hV : V = hardX f (mBomb (f : Int)) h.nu.toNat h.df (decide (h.om ≠ kz)) (tm.toNat - h.ti.toNat)) : Fn Try.prog 8 #[.int .i64 (f : Int), .agg (h.cells ao n cap).toArray, .int .u64 (tm.toNat : Int)] [] [] (fun v L => v = .tuple #[wo (fitV V), .bool (decide (V < WW))] ∧ L = []) := by
  have hdf := hk.df
  obtain ⟨xs, hxl, hxo, hx25, hOf⟩ := rOf_x (f : Int) (by omega) (by omega)
  obtain ⟨zb, hzb⟩ := mB_eq hf
  obtain ⟨t, hts⟩ : ∃ t, tm - h.ti = t := ⟨_, rfl⟩
  have htn : t.toNat = tm.toNat - h.ti.toNat := by rw [← hts, sub_nat (by omega)]
  rw [← htn] at hV
  have hVc := hV
  have hud0 := dir0_y (f := f) (b := decide (h.om ≠ kz)) (t := t.toNat)
  have hud1 := dir0_n (f := f) (b := decide (h.om ≠ kz)) (t := t.toNat)
  have hud2 := dirF_1 (f := f) (b := decide (h.om ≠ kz)) (t := t.toNat)
  have hud3 := dirF_2 (f := f) (b := decide (h.om ≠ kz)) (t := t.toNat)
  have hud4 := dirF_3 (f := f) (b := decide (h.om ≠ kz)) (t := t.toNat)
  obtain ⟨s, hs⟩ : ∃ s, dirF f (decide (h.om ≠ kz)) t.toNat = s := ⟨_, rfl⟩
  have hs99 : s.1 ≤ 99 := by rw [← hs]; exact dirF_le ..
  rw [hs] at hud0 hud1 hud2 hud3 hud4
  have hfar := fit_far (A := difD h.df s + 2 ^ (bombP (mBomb (f : Int)) h.nu.toNat - 2)) hVc
  rw [hs] at hfar
  rw [hardX, hs] at hV
  have q10 : (t / 10).toNat = t.toNat / 10 := by rw [UInt64.toNat_div]; rfl
  have q9 : (t / 9).toNat = t.toNat / 9 := by rw [UInt64.toNat_div]; rfl
  have e1 : (1 : UInt64).toNat = 1 := rfl
  have e2 : (2 : UInt64).toNat = 2 := rfl
  have e5 : (100000 : UInt64).toNat = 100000 := rfl
  have eL : (131072 : UInt64).toNat = 131072 := rfl
  have eH : 2 ^ 11 = 2048 := rfl
  have hpu := part_d (d := h.df) (upS_le hs99)
  have hpd := part_d (d := h.df) (dnS_le hs99)
  have hX := difX_ud h.df s
  have hXle := dn_le h.df hs99
  have hnu := h.nu.toNat_lt
  have hpb : bombP (mBomb (f : Int)) h.nu.toNat < 18446744073709551616 := by unfold bombP; omega
  have ld := dword_len hdf
  have l1 : (digsOf (h.df / 2048)).length ≤ 8 := dword_len (Nat.lt_of_le_of_lt (Nat.div_le_self ..) hdf)
  have l2 : (digsOf (h.df / 2048 * upS s)).length ≤ 8 := dword_len (Nat.lt_of_le_of_lt hpu hdf)
  have l3 : (digsOf (h.df / 2048 * dnS s)).length ≤ 8 := dword_len (Nat.lt_of_le_of_lt hpd hdf)
  have l4 : (digsOf (h.df + h.df / 2048 * upS s)).length ≤ 9 := digs_add2 ld l2
  have lX : (digsOf (difX h.df s)).length ≤ 9 := Nat.le_trans (digs_mono (difX_le h.df hs99)) (digs_add2 ld ld)
  have lL : (digsOf 131072).length ≤ 1 := digs_le (V := 131072) (k := 32) (by decide)
  have lD : (digsOf (difD h.df s)).length ≤ 9 := by
    unfold difD; split <;> omega
  have l5 := du64_len h.nu
  have l6 := du64_len zb
  have l7 := du64_len 1
  have l8 := du64_len 100000
  have l9 : (digsOf (h.nu.toNat + 1)).length ≤ 3 := digs_add2 (B := 1) l5 (by rw [e1] at l7; exact l7)
  have l10 : (digsOf (h.nu.toNat + 1 - zb.toNat)).length ≤ 3 := Nat.le_trans (digs_mono (Nat.sub_le ..)) l9
  obtain ⟨zq, hzq⟩ := index0 hpb
  have hv1 : v32 (digsOf 1) = 1 := v32_digsOf 1
  refine Fn.enter (vs := [.int .i64 (f : Int), .agg (h.cells ao n cap).toArray, .int .u64 (tm.toNat : Int)]) Try.func8 rfl rfl rfl ?_
  intro E R hR
  change At _ _ E [R] _
  refine At.seq fun K1 hk_1 => ?_
  refine At.region ?_
  refine op_box (nxla rfl) rfl rfl rfl (fun N4 b4 B4 => ?_)
  change Blk N4 b4 _ (h.cells ao n cap) at B4
  refine op_alloc (nxla rfl) ze29 rfl (fun N6 b6 B6 => ?_)
  change Blk N6 b6 _ [.int .u64 0, .int .u64 0, .int .u64 0, .int .u64 0] at B6
  refine op_assign (nxlf rfl) rfl rfl ?_
  refine At.opsNil ?_
  refine At.norm (hk_1 ?_)
  refine At.seq fun K2 hk_2 => ?_
  refine At.seq fun K3 hk_3 => ?_
  refine At.region ?_
  refine op_move (nxlf rfl) rfl rfl ?_
  refine op_lss (nxlf rfl) rfl rfl rfl ?_
  refine op_move (nxlf rfl) rfl rfl ?_
  refine At.partP (d := 21) rfl (fun g21 => ?_) (fun g21 => ?_)
  · exfalso; omega
  · refine op_move (nxgf rfl rfl rfl rfl) rfl rfl ?_
    refine op_gtr (nxgf rfl rfl rfl rfl) rfl rfl rfl ?_
    refine op_pickF (nxlf rfl) rfl rfl rfl ?_
    refine op_move (nxlf rfl) rfl rfl ?_
    refine At.partP (d := 25) rfl (fun g25 => ?_) (fun g25 => ?_)
    · exfalso; omega
    · refine op_move (nxgf rfl rfl rfl rfl) rfl rfl ?_
      refine op_fieldAddr (nxgf rfl rfl rfl rfl) fl33_12 rfl rfl ?_
      refine op_loadB (nxgf rfl rfl rfl rfl) sc27 rfl B4 (by first | rfl | exact Hd.ti_at hk | exact Hd.nu_at hk | exact hx25) mem1 rfl ?_
      refine op_leq (nxgf rfl rfl rfl rfl) rfl rfl rfl ?_
      refine op_pickF (nxlf rfl) rfl rfl rfl ?_
      refine At.opsNil ?_
      refine At.norm (hk_3 ?_)
      refine At.condP rfl (fun c30 => ?_) (fun c30 => ?_)
      · exfalso; omega
      · refine At.skip ?_
        refine At.norm (hk_2 ?_)
        refine At.seq fun K4 hk_4 => ?_
        refine At.region ?_
        refine op_fieldAddr (nxlf rfl) fl33_8 rfl rfl ?_
        refine op_loadAggB (ds := u64s (wl h.df)) (nxlf rfl) ag29 rfl B4 (Hd.dfs hk) (by rw [u64s_len, length_wl]) (by first | exact mem0 | exact mem1 | exact mem2) rfl ?_
        refine op_callA (nxla rfl) (.cons rfl .nil) (rN_w hdf) Try.func13 rfl rfl (by simp) rfl ?_
        rintro v34 L34 ⟨N34, p34, c34, rfl, rfl, s34⟩
        change At _ _ _ [N34, N6, N4, R] _
        refine op_assign (nxlf rfl) rfl rfl ?_
        refine At.opsNil ?_
        refine At.norm (hk_4 ?_)
        refine At.seq fun K5 hk_5 => ?_
        refine At.region ?_
        refine op_move (nxlf rfl) rfl rfl ?_
        refine op_callA (nxla rfl) (.cons rfl (.cons rfl .nil)) (dShr_f s34 11 (by omega) (by omega)) Try.func15 rfl rfl (by simp) rfl ?_
        rintro v36 L36 ⟨N36, p36, c36, rfl, rfl, s36⟩
        change At _ _ _ [N36, N34, N6, N4, R] _
        rw [eH] at s36 ⊢
        refine op_assign (nxlf rfl) rfl rfl ?_
        refine At.opsNil ?_
        refine At.norm (hk_5 ?_)
        refine At.seq fun K6 hk_6 => ?_
        refine At.region ?_
        refine op_move (nxlf rfl) rfl rfl ?_
        refine op_fieldAddr (nxlf rfl) fl33_12 rfl rfl ?_
        refine op_loadB (nxlf rfl) sc27 rfl B4 (by first | rfl | exact Hd.ti_at hk | exact Hd.nu_at hk | exact hx25) mem3 rfl ?_
        refine op_subU (nxlf rfl) rfl rfl rfl ?_
        rw [hts]
        refine op_assign (nxlf rfl) rfl rfl ?_
        refine At.opsNil ?_
        refine At.norm (hk_6 ?_)
        refine At.seq fun K7 hk_7 => ?_
        refine At.region ?_
        refine op_assign (nxlf rfl) rfl rfl ?_
        refine op_assign (nxlf rfl) rfl rfl ?_
        refine At.opsNil ?_
        refine At.norm (hk_7 ?_)
        refine At.seq fun K8 hk_8 => ?_
        refine At.meet (fun fr_ hp_ => ∃ (u d : UInt64), fr_ = [(0, .int .i64 (f : Int)), (4, .pointer (some ⟨b4, 0, none⟩)), (6, .pointer (some ⟨b6, 0, none⟩)), (8, .slice p34 (digsOf h.df).length c34), (9, .slice p36 (digsOf (h.df / 2048)).length c36), (11, .int .u64 (u.toNat : Int)), (12, .int .u64 (d.toNat : Int))] ∧ hp_ = [N34, N36, N4, N6, R] ∧ (u.toNat = upS s) ∧ (d.toNat = dnS s)) ?_ (fun K8_ jk_8 => ?_)
        rotate_left
        · skip
          refine At.block ?_
          refine At.seq fun K9 hk_9 => ?_
          refine At.region ?_
          refine op_move (nxlf rfl) rfl rfl ?_
          refine op_eql (nxlf rfl) rfl rfl rfl ?_
          refine op_move (nxlf rfl) rfl rfl ?_
          refine At.partP (d := 50) rfl (fun g50 => ?_) (fun g50 => ?_)
          · refine op_move (nxgf rfl rfl rfl rfl) rfl rfl ?_
            refine op_lss (nxgf rfl rfl rfl rfl) rfl rfl rfl ?_
            refine op_pickT (nxlf rfl) rfl rfl rfl ?_
            refine op_assign (nxlf rfl) rfl rfl ?_
            refine At.opsNil ?_
            refine At.norm (hk_9 ?_)
            refine At.condP rfl (fun c47 => ?_) (fun c47 => ?_)
            · refine At.region ?_
              refine op_assign (nxlf rfl) rfl rfl ?_
              refine At.opsNil ?_
              refine At.inNorm ?_
              refine At.perm sel4 ?_
              refine At.perm sel3 ?_
              refine At.perm sel4 ?_
              refine At.perm sel3 ?_
              refine At.perm sel4 ?_
              refine At.norm (jk_8 ?_ (.refl _) ⟨1, 0, rfl, rfl, (hud0 (by omega) (by omega)).1.symm, (hud0 (by omega) (by omega)).2.symm⟩)
              exact .cons (by first | exact lkI rfl (by omega) | rfl) (.cons (by first | exact lkI rfl (by omega) | rfl) (.cons (by first | exact lkI rfl (by omega) | rfl) (.cons (by first | exact lkI rfl (by omega) | rfl) (.cons (by first | exact lkI rfl (by omega) | rfl) (.cons (by first | exact lkI rfl (by omega) | rfl) (.cons (by first | exact lkI rfl (by omega) | rfl) .nil))))))
            · refine At.seq fun K10 hk_10 => ?_
              refine At.region ?_
              refine op_move (nxlf rfl) rfl rfl ?_
              refine op_eql (nxlf rfl) rfl rfl rfl ?_
              refine op_assign (nxlf rfl) rfl rfl ?_
              refine At.opsNil ?_
              refine At.norm (hk_10 ?_)
              refine At.condP rfl (fun c54 => ?_) (fun c54 => ?_)
              · refine At.region ?_
                refine op_assign (nxlf rfl) rfl rfl ?_
                refine At.opsNil ?_
                refine At.inNorm ?_
                refine At.perm sel4 ?_
                refine At.perm sel3 ?_
                refine At.perm sel4 ?_
                refine At.perm sel3 ?_
                refine At.perm sel4 ?_
                refine At.norm (jk_8 ?_ (.refl _) ⟨0, 1, rfl, rfl, (hud1 (by omega) (by omega)).1.symm, (hud1 (by omega) (by omega)).2.symm⟩)
                exact .cons (by first | exact lkI rfl (by omega) | rfl) (.cons (by first | exact lkI rfl (by omega) | rfl) (.cons (by first | exact lkI rfl (by omega) | rfl) (.cons (by first | exact lkI rfl (by omega) | rfl) (.cons (by first | exact lkI rfl (by omega) | rfl) (.cons (by first | exact lkI rfl (by omega) | rfl) (.cons (by first | exact lkI rfl (by omega) | rfl) .nil))))))
              · exfalso; omega
          · refine op_skip rfl rfl rfl rfl rfl rfl rfl ?_
            refine op_skip rfl rfl rfl rfl rfl rfl rfl ?_
            refine op_pickF (nxlf rfl) rfl rfl rfl ?_
            refine op_assign (nxlf rfl) rfl rfl ?_
            refine At.opsNil ?_
            refine At.norm (hk_9 ?_)
            refine At.condF rfl ?_
            refine At.seq fun K11 hk_11 => ?_
            refine At.region ?_
            refine op_move (nxlf rfl) rfl rfl ?_
            refine op_eql (nxlf rfl) rfl rfl rfl ?_
            refine op_assign (nxlf rfl) rfl rfl ?_
            refine At.opsNil ?_
            refine At.norm (hk_11 ?_)
            refine At.condP rfl (fun c54 => ?_) (fun c54 => ?_)
            · exfalso; omega
            · refine At.seq fun K12 hk_12 => ?_
              refine At.region ?_
              refine op_move (nxlf rfl) rfl rfl ?_
              refine op_lss (nxlf rfl) rfl rfl rfl ?_
              refine op_assign (nxlf rfl) rfl rfl ?_
              refine At.opsNil ?_
              refine At.norm (hk_12 ?_)
              refine At.condP rfl (fun c57 => ?_) (fun c57 => ?_)
              · refine At.region ?_
                refine op_move (nxlf rfl) rfl rfl ?_
                refine op_quoU (a := t) (b := 10) (nxlf rfl) rfl rfl (by decide) rfl ?_
                refine op_callA (nxla rfl) (.cons rfl (.cons rfl .nil)) (rSteps_f 1 (t / 10)) Try.func34 rfl rfl (by simp) rfl ?_
                rintro v63 L63 ⟨u63, d63, rfl, rfl, hu63, hd63⟩
                change At _ _ _ [N36, N34, N6, N4, R] _
                refine op_move (nxlf rfl) rfl rfl ?_
                refine op_extract (nxlf rfl) rfl rfl rfl ?_
                refine op_extract (nxlf rfl) rfl rfl rfl ?_
                refine op_assign (nxlf rfl) rfl rfl ?_
                refine op_assign (nxlf rfl) rfl rfl ?_
                refine At.opsNil ?_
                refine At.inNorm ?_
                refine At.perm sel4 ?_
                refine At.perm sel3 ?_
                refine At.perm sel4 ?_
                refine At.perm sel3 ?_
                refine At.perm sel4 ?_
                refine At.norm (jk_8 ?_ (.refl _) ⟨u63, d63, rfl, rfl, by rw [hud2 (by omega) (by omega), hu63, q10]; rfl, by rw [hud2 (by omega) (by omega), hd63, q10]; rfl⟩)
                exact .cons (by first | exact lkI rfl (by omega) | rfl) (.cons (by first | exact lkI rfl (by omega) | rfl) (.cons (by first | exact lkI rfl (by omega) | rfl) (.cons (by first | exact lkI rfl (by omega) | rfl) (.cons (by first | exact lkI rfl (by omega) | rfl) (.cons (by first | exact lkI rfl (by omega) | rfl) (.cons (by first | exact lkI rfl (by omega) | rfl) .nil))))))
              · refine At.seq fun K13 hk_13 => ?_
                refine At.drawnS [N36, N34, N6, N4, R] [] [] [0,1,2,3,4] (by kernel_rfl) (by kernel_rfl) (.refl _) ?_
                refine op_fieldAddr (nxsf rfl rfl rfl) fl33_2 rfl rfl ?_
                refine op_loadAggB (ds := u8s h.om) (nxsf rfl rfl rfl) ag23 rfl B4 (Hd.oms hk) (len8s hk.om) (by first | exact mem0 | exact mem1 | exact mem2 | exact mem3 | exact mem4) rfl ?_
                refine op_callA (Nx.agree (nxsm rfl rfl rfl)) .nil (rNone_f) Try.func35 rfl rfl (by simp) rfl ?_
                rintro v69 L69 ⟨rfl, rfl⟩
                change At _ _ _ [N36, N34, N6, N4, R] _
                refine At.moreS (Lst := [N36, N34, N6, N4, R]) (Lst' := [N36, N34, N6, N4, R]) (.refl _) (.refl _) ?_
                refine op_neW8 (a := h.om) (b := kz) (nxsf rfl rfl rfl) ae23 Try.underlying5 (by kernel_rfl) rfl rfl hk.om kz_len rfl ?_
                refine op_assign (nxsf rfl rfl rfl) rfl rfl ?_
                refine At.sNil ?_
                refine At.norm (hk_13 ?_)
                refine At.condP rfl (fun c66 => ?_) (fun c66 => ?_)
                · refine At.region ?_
                  refine op_move (nxlf rfl) rfl rfl ?_
                  refine op_quoU (a := t) (b := 9) (nxlf rfl) rfl rfl (by decide) rfl ?_
                  refine op_callA (nxla rfl) (.cons rfl (.cons rfl .nil)) (rSteps_f 2 (t / 9)) Try.func34 rfl rfl (by simp) rfl ?_
                  rintro v74 L74 ⟨u74, d74, rfl, rfl, hu74, hd74⟩
                  change At _ _ _ [N36, N34, N6, N4, R] _
                  refine op_move (nxlf rfl) rfl rfl ?_
                  refine op_extract (nxlf rfl) rfl rfl rfl ?_
                  refine op_extract (nxlf rfl) rfl rfl rfl ?_
                  refine op_assign (nxlf rfl) rfl rfl ?_
                  refine op_assign (nxlf rfl) rfl rfl ?_
                  refine At.opsNil ?_
                  refine At.inNorm ?_
                  refine At.perm sel4 ?_
                  refine At.perm sel3 ?_
                  refine At.perm sel4 ?_
                  refine At.perm sel3 ?_
                  refine At.perm sel4 ?_
                  refine At.norm (jk_8 ?_ (.refl _) ⟨u74, d74, rfl, rfl, by rw [hud3 (by omega) (decide_eq_true c66), hu74, q9]; rfl, by rw [hud3 (by omega) (decide_eq_true c66), hd74, q9]; rfl⟩)
                  exact .cons (by first | exact lkI rfl (by omega) | rfl) (.cons (by first | exact lkI rfl (by omega) | rfl) (.cons (by first | exact lkI rfl (by omega) | rfl) (.cons (by first | exact lkI rfl (by omega) | rfl) (.cons (by first | exact lkI rfl (by omega) | rfl) (.cons (by first | exact lkI rfl (by omega) | rfl) (.cons (by first | exact lkI rfl (by omega) | rfl) .nil))))))
                · refine At.region ?_
                  refine op_move (nxlf rfl) rfl rfl ?_
                  refine op_quoU (a := t) (b := 9) (nxlf rfl) rfl rfl (by decide) rfl ?_
                  refine op_callA (nxla rfl) (.cons rfl (.cons rfl .nil)) (rSteps_f 1 (t / 9)) Try.func34 rfl rfl (by simp) rfl ?_
                  rintro v44 L44 ⟨u44, d44, rfl, rfl, hu44, hd44⟩
                  change At _ _ _ [N36, N34, N6, N4, R] _
                  refine op_move (nxlf rfl) rfl rfl ?_
                  refine op_extract (nxlf rfl) rfl rfl rfl ?_
                  refine op_extract (nxlf rfl) rfl rfl rfl ?_
                  refine op_assign (nxlf rfl) rfl rfl ?_
                  refine op_assign (nxlf rfl) rfl rfl ?_
                  refine At.opsNil ?_
                  refine At.inNorm ?_
                  refine At.perm sel4 ?_
                  refine At.perm sel3 ?_
                  refine At.perm sel4 ?_
                  refine At.perm sel3 ?_
                  refine At.perm sel4 ?_
                  refine At.norm (jk_8 ?_ (.refl _) ⟨u44, d44, rfl, rfl, by rw [hud4 (by omega) (fun e => c66 (of_decide_eq_true e)), hu44, q9]; rfl, by rw [hud4 (by omega) (fun e => c66 (of_decide_eq_true e)), hd44, q9]; rfl⟩)
                  exact .cons (by first | exact lkI rfl (by omega) | rfl) (.cons (by first | exact lkI rfl (by omega) | rfl) (.cons (by first | exact lkI rfl (by omega) | rfl) (.cons (by first | exact lkI rfl (by omega) | rfl) (.cons (by first | exact lkI rfl (by omega) | rfl) (.cons (by first | exact lkI rfl (by omega) | rfl) (.cons (by first | exact lkI rfl (by omega) | rfl) .nil))))))
        rintro _ _ ⟨u, d, rfl, rfl, hu, hd⟩
        have lu := du64_len u
        have lw := du64_len d
        refine hk_8 ?_
        refine At.seq fun K14 hk_14 => ?_
        refine At.region ?_
        refine op_move (nxlf rfl) rfl rfl ?_
        refine op_move (nxlf rfl) rfl rfl ?_
        refine op_move (nxlf rfl) rfl rfl ?_
        refine op_callA (nxla rfl) (.cons rfl .nil) (Of32_f u) Try.func16 rfl rfl (by simp) rfl ?_
        rintro v80 L80 ⟨N80, p80, c80, rfl, rfl, s80⟩
        change At _ _ _ [N80, N34, N36, N4, N6, R] _
        refine op_callA (nxla rfl) (.cons rfl (.cons rfl .nil)) (dMul_f s36 s80 (by omega) (by omega)) Try.func36 rfl rfl (by simp) rfl ?_
        rintro v81 L81 ⟨N81, p81, c81, rfl, rfl, s81⟩
        change At _ _ _ [N81, N80, N34, N36, N4, N6, R] _
        rw [hu] at s81 ⊢
        refine op_callA (nxla rfl) (.cons rfl (.cons rfl .nil)) (dAdd_f s34 s81 (by omega) (by omega)) Try.func14 rfl rfl (by simp) rfl ?_
        rintro v82 L82 ⟨N82, p82, c82, rfl, rfl, s82⟩
        change At _ _ _ [N82, N81, N80, N34, N36, N4, N6, R] _
        refine op_assign (nxlf rfl) rfl rfl ?_
        refine At.opsNil ?_
        refine At.norm (hk_14 ?_)
        refine At.seq fun K15 hk_15 => ?_
        refine At.region ?_
        refine op_move (nxlf rfl) rfl rfl ?_
        refine op_move (nxlf rfl) rfl rfl ?_
        refine op_move (nxlf rfl) rfl rfl ?_
        refine op_callA (nxla rfl) (.cons rfl .nil) (Of32_f d) Try.func16 rfl rfl (by simp) rfl ?_
        rintro v86 L86 ⟨N86, p86, c86, rfl, rfl, s86⟩
        change At _ _ _ [N86, N82, N81, N80, N34, N36, N4, N6, R] _
        refine op_callA (nxla rfl) (.cons rfl (.cons rfl .nil)) (dMul_f s36 s86 (by omega) (by omega)) Try.func36 rfl rfl (by simp) rfl ?_
        rintro v87 L87 ⟨N87, p87, c87, rfl, rfl, s87⟩
        change At _ _ _ [N87, N86, N82, N81, N80, N34, N36, N4, N6, R] _
        rw [hd] at s87 ⊢
        refine op_callA (nxla rfl) (.cons rfl (.cons rfl .nil)) (dSub_f s82 s87 (by omega) hXle) Try.func18 rfl rfl (by simp) rfl ?_
        rintro v88 L88 ⟨N88, p88, c88, rfl, rfl, s88⟩
        change At _ _ _ [N88, N87, N86, N82, N81, N80, N34, N36, N4, N6, R] _
        rw [hX] at s88 ⊢
        refine op_assign (nxlf rfl) rfl rfl ?_
        refine At.opsNil ?_
        refine At.norm (hk_15 ?_)
        refine At.seq fun K16 hk_16 => ?_
        refine At.meet (fun fr_ hp_ => ∃ (pd : Option Addr) (cd : Nat) (Md : Heaplet), fr_ = [(0, .int .i64 (f : Int)), (4, .pointer (some ⟨b4, 0, none⟩)), (6, .pointer (some ⟨b6, 0, none⟩)), (8, .slice pd (digsOf (difD h.df s)).length cd)] ∧ hp_ = [Md, N4, N6, R] ∧ (RSl Md 1 pd (digsOf (difD h.df s)).length cd (u32s (digsOf (difD h.df s))))) ?_ (fun K16_ jk_16 => ?_)
        rotate_left
        · skip
          refine At.seq fun K17 hk_17 => ?_
          refine At.region ?_
          refine op_move (nxlf rfl) rfl rfl ?_
          refine op_callA (nxla rfl) (.cons rfl .nil) (Of32_f 131072) Try.func16 rfl rfl (by simp) rfl ?_
          rintro v90 L90 ⟨N90, p90, c90, rfl, rfl, s90⟩
          change At _ _ _ [N90, N88, N87, N86, N82, N81, N80, N34, N36, N4, N6, R] _
          refine op_callA (nxla rfl) (.cons rfl (.cons rfl .nil)) (Cmp32_f s88 s90) Try.func17 rfl rfl (by simp) rfl ?_
          rintro v91 L91 ⟨rfl, rfl⟩
          change At _ _ _ [N90, N88, N87, N86, N82, N81, N80, N34, N36, N4, N6, R] _
          rw [eL]
          refine op_lss (nxlf rfl) rfl rfl rfl ?_
          refine At.opsNil ?_
          refine At.norm (hk_17 ?_)
          refine At.condP rfl (fun c92 => ?_) (fun c92 => ?_)
          · refine At.region ?_
            refine op_callA (nxla rfl) (.cons rfl .nil) (Of32_f 131072) Try.func16 rfl rfl (by simp) rfl ?_
            rintro v93 L93 ⟨N93, p93, c93, rfl, rfl, s93⟩
            change At _ _ _ [N93, N90, N88, N87, N86, N82, N81, N80, N34, N36, N4, N6, R] _
            refine op_assign (nxlf rfl) rfl rfl ?_
            refine At.opsNil ?_
            rw [eL, show 131072 = difD h.df s from (if_pos (cmpI_lt.1 c92)).symm] at s93 ⊢
            refine At.sub (L' := [N93, N4, N6, R]) (.cons_cons _ (.cons _ (.cons _ (.cons _ (.cons _ (.cons _ (.cons _ (.cons _ (.cons _ (.cons _ (.cons_cons _ (.cons_cons _ (.cons_cons _ (.slnil)))))))))))))) ?_
            refine At.norm (jk_16 ?_ (.refl _) ⟨p93, c93, N93, rfl, rfl, s93⟩)
            exact .cons (by first | exact lkI rfl (by omega) | rfl) (.cons (by first | exact lkI rfl (by omega) | rfl) (.cons (by first | exact lkI rfl (by omega) | rfl) (.cons (by first | exact lkI rfl (by omega) | rfl) .nil)))
          · refine At.skip ?_
            rw [show difX h.df s = difD h.df s from (if_neg (fun e => c92 (cmpI_lt.2 e))).symm] at s88 ⊢
            refine At.sub (L' := [N88, N4, N6, R]) (.cons _ (.cons_cons _ (.cons _ (.cons _ (.cons _ (.cons _ (.cons _ (.cons _ (.cons _ (.cons_cons _ (.cons_cons _ (.cons_cons _ (.slnil))))))))))))) ?_
            refine At.norm (jk_16 ?_ (.refl _) ⟨p88, c88, N88, rfl, rfl, s88⟩)
            exact .cons (by first | exact lkI rfl (by omega) | rfl) (.cons (by first | exact lkI rfl (by omega) | rfl) (.cons (by first | exact lkI rfl (by omega) | rfl) (.cons (by first | exact lkI rfl (by omega) | rfl) .nil)))
        rintro _ _ ⟨pd, cd, Md, rfl, rfl, sd⟩
        refine hk_16 ?_
        refine At.seq fun K18 hk_18 => ?_
        refine At.region ?_
        refine op_move (nxlf rfl) rfl rfl ?_
        refine op_callA (nxla rfl) (.cons rfl .nil) (hOf) Try.func37 rfl rfl (by simp) rfl ?_
        rintro v96 L96 ⟨rfl, rfl⟩
        change At _ _ _ [Md, N4, N6, R] _
        refine op_move (nxlf rfl) rfl rfl ?_
        refine op_extract (nxlf rfl) rfl rfl rfl ?_
        refine op_extract (nxlf rfl) rfl rfl rfl ?_
        refine op_alloc (nxla rfl) ze53 rfl (fun N13 b13 B13 => ?_)
        change Blk N13 b13 _ [.int .i64 0, .int .u64 0, .int .u64 0, .int .u64 0, .int .u64 0, .int .u64 0, .int .u64 0, .int .u64 0, .int .i64 0, .int .i64 0, .int .u64 0, .int .u64 0, .int .u64 0, .int .u64 0, .int .u64 0, .int .u64 0, .int .u64 0, .int .u64 0, .int .u64 0, .int .u64 0, .int .u64 0, .int .u64 0, .int .u64 0, .int .u64 0, .int .u64 0, .int .u64 0] at B13
        refine op_store (nxl rfl) sz53 rfl rfl (cells_agg _) hxl hxo B13 (by rw [hxl]; decide) sel0 (fun N13 B13 => ?_)
        rw [setL_whole (by rw [hxl]; rfl)] at B13
        refine op_assign (nxlf rfl) rfl rfl ?_
        refine At.opsNil ?_
        refine At.norm (hk_18 ?_)
        refine At.seq fun K19 hk_19 => ?_
        refine At.region ?_
        refine op_fieldAddr (nxlf rfl) fl33_9 rfl rfl ?_
        refine op_loadB (nxlf rfl) sc27 rfl B4 (by first | rfl | exact Hd.ti_at hk | exact Hd.nu_at hk | exact hx25) mem2 rfl ?_
        refine op_callA (nxla rfl) (.cons rfl .nil) (Of32_f h.nu) Try.func16 rfl rfl (by simp) rfl ?_
        rintro v101 L101 ⟨N101, p101, c101, rfl, rfl, s101⟩
        change At _ _ _ [N101, N13, Md, N4, N6, R] _
        refine op_callA (nxla rfl) (.cons rfl .nil) (Of32_f 1) Try.func16 rfl rfl (by simp) rfl ?_
        rintro v102 L102 ⟨N102, p102, c102, rfl, rfl, s102⟩
        change At _ _ _ [N102, N101, N13, Md, N4, N6, R] _
        refine op_callA (nxla rfl) (.cons rfl (.cons rfl .nil)) (dAdd_f s101 s102 (by omega) (by omega)) Try.func14 rfl rfl (by simp) rfl ?_
        rintro v103 L103 ⟨N103, p103, c103, rfl, rfl, s103⟩
        change At _ _ _ [N103, N102, N101, N13, Md, N4, N6, R] _
        rw [e1] at s103 ⊢
        refine op_assign (nxlf rfl) rfl rfl ?_
        refine At.opsNil ?_
        refine At.norm (hk_19 ?_)
        refine At.seq fun K20 hk_20 => ?_
        refine At.region ?_
        refine op_assign (nxlf rfl) rfl rfl ?_
        refine At.opsNil ?_
        refine At.norm (hk_20 ?_)
        refine At.seq fun K21 hk_21 => ?_
        refine At.meet (fun fr_ hp_ => ∃ (p : UInt64), fr_ = [(6, .pointer (some ⟨b6, 0, none⟩)), (8, .slice pd (digsOf (difD h.df s)).length cd), (16, .int .u64 (p.toNat : Int))] ∧ hp_ = [Md, N6, R] ∧ (p.toNat = bombP (mBomb (f : Int)) h.nu.toNat)) ?_ (fun K21_ jk_21 => ?_)
        rotate_left
        · skip
          refine At.seq fun K22 hk_22 => ?_
          refine At.region ?_
          refine op_move (nxlf rfl) rfl rfl ?_
          refine op_fieldAddr (nxlf rfl) fl53_25 rfl rfl ?_
          refine op_loadB (nxlf rfl) sc27 rfl B13 (by first | rfl | exact Hd.ti_at hk | exact Hd.nu_at hk | exact hx25) mem3 rfl ?_
          rw [← hzb]
          refine op_callA (nxla rfl) (.cons rfl .nil) (Of32_f zb) Try.func16 rfl rfl (by simp) rfl ?_
          rintro v107 L107 ⟨N107, p107, c107, rfl, rfl, s107⟩
          change At _ _ _ [N107, N103, N102, N101, N13, Md, N4, N6, R] _
          refine op_callA (nxla rfl) (.cons rfl (.cons rfl .nil)) (Cmp32_f s103 s107) Try.func17 rfl rfl (by simp) rfl ?_
          rintro v108 L108 ⟨rfl, rfl⟩
          change At _ _ _ [N107, N103, N102, N101, N13, Md, N4, N6, R] _
          refine op_gtr (nxlf rfl) rfl rfl rfl ?_
          refine At.opsNil ?_
          refine At.norm (hk_22 ?_)
          refine At.condP rfl (fun c109 => ?_) (fun c109 => ?_)
          · have hgt : zb.toNat < h.nu.toNat + 1 := by
              rcases Nat.lt_or_ge zb.toNat (h.nu.toNat + 1) with h1 | h1
              · exact h1
              · have := cmpI_le.2 h1; omega
            have hqq : (h.nu.toNat + 1 - zb.toNat) / 100000 = zq.toNat := by rw [hzq, bombP, hzb]
            refine At.seq fun K23 hk_23 => ?_
            refine At.region ?_
            refine op_move (nxlf rfl) rfl rfl ?_
            refine op_fieldAddr (nxlf rfl) fl53_25 rfl rfl ?_
            refine op_loadB (nxlf rfl) sc27 rfl B13 (by first | rfl | exact Hd.ti_at hk | exact Hd.nu_at hk | exact hx25) mem4 rfl ?_
            rw [← hzb]
            refine op_callA (nxla rfl) (.cons rfl .nil) (Of32_f zb) Try.func16 rfl rfl (by simp) rfl ?_
            rintro v114 L114 ⟨N114, p114, c114, rfl, rfl, s114⟩
            change At _ _ _ [N114, N107, N103, N102, N101, N13, Md, N4, N6, R] _
            refine op_callA (nxla rfl) (.cons rfl (.cons rfl .nil)) (dSub_f s103 s114 (by omega) (by omega)) Try.func18 rfl rfl (by simp) rfl ?_
            rintro v115 L115 ⟨N115, p115, c115, rfl, rfl, s115⟩
            change At _ _ _ [N115, N114, N107, N103, N102, N101, N13, Md, N4, N6, R] _
            refine op_callA (nxla rfl) (.cons rfl .nil) (Of32_f 100000) Try.func16 rfl rfl (by simp) rfl ?_
            rintro v116 L116 ⟨N116, p116, c116, rfl, rfl, s116⟩
            change At _ _ _ [N116, N115, N114, N107, N103, N102, N101, N13, Md, N4, N6, R] _
            refine op_callA (nxla rfl) (.cons rfl (.cons rfl .nil)) (rDivMod_f s115 s116 (by omega) (by omega) (by decide)) Try.func38 rfl rfl (by simp) rfl ?_
            rintro v117 L117 ⟨Mq, pq, cq, Mr, pr, cr, rfl, rfl, sq, sr⟩
            change At _ _ _ [Mq, Mr, N116, N115, N114, N107, N103, N102, N101, N13, Md, N4, N6, R] _
            rw [e5, hqq] at sq ⊢
            refine op_move (nxlf rfl) rfl rfl ?_
            refine op_extract (nxlf rfl) rfl rfl rfl ?_
            refine op_extract (nxlf rfl) rfl rfl rfl ?_
            refine op_assign (nxlf rfl) rfl rfl ?_
            refine op_assign (nxlf rfl) rfl rfl ?_
            refine At.opsNil ?_
            refine At.norm (hk_23 ?_)
            refine At.region ?_
            refine op_move (nxlf rfl) rfl rfl ?_
            refine op_callA (nxla rfl) (.cons rfl .nil) (rW_w sq) Try.func40 rfl rfl (by simp) rfl ?_
            rintro v122 L122 ⟨rfl, rfl⟩
            change At _ _ _ [Mq, Mr, N116, N115, N114, N107, N103, N102, N101, N13, Md, N4, N6, R] _
            refine op_callA (nxla rfl) (.cons rfl .nil) (rSmall_y (WW_small zq.toNat_lt) zq.toNat_lt) Try.func39 rfl rfl (by simp) rfl ?_
            rintro v123 L123 ⟨rfl, rfl⟩
            change At _ _ _ [Mq, Mr, N116, N115, N114, N107, N103, N102, N101, N13, Md, N4, N6, R] _
            refine op_move (nxlf rfl) rfl rfl ?_
            refine op_extract (nxlf rfl) rfl rfl rfl ?_
            refine op_extract (nxlf rfl) rfl rfl rfl ?_
            refine op_assign (nxlf rfl) rfl rfl ?_
            refine At.opsNil ?_
            refine At.sub (L' := [Md, N6, R]) (.cons _ (.cons _ (.cons _ (.cons _ (.cons _ (.cons _ (.cons _ (.cons _ (.cons _ (.cons _ (.cons_cons _ (.cons _ (.cons_cons _ (.cons_cons _ (.slnil))))))))))))))) ?_
            refine At.norm (jk_21 ?_ (.refl _) ⟨zq, rfl, rfl, hzq⟩)
            exact .cons (by first | exact lkI rfl (by omega) | rfl) (.cons (by first | exact lkI rfl (by omega) | rfl) (.cons (by first | exact lkI rfl (by omega) | rfl) .nil))
          · have hle : h.nu.toNat + 1 ≤ zb.toNat := cmpI_le.1 (by omega)
            refine At.skip ?_
            refine At.sub (L' := [Md, N6, R]) (.cons _ (.cons _ (.cons _ (.cons _ (.cons _ (.cons_cons _ (.cons _ (.cons_cons _ (.cons_cons _ (.slnil)))))))))) ?_
            refine At.norm (jk_21 ?_ (.refl _) ⟨0, rfl, rfl, by rw [bombP, Nat.sub_eq_zero_of_le (by omega)]; rfl⟩)
            exact .cons (by first | exact lkI rfl (by omega) | rfl) (.cons (by first | exact lkI rfl (by omega) | rfl) (.cons (by first | exact lkI rfl (by omega) | rfl) .nil))
        rintro _ _ ⟨p, rfl, rfl, hp⟩
        refine hk_21 ?_
        refine At.seq fun K24 hk_24 => ?_
        refine At.seq fun K25 hk_25 => ?_
        refine At.region ?_
        refine op_move (nxlf rfl) rfl rfl ?_
        refine op_gtr (nxlf rfl) rfl rfl rfl ?_
        refine At.opsNil ?_
        refine At.norm (hk_25 ?_)
        refine At.condP rfl (fun c127 => ?_) (fun c127 => ?_)
        · have hVn : ¬ V < WW := by
            have := bomb_far (de := mBomb (f : Int)) (nu := h.nu.toNat) (by omega)
            omega
          refine At.seq fun K26 hk_26 => ?_
          refine At.region ?_
          refine op_buildA (out := [.int .u64 0, .int .u64 0, .int .u64 0, .int .u64 0]) (nxlf rfl) ze29 ae29 .nil rfl rfl ?_
          refine op_store (nxl rfl) sz29 rfl rfl rfl rfl rfl B6 (by simp) sel1 (fun N6 B6 => ?_)
          have B6 : Blk N6 b6 29 (u64s (wl (fitV V))) := by rw [fitV_n hVn]; exact B6
          refine op_assign (nxlf rfl) rfl rfl ?_
          refine At.opsNil ?_
          refine At.norm (hk_26 ?_)
          refine At.ret (At.thenRet (?_))
          refine At.sub (L' := [N6, R]) (.cons_cons _ (.cons _ (.cons_cons _ (.slnil)))) ?_
          refine At.retN (L1 := []) rfl (.cell rfl (res_agg (ds := u64s (wl (fitV V))) ag29 B6 (by first | (rw [List.drop_zero, List.take_of_length_le (by first | (simp; done) | (simp; omega))]; done) | rfl) (by first | (simp; done) | (simp; omega)) mem0) (.tmp rfl .nil)) rfl (.cons _ (.refl _)) (.refl _) ?_
          exact ⟨by rw [decide_eq_false hVn]; rfl, rfl⟩
        · refine At.skip ?_
          refine At.norm (hk_24 ?_)
          refine At.seq fun K27 hk_27 => ?_
          refine At.meet (fun fr_ hp_ => ∃ (A : Nat) (pz : Option Addr) (cz : Nat) (Mz : Heaplet), fr_ = [(6, .pointer (some ⟨b6, 0, none⟩)), (8, .slice pz (digsOf A).length cz)] ∧ hp_ = [Mz, N6, R] ∧ (fitV A = fitV V) ∧ (decide (A < WW) = decide (V < WW)) ∧ ((digsOf A).length ≤ 1000) ∧ (RSl Mz 1 pz (digsOf A).length cz (u32s (digsOf A)))) ?_ (fun K27_ jk_27 => ?_)
          rotate_left
          · skip
            refine At.seq fun K28 hk_28 => ?_
            refine At.region ?_
            refine op_move (nxlf rfl) rfl rfl ?_
            refine op_geq (nxlf rfl) rfl rfl rfl ?_
            refine At.opsNil ?_
            refine At.norm (hk_28 ?_)
            refine At.condP rfl (fun c130 => ?_) (fun c130 => ?_)
            · have hp2 : (p - 2).toNat = p.toNat - 2 := sub_nat (by omega)
              have hlA : (digsOf (1 * 2 ^ (p - 2).toNat)).length ≤ 10 := Nat.le_trans (digs_le (k := (p - 2).toNat + 1) (by rw [Nat.one_mul]; exact Nat.pow_lt_pow_right (by decide) (by omega))) (by omega)
              have hlB := digs_add2 (B := 1 * 2 ^ (p - 2).toNat) (m := 10) (Nat.le_trans lD (by decide)) hlA
              obtain ⟨hA1, hA2⟩ := hfar (by omega) (by omega) rfl
              have hAA : difD h.df s + 1 * 2 ^ (p - 2).toNat = difD h.df s + 2 ^ (bombP (mBomb (f : Int)) h.nu.toNat - 2) := by rw [Nat.one_mul, hp2, hp]
              refine At.region ?_
              refine op_move (nxlf rfl) rfl rfl ?_
              refine op_callA (nxla rfl) (.cons rfl .nil) (Of32_f 1) Try.func16 rfl rfl (by simp) rfl ?_
              rintro v132 L132 ⟨N132, p132, c132, rfl, rfl, s132⟩
              change At _ _ _ [N132, Md, N6, R] _
              refine op_move (nxlf rfl) rfl rfl ?_
              refine op_subU (b := 2) (nxlf rfl) rfl rfl rfl ?_
              refine op_convI (nxlf rfl) (und_some Try.underlying27) Try.underlying3 rfl (by omega) (by omega) rfl ?_
              refine op_callA (nxla rfl) (.cons rfl (.cons rfl .nil)) (rShl_f s132 (p - 2).toNat (by omega) (by omega)) Try.func41 rfl rfl (by simp) rfl ?_
              rintro v136 L136 ⟨N136, p136, c136, rfl, rfl, s136⟩
              change At _ _ _ [N136, N132, Md, N6, R] _
              rw [e1, hv1] at s136 ⊢
              refine op_callA (nxla rfl) (.cons rfl (.cons rfl .nil)) (dAdd_f sd s136 (by omega) (by omega)) Try.func14 rfl rfl (by simp) rfl ?_
              rintro v137 L137 ⟨N137, p137, c137, rfl, rfl, s137⟩
              change At _ _ _ [N137, N136, N132, Md, N6, R] _
              refine op_assign (nxlf rfl) rfl rfl ?_
              refine At.opsNil ?_
              refine At.sub (L' := [N137, N6, R]) (.cons_cons _ (.cons _ (.cons _ (.cons _ (.cons_cons _ (.cons_cons _ (.slnil))))))) ?_
              refine At.norm (jk_27 ?_ (.refl _) ⟨_, p137, c137, N137, rfl, rfl, by rw [hAA]; exact hA1, by rw [hAA]; exact hA2, by omega, s137⟩)
              exact .cons (by first | exact lkI rfl (by omega) | rfl) (.cons (by first | exact lkI rfl (by omega) | rfl) .nil)
            · have hVd : difD h.df s = V := by
                have := bomb_1 (de := mBomb (f : Int)) (nu := h.nu.toNat) (by omega)
                omega
              refine At.skip ?_
              refine At.norm (jk_27 ?_ (.refl _) ⟨_, pd, cd, Md, rfl, rfl, by rw [hVd], by rw [hVd], by omega, sd⟩)
              exact .cons (by first | exact lkI rfl (by omega) | rfl) (.cons (by first | exact lkI rfl (by omega) | rfl) .nil)
          rintro _ _ ⟨A, pz, cz, Mz, rfl, rfl, hA1, hA2, hAl, sz⟩
          refine hk_27 ?_
          refine At.seq fun K29 hk_29 => ?_
          refine At.region ?_
          refine op_move (nxlf rfl) rfl rfl ?_
          refine op_callA (nxla rfl) (.cons rfl .nil) (rfits_f sz (by omega)) Try.func42 rfl rfl (by simp) rfl ?_
          rintro v139 L139 ⟨rfl, rfl⟩
          change At _ _ _ [Mz, N6, R] _
          rw [hA1, hA2]
          refine op_extract (nxlf rfl) rfl rfl rfl ?_
          refine op_extract (nxlf rfl) rfl rfl rfl ?_
          refine op_store (nxl rfl) sz29 rfl rfl rfl rfl rfl B6 (by simp) sel1 (fun N6 B6 => ?_)
          rw [setL_whole (by simp)] at B6
          refine op_assign (nxlf rfl) rfl rfl ?_
          refine At.opsNil ?_
          refine At.norm (hk_29 ?_)
          refine At.ret (?_)
          refine At.sub (L' := [N6, R]) (.cons_cons _ (.cons _ (.cons_cons _ (.slnil)))) ?_
          refine At.retN (L1 := []) rfl (.cell rfl (res_agg (ds := u64s (wl (fitV V))) ag29 B6 (by first | (rw [List.drop_zero, List.take_of_length_le (by first | (simp; done) | (simp; omega))]; done) | rfl) (by first | (simp; done) | (simp; omega)) mem0) (.tmp rfl .nil)) rfl (.cons _ (.refl _)) (.refl _) ?_
          exact ⟨rfl, rfl⟩
theorem rDiff_f2 (hk : h.Ok) (f : Int) (tm : UInt64) : Fn Try.prog 8 #[.int .i64 f, .agg (h.cells ao n cap).toArray, .int .u64 (tm.toNat : Int)] [] [] (fun v L => v = .tuple #[wo (hardV f (mBomb f) h.nu.toNat h.df (decide (h.om ≠ kz)) h.ti.toNat tm.toNat).1, .bool (hardV f (mBomb f) h.nu.toNat h.df (decide (h.om ≠ kz)) h.ti.toNat tm.toNat).2] ∧ L = []) := by
  by_cases h1 : f < 0 ∨ 12 < f ∨ tm.toNat ≤ h.ti.toNat
  · rw [hardV_n h1]
    exact rDiff_a hk tm h1
  · obtain ⟨k, rfl⟩ : ∃ k : Nat, f = (k : Int) := ⟨f.toNat, by omega⟩
    rw [hardV_y (by omega) (by omega)]
    exact rDiff_c hk (by omega) tm (by omega) rfl
end
end Go.Proofs.Ytbmlhdecnfplaaa
