/- quarrylaw01.WordBack answers true. No condition. -/
import Derived.Test.YtefljbbpaideaaaKWy
import Derived.Test.YtefljbbpaideaaaKWw
import Derived.Test.YtefljbbpaideaaaKA5
namespace Go.Proofs.Ytefljbbpaideaaa
set_option linter.unusedVariables false
set_option linter.unusedSimpArgs false
open Go Go.RowKit
theorem arr_part8 {N : Heaplet} {b lo hi c : Nat} {e : TypeId} {L : List UInt8} (h : Blk N b e (u8s L)) (hl : lo ≤ hi) (hh : hi ≤ L.length) (hc : hi - lo ≤ c) (hm : c ≤ 9223372036854775807) : RSl N 1 (some ⟨b, 0 + lo * 1, none⟩) (hi - lo) c (u8s ((L.drop lo).take (hi - lo))) := by
  refine ⟨by simp [u8s]; omega, hc, hm, fun h0 => ⟨b, lo, by rw [Nat.zero_add, Nat.mul_one], ?_⟩⟩
  have e := h.rng.sub (o := lo) (ds := u8s ((L.drop lo).take (hi - lo))) fun i hi' => by
    rw [List.getElem?_eq_getElem (by simp [u8s] at hi' ⊢; omega)]
    simp [u8s]
  rwa [Nat.zero_add] at e
theorem WFrom_x {N : Heaplet} {ao : Option Addr} {n cap x : Nat} {l : List UInt8} (h : RSl N 1 ao n cap (u8s l)) (hn : n ≤ 32) (hb : be l = x) : Fn Try.prog 48 #[.slice ao n cap] [] [N] (fun v L => v = .tuple #[wo x, .bool true] ∧ L = []) := by
  have := WFrom_w h
  rw [if_pos hn, decide_eq_true hn, hb] at this
  exact this
theorem head_ne {x : Nat} (h : 0 < (bytesOf x).length) : ((bytesOf x).getD 0 0).toNat ≠ 0 := fun e => by
  apply head_bytesOf x
  cases hl : bytesOf x with
  | nil => rw [hl] at h; simp at h
  | cons c t =>
    rw [hl] at e
    have : c = 0 := UInt8.toNat_inj.1 e
    rw [this]; rfl
set_option maxRecDepth 100000 in
set_option maxHeartbeats 4000000 in
theorem WordBack_w {x : Nat} {I : Int} (hx : x < WW) (hI : -9223372036854775808 ≤ I ∧ I ≤ 9223372036854775807) : Fn Try.prog 13 #[wo x, .int .i64 I] [] [] (fun v L => v = .bool true ∧ L = []) := by
  have hb32 : (bytesN 32 x).length = 32 := length_bytesN 32 x
  have hbe : be (bytesN 32 x) = x := by rw [be_bytesN]; exact Nat.mod_eq_of_lt hx
  have hsl := length_bytesOf x
  have hbit : bitLen x ≤ 256 := bitLen_le.2 hx
  have hlt : ∀ V : Nat, V % WW < WW := fun V => Nat.mod_lt V WW_pos
  have h65 : 2 ^ 65 < WW := Nat.pow_lt_pow_right (by decide) (by decide)
  have hof : ∀ i : Nat, i < 1000 → (UInt64.ofNat i).toNat = i := fun i h => by rw [UInt64.toNat_ofNat', Nat.mod_eq_of_lt (by omega)]
  have hv8 : ∀ c : UInt8, (UInt64.ofNat c.toNat).toNat = c.toNat := fun c => by
    have := c.toNat_lt
    rw [UInt64.toNat_ofNat', Nat.mod_eq_of_lt (by omega)]
  obtain ⟨t, ht⟩ : ∃ t, t = I.tmod 32 := ⟨_, rfl⟩
  have hb1 : -32 < t ∧ t < 32 := by
    have h1 := Int.tmod_lt_of_pos I (show (0 : Int) < 32 by decide)
    have h2 := Int.lt_tmod_of_pos I (show (0 : Int) < 32 by decide)
    omega
  obtain ⟨k, hk⟩ : ∃ k : Nat, (k : Int) = (t + 32) % 32 := ⟨((t + 32) % 32).toNat, by omega⟩
  have hk32 : k < 32 := by omega
  have hamt : amt (8 * k) = 8 * k := by rw [amt, if_pos (by omega)]
  have hkW : 8 * k < WW := by omega
  have hshr : x / 2 ^ (8 * k) < WW := Nat.lt_of_le_of_lt (Nat.div_le_self _ _) hx
  refine Fn.enter (vs := [wo x, .int .i64 I]) Try.func13 rfl rfl rfl ?_
  intro E R hR
  change At _ _ E [R] _
  refine At.seq fun K1 hk_1 => ?_
  refine At.region ?_
  refine op_box (nxla rfl) rfl rfl rfl (fun N2 b2 B2 => ?_)
  change Blk N2 b2 _ (u64s (wl x)) at B2
  refine op_assign (nxlf rfl) rfl rfl ?_
  refine At.opsNil ?_
  refine At.norm (hk_1 ?_)
  refine At.seq fun K2 hk_2 => ?_
  refine At.region ?_
  refine op_loadAggB (ds := u64s (wl x)) (nxlf rfl) ag24 rfl B2 (by first | (rw [List.drop_zero, List.take_of_length_le (by first | (simp; done) | (simp; omega))]; done) | rfl) (by first | (simp; done) | (simp; omega)) mem0 rfl ?_
  refine op_callA (nxla rfl) (.cons rfl .nil) (WBytes_w hx) Try.func52 rfl rfl (by simp) rfl ?_
  rintro v18 L18 ⟨rfl, rfl⟩
  change At _ _ _ [N2, R] _
  refine op_alloc (nxla rfl) ze56 rfl (fun N5 b5 B5 => ?_)
  change Blk N5 b5 _ [.int .u8 0, .int .u8 0, .int .u8 0, .int .u8 0, .int .u8 0, .int .u8 0, .int .u8 0, .int .u8 0, .int .u8 0, .int .u8 0, .int .u8 0, .int .u8 0, .int .u8 0, .int .u8 0, .int .u8 0, .int .u8 0, .int .u8 0, .int .u8 0, .int .u8 0, .int .u8 0, .int .u8 0, .int .u8 0, .int .u8 0, .int .u8 0, .int .u8 0, .int .u8 0, .int .u8 0, .int .u8 0, .int .u8 0, .int .u8 0, .int .u8 0, .int .u8 0] at B5
  refine op_store (nxl rfl) sz56 rfl rfl rfl rfl rfl B5 (by simp) sel0 (fun N5 B5 => ?_)
  rw [setL_whole (by simp)] at B5
  refine At.opsNil ?_
  refine At.norm (hk_2 ?_)
  refine At.seq fun K3 hk_3 => ?_
  refine At.region ?_
  have s5 := arr_part8 B5 (lo := 0) (hi := 32) (c := 32) (by omega) (by simp) (by omega) (by omega)
  rw [List.drop_zero, List.take_of_length_le (by omega)] at s5
  refine op_sliceA (nxlf rfl) ae56 rfl .none .none .none (by omega) (by omega) (by omega) (by simp) rfl ?_
  refine op_callA (nxla rfl) (.cons rfl .nil) (WFrom_x s5 (by omega) hbe) Try.func48 rfl rfl (by simp) rfl ?_
  rintro v21 L21 ⟨rfl, rfl⟩
  change At _ _ _ [N5, N2, R] _
  refine op_move (nxlf rfl) rfl rfl ?_
  refine op_extract (nxlf rfl) rfl rfl rfl ?_
  refine op_extract (nxlf rfl) rfl rfl rfl ?_
  refine op_alloc (nxla rfl) ze24 rfl (fun N6 b6 B6 => ?_)
  change Blk N6 b6 _ [.int .u64 0, .int .u64 0, .int .u64 0, .int .u64 0] at B6
  refine op_store (nxl rfl) sz24 rfl rfl rfl rfl rfl B6 (by simp) sel0 (fun N6 B6 => ?_)
  rw [setL_whole (by simp)] at B6
  refine op_assign (nxlf rfl) rfl rfl ?_
  refine At.opsNil ?_
  refine At.norm (hk_3 ?_)
  refine At.seq fun K4 hk_4 => ?_
  refine At.region ?_
  refine op_loadAggB (ds := u64s (wl x)) (nxlf rfl) ag24 rfl B2 (by first | (rw [List.drop_zero, List.take_of_length_le (by first | (simp; done) | (simp; omega))]; done) | rfl) (by first | (simp; done) | (simp; omega)) mem2 rfl ?_
  refine op_callA (nxla rfl) (.cons rfl .nil) (WShort_w hx) Try.func54 rfl rfl (by simp) rfl ?_
  rintro v25 L25 ⟨M25, p25, c25, rfl, rfl, r25⟩
  change At _ _ _ [M25, N6, N5, N2, R] _
  have s25 := r25.rsl
  refine op_assign (nxlf rfl) rfl rfl ?_
  refine At.opsNil ?_
  refine At.norm (hk_4 ?_)
  refine At.seq fun K5 hk_5 => ?_
  refine At.region ?_
  refine op_move (nxlf rfl) rfl rfl ?_
  refine op_callA (nxla rfl) (.cons rfl .nil) (WFrom_x s25 (by omega) (be_bytesOf x)) Try.func48 rfl rfl (by simp) rfl ?_
  rintro v28 L28 ⟨rfl, rfl⟩
  change At _ _ _ [M25, N6, N5, N2, R] _
  refine op_move (nxlf rfl) rfl rfl ?_
  refine op_extract (nxlf rfl) rfl rfl rfl ?_
  refine op_extract (nxlf rfl) rfl rfl rfl ?_
  refine op_alloc (nxla rfl) ze24 rfl (fun N9 b9 B9 => ?_)
  change Blk N9 b9 _ [.int .u64 0, .int .u64 0, .int .u64 0, .int .u64 0] at B9
  refine op_store (nxl rfl) sz24 rfl rfl rfl rfl rfl B9 (by simp) sel0 (fun N9 B9 => ?_)
  rw [setL_whole (by simp)] at B9
  refine op_assign (nxlf rfl) rfl rfl ?_
  refine At.opsNil ?_
  refine At.norm (hk_5 ?_)
  refine At.seq fun K6 hk_6 => ?_
  refine At.meet (fun fr_ hp_ => fr_ = [(1, .int .i64 I), (2, .pointer (some ⟨b2, 0, none⟩)), (5, .pointer (some ⟨b5, 0, none⟩))] ∧ hp_ = [N2, N5, R] ∧ (True)) ?_ (fun K6_ jk_6 => ?_)
  rotate_left
  · skip
    refine At.seq fun K7 hk_7 => ?_
    refine At.region ?_
    refine op_move (nxlf rfl) rfl rfl ?_
    refine op_not (nxlf rfl) rfl rfl ?_
    refine op_move (nxlf rfl) rfl rfl ?_
    refine op_move (nxgf rfl rfl rfl rfl) rfl rfl ?_
    refine op_not (nxgf rfl rfl rfl rfl) rfl rfl ?_
    refine op_pickF (nxlf rfl) rfl rfl rfl ?_
    refine op_move (nxlf rfl) rfl rfl ?_
    refine op_loadAggB (ds := u64s (wl x)) (nxgf rfl rfl rfl rfl) ag24 rfl B6 (by first | (rw [List.drop_zero, List.take_of_length_le (by first | (simp; done) | (simp; omega))]; done) | rfl) (by first | (simp; done) | (simp; omega)) mem2 rfl ?_
    refine op_loadAggB (ds := u64s (wl x)) (nxgf rfl rfl rfl rfl) ag24 rfl B2 (by first | (rw [List.drop_zero, List.take_of_length_le (by first | (simp; done) | (simp; omega))]; done) | rfl) (by first | (simp; done) | (simp; omega)) mem4 rfl ?_
    refine op_neW (a := wl x) (b := wl x) (nxgf rfl rfl rfl rfl) ae24 Try.underlying22 (by kernel_rfl) rfl rfl rfl rfl rfl ?_
    refine op_pickF (nxlf rfl) rfl rfl rfl ?_
    refine op_move (nxlf rfl) rfl rfl ?_
    refine At.partP (d := 42) rfl (fun g42 => ?_) (fun g42 => ?_)
    · exact absurd rfl g42
    · refine op_loadAggB (ds := u64s (wl x)) (nxgf rfl rfl rfl rfl) ag24 rfl B9 (by first | (rw [List.drop_zero, List.take_of_length_le (by first | (simp; done) | (simp; omega))]; done) | rfl) (by first | (simp; done) | (simp; omega)) mem0 rfl ?_
      refine op_loadAggB (ds := u64s (wl x)) (nxgf rfl rfl rfl rfl) ag24 rfl B2 (by first | (rw [List.drop_zero, List.take_of_length_le (by first | (simp; done) | (simp; omega))]; done) | rfl) (by first | (simp; done) | (simp; omega)) mem4 rfl ?_
      refine op_neW (a := wl x) (b := wl x) (nxgf rfl rfl rfl rfl) ae24 Try.underlying22 (by kernel_rfl) rfl rfl rfl rfl rfl ?_
      refine op_pickF (nxlf rfl) rfl rfl rfl ?_
      refine op_move (nxlf rfl) rfl rfl ?_
      refine At.partP (d := 47) rfl (fun g47 => ?_) (fun g47 => ?_)
      · exact absurd rfl g47
      · refine op_move (nxgf rfl rfl rfl rfl) rfl rfl ?_
        refine op_lenS (nxgf rfl rfl rfl rfl) se34 rfl rfl ?_
        refine op_gtr (nxgf rfl rfl rfl rfl) rfl rfl rfl ?_
        refine op_pickF (nxlf rfl) rfl rfl rfl ?_
        refine op_move (nxlf rfl) rfl rfl ?_
        refine At.partP (d := 52) rfl (fun g52 => ?_) (fun g52 => ?_)
        · exfalso; omega
        · refine op_move (nxgf rfl rfl rfl rfl) rfl rfl ?_
          refine op_lenS (nxgf rfl rfl rfl rfl) se34 rfl rfl ?_
          refine op_gtr (nxgf rfl rfl rfl rfl) rfl rfl rfl ?_
          refine op_move (nxgf rfl rfl rfl rfl) rfl rfl ?_
          refine At.partP (d := 56) rfl (fun g56 => ?_) (fun g56 => ?_)
          · refine op_move (nxgf rfl rfl rfl rfl) rfl rfl ?_
            refine op_idx1 (nxgf rfl rfl rfl rfl) se34 rfl rfl s25 (show _ = ((0 : Nat) : Int) from rfl) (by omega) rfl ?_
            refine op_loadE (nxgf rfl rfl rfl rfl) sc5 rfl s25 (by first | exact get8 (by omega) | exact get64 (by omega) | exact get32 (by omega)) (by first | exact mem0 | exact mem1 | exact mem2 | exact mem3 | exact mem4 | exact mem5 | exact mem6 | exact mem7 | exact mem8 | exact mem9) rfl ?_
            refine op_eql (nxgf rfl rfl rfl rfl) rfl rfl rfl ?_
            refine op_pickT (nxgf rfl rfl rfl rfl) rfl rfl rfl ?_
            refine op_pickF (nxlf rfl) rfl rfl rfl ?_
            refine op_move (nxlf rfl) rfl rfl ?_
            refine At.partP (d := 63) rfl (fun g63 => ?_) (fun g63 => ?_)
            · first | (cases g63; done) | exact absurd (by omega) (head_ne (x := x) (by omega))
            · refine op_loadAggB (ds := u64s (wl x)) (nxgf rfl rfl rfl rfl) ag24 rfl B2 (by first | (rw [List.drop_zero, List.take_of_length_le (by first | (simp; done) | (simp; omega))]; done) | rfl) (by first | (simp; done) | (simp; omega)) mem4 rfl ?_
              refine op_callA (nxga rfl rfl rfl rfl) (.cons rfl .nil) (WBits_w hx) Try.func56 rfl rfl (by simp) rfl ?_
              rintro v65 L65 ⟨rfl, rfl⟩
              change At _ _ _ [N9, M25, N6, N5, N2, R] _
              refine op_addI (nxgf rfl rfl rfl rfl) rfl rfl (by omega) (by omega) rfl ?_
              refine op_quoI (nxgf rfl rfl rfl rfl) rfl rfl (by omega) (by omega) (by omega) rfl ?_
              refine op_move (nxgf rfl rfl rfl rfl) rfl rfl ?_
              refine op_lenS (nxgf rfl rfl rfl rfl) se34 rfl rfl ?_
              refine op_neq (nxgf rfl rfl rfl rfl) rfl rfl rfl ?_
              refine op_pickF (nxlf rfl) rfl rfl rfl ?_
              refine At.opsNil ?_
              refine At.norm (hk_7 ?_)
              refine At.condP rfl (fun c71 => ?_) (fun c71 => ?_)
              · exfalso; omega
              · refine At.skip ?_
                refine At.sub (L' := [N5, N2, R]) (.cons _ (.cons _ (.cons _ (.cons_cons _ (.cons_cons _ (.cons_cons _ (.slnil))))))) ?_
                refine At.perm sel2 ?_
                refine At.perm sel1 ?_
                refine At.perm sel2 ?_
                refine At.norm (jk_6 ?_ (.refl _) ⟨rfl, rfl, trivial⟩)
                exact .cons (by first | exact lkI rfl (by omega) | rfl) (.cons (by first | exact lkI rfl (by omega) | rfl) (.cons (by first | exact lkI rfl (by omega) | rfl) .nil))
          · refine op_skip rfl rfl rfl rfl rfl rfl rfl ?_
            refine op_skip rfl rfl rfl rfl rfl rfl rfl ?_
            refine op_skip rfl rfl rfl rfl rfl rfl rfl ?_
            refine op_skip rfl rfl rfl rfl rfl rfl rfl ?_
            refine op_pickF (nxgf rfl rfl rfl rfl) rfl rfl rfl ?_
            refine op_pickF (nxlf rfl) rfl rfl rfl ?_
            refine op_move (nxlf rfl) rfl rfl ?_
            refine op_loadAggB (ds := u64s (wl x)) (nxgf rfl rfl rfl rfl) ag24 rfl B2 (by first | (rw [List.drop_zero, List.take_of_length_le (by first | (simp; done) | (simp; omega))]; done) | rfl) (by first | (simp; done) | (simp; omega)) mem4 rfl ?_
            refine op_callA (nxga rfl rfl rfl rfl) (.cons rfl .nil) (WBits_w hx) Try.func56 rfl rfl (by simp) rfl ?_
            rintro v65 L65 ⟨rfl, rfl⟩
            change At _ _ _ [N9, M25, N6, N5, N2, R] _
            refine op_addI (nxgf rfl rfl rfl rfl) rfl rfl (by omega) (by omega) rfl ?_
            refine op_quoI (nxgf rfl rfl rfl rfl) rfl rfl (by omega) (by omega) (by omega) rfl ?_
            refine op_move (nxgf rfl rfl rfl rfl) rfl rfl ?_
            refine op_lenS (nxgf rfl rfl rfl rfl) se34 rfl rfl ?_
            refine op_neq (nxgf rfl rfl rfl rfl) rfl rfl rfl ?_
            refine op_pickF (nxlf rfl) rfl rfl rfl ?_
            refine At.opsNil ?_
            refine At.norm (hk_7 ?_)
            refine At.condP rfl (fun c71 => ?_) (fun c71 => ?_)
            · exfalso; omega
            · refine At.skip ?_
              refine At.sub (L' := [N5, N2, R]) (.cons _ (.cons _ (.cons _ (.cons_cons _ (.cons_cons _ (.cons_cons _ (.slnil))))))) ?_
              refine At.perm sel2 ?_
              refine At.perm sel1 ?_
              refine At.perm sel2 ?_
              refine At.norm (jk_6 ?_ (.refl _) ⟨rfl, rfl, trivial⟩)
              exact .cons (by first | exact lkI rfl (by omega) | rfl) (.cons (by first | exact lkI rfl (by omega) | rfl) (.cons (by first | exact lkI rfl (by omega) | rfl) .nil))
  rintro _ _ ⟨rfl, rfl, htt⟩
  refine hk_6 ?_
  refine At.seq fun K8 hk_8 => ?_
  refine At.region ?_
  refine op_move (nxlf rfl) rfl rfl ?_
  refine op_remT (nxlf rfl) rfl rfl (by omega) rfl ?_
  rw [← ht]
  refine op_addI (nxlf rfl) rfl rfl (by omega) (by omega) rfl ?_
  refine op_rem (nxlf rfl) rfl rfl (by omega) (by omega) rfl ?_
  rw [← hk]
  refine op_assign (nxlf rfl) rfl rfl ?_
  refine At.opsNil ?_
  refine At.norm (hk_8 ?_)
  refine At.seq fun K9 hk_9 => ?_
  refine At.meet (fun fr_ hp_ => ∃ (N12 : Heaplet) (b12 : Nat), fr_ = [(2, .pointer (some ⟨b2, 0, none⟩)), (5, .pointer (some ⟨b5, 0, none⟩)), (11, .int .i64 (k : Int)), (12, .pointer (some ⟨b12, 0, none⟩))] ∧ hp_ = [N2, N5, N12, R] ∧ (Blk N12 b12 56 (u8s (bytesN 32 (x * 2 ^ (8 * k) % WW))))) ?_ (fun K9_ jk_9 => ?_)
  rotate_left
  · skip
    refine At.perm sel2 ?_
    refine At.perm sel1 ?_
    refine At.perm sel2 ?_
    refine At.planS [N2, R] (.take 0 (.take 1 (.take 2 (.take 4 (.fork 3 false (.fork 5 true (.fork 6 true (.fork 7 false (.fork 8 true .done .nofork) .nofork) (.fork 7 false (.fork 6 false (.fork 8 true .done .nofork) .nofork) .nofork)) (.fork 7 false (.fork 5 false (.fork 6 false (.fork 8 true .done .nofork) .nofork) .nofork) .nofork)) (.fork 7 false (.fork 3 false (.fork 5 false (.fork 6 false (.fork 8 true .done .nofork) .nofork) .nofork) .nofork) .nofork)))))) (by kernel_rfl) (by kernel_rfl) (.cons _ (.refl _)) ?_
    refine op_move (nxpf rfl rfl) rfl rfl ?_
    refine op_mulI (nxpf rfl rfl) rfl rfl (by omega) (by omega) rfl ?_
    refine op_conv64 (nxpf rfl rfl) (und_some Try.underlying3) Try.underlying22 rfl (show _ = (((8 * k : Nat)) : Int) from by omega) rfl ?_
    refine op_loadAggB (ds := u64s (wl x)) (nxpf rfl rfl) ag24 rfl B2 (by first | (rw [List.drop_zero, List.take_of_length_le (by first | (simp; done) | (simp; omega))]; done) | rfl) (by first | (simp; done) | (simp; omega)) mem0 rfl ?_
    refine At.fork ?_ ?_
    rotate_left
    · refine At.fork ?_ ?_
      rotate_left
      · exact At.pNo
      refine op_alloc (Nx.agree (nxpa rfl rfl)) ze56 rfl (fun N12 b12 B12 => ?_)
      change Blk N12 b12 _ [.int .u8 0, .int .u8 0, .int .u8 0, .int .u8 0, .int .u8 0, .int .u8 0, .int .u8 0, .int .u8 0, .int .u8 0, .int .u8 0, .int .u8 0, .int .u8 0, .int .u8 0, .int .u8 0, .int .u8 0, .int .u8 0, .int .u8 0, .int .u8 0, .int .u8 0, .int .u8 0, .int .u8 0, .int .u8 0, .int .u8 0, .int .u8 0, .int .u8 0, .int .u8 0, .int .u8 0, .int .u8 0, .int .u8 0, .int .u8 0, .int .u8 0, .int .u8 0] at B12
      refine At.andS (.cons _ (.cons _ (.refl _))) ?_
      refine At.fork ?_ ?_
      rotate_left
      · exact At.pNo
      refine op_callA (Nx.agree (nxpa rfl rfl)) (.cons rfl .nil) (WOf_f (UInt64.ofNat (8 * k))) Try.func36 rfl rfl (by simp) rfl ?_
      rintro v79 L79 ⟨rfl, rfl⟩
      change At _ _ _ [N12, N5, N2, R] _
      rw [hof (8 * k) (by omega)]
      refine At.andS (.cons _ (.cons _ (.refl _))) ?_
      refine At.fork ?_ ?_
      rotate_left
      · exact At.pNo
      refine op_callA (Nx.agree (nxpa rfl rfl)) (.cons rfl (.cons rfl .nil)) (WShl_f (m := 8 * k) hkW hx) Try.func79 rfl rfl (by simp) rfl ?_
      rintro v81 L81 ⟨rfl, rfl⟩
      change At _ _ _ [N12, N5, N2, R] _
      rw [hamt, ← wo_mod (x * 2 ^ (8 * k))]
      refine At.andS (.cons _ (.cons _ (.refl _))) ?_
      refine At.fork ?_ ?_
      rotate_left
      · exact At.pNo
      refine op_callA (Nx.agree (nxpa rfl rfl)) (.cons rfl .nil) (WBytes_w (hlt _)) Try.func52 rfl rfl (by simp) rfl ?_
      rintro v82 L82 ⟨rfl, rfl⟩
      change At _ _ _ [N12, N5, N2, R] _
      refine At.andS (.cons _ (.cons _ (.refl _))) ?_
      refine At.fork ?_ ?_
      rotate_left
      · exact At.pNo
      refine op_store (nxpl rfl rfl) sz56 rfl rfl rfl rfl rfl B12 (by simp) sel0 (fun N12 B12 => ?_)
      rw [setL_whole (by simp)] at B12
      refine At.pDone ?_
      refine At.perm sel3 ?_
      refine At.perm sel1 ?_
      refine At.perm sel2 ?_
      refine At.perm sel3 ?_
      refine At.norm (jk_9 ?_ (.refl _) ⟨N12, b12, rfl, rfl, B12⟩)
      exact .cons (by first | exact lkI rfl (by omega) | rfl) (.cons (by first | exact lkI rfl (by omega) | rfl) (.cons (by first | exact lkI rfl (by omega) | rfl) (.cons (by first | exact lkI rfl (by omega) | rfl) .nil)))
    refine op_callA (Nx.agree (nxpa rfl rfl)) (.cons rfl .nil) (WOf_f (UInt64.ofNat (8 * k))) Try.func36 rfl rfl (by simp) rfl ?_
    rintro v79 L79 ⟨rfl, rfl⟩
    change At _ _ _ [N5, N2, R] _
    rw [hof (8 * k) (by omega)]
    refine At.andS (.cons _ (.refl _)) ?_
    refine At.fork ?_ ?_
    rotate_left
    · refine At.fork ?_ ?_
      rotate_left
      · exact At.pNo
      refine op_alloc (Nx.agree (nxpa rfl rfl)) ze56 rfl (fun N12 b12 B12 => ?_)
      change Blk N12 b12 _ [.int .u8 0, .int .u8 0, .int .u8 0, .int .u8 0, .int .u8 0, .int .u8 0, .int .u8 0, .int .u8 0, .int .u8 0, .int .u8 0, .int .u8 0, .int .u8 0, .int .u8 0, .int .u8 0, .int .u8 0, .int .u8 0, .int .u8 0, .int .u8 0, .int .u8 0, .int .u8 0, .int .u8 0, .int .u8 0, .int .u8 0, .int .u8 0, .int .u8 0, .int .u8 0, .int .u8 0, .int .u8 0, .int .u8 0, .int .u8 0, .int .u8 0, .int .u8 0] at B12
      refine At.andS (.cons _ (.cons _ (.refl _))) ?_
      refine At.fork ?_ ?_
      rotate_left
      · exact At.pNo
      refine op_callA (Nx.agree (nxpa rfl rfl)) (.cons rfl (.cons rfl .nil)) (WShl_f (m := 8 * k) hkW hx) Try.func79 rfl rfl (by simp) rfl ?_
      rintro v81 L81 ⟨rfl, rfl⟩
      change At _ _ _ [N12, N5, N2, R] _
      rw [hamt, ← wo_mod (x * 2 ^ (8 * k))]
      refine At.andS (.cons _ (.cons _ (.refl _))) ?_
      refine At.fork ?_ ?_
      rotate_left
      · exact At.pNo
      refine op_callA (Nx.agree (nxpa rfl rfl)) (.cons rfl .nil) (WBytes_w (hlt _)) Try.func52 rfl rfl (by simp) rfl ?_
      rintro v82 L82 ⟨rfl, rfl⟩
      change At _ _ _ [N12, N5, N2, R] _
      refine At.andS (.cons _ (.cons _ (.refl _))) ?_
      refine At.fork ?_ ?_
      rotate_left
      · exact At.pNo
      refine op_store (nxpl rfl rfl) sz56 rfl rfl rfl rfl rfl B12 (by simp) sel0 (fun N12 B12 => ?_)
      rw [setL_whole (by simp)] at B12
      refine At.pDone ?_
      refine At.perm sel3 ?_
      refine At.perm sel1 ?_
      refine At.perm sel2 ?_
      refine At.perm sel3 ?_
      refine At.norm (jk_9 ?_ (.refl _) ⟨N12, b12, rfl, rfl, B12⟩)
      exact .cons (by first | exact lkI rfl (by omega) | rfl) (.cons (by first | exact lkI rfl (by omega) | rfl) (.cons (by first | exact lkI rfl (by omega) | rfl) (.cons (by first | exact lkI rfl (by omega) | rfl) .nil)))
    refine op_callA (Nx.agree (nxpa rfl rfl)) (.cons rfl (.cons rfl .nil)) (WShl_f (m := 8 * k) hkW hx) Try.func79 rfl rfl (by simp) rfl ?_
    rintro v81 L81 ⟨rfl, rfl⟩
    change At _ _ _ [N5, N2, R] _
    rw [hamt, ← wo_mod (x * 2 ^ (8 * k))]
    refine At.andS (.cons _ (.refl _)) ?_
    refine At.fork ?_ ?_
    rotate_left
    · refine At.fork ?_ ?_
      rotate_left
      · exact At.pNo
      refine op_alloc (Nx.agree (nxpa rfl rfl)) ze56 rfl (fun N12 b12 B12 => ?_)
      change Blk N12 b12 _ [.int .u8 0, .int .u8 0, .int .u8 0, .int .u8 0, .int .u8 0, .int .u8 0, .int .u8 0, .int .u8 0, .int .u8 0, .int .u8 0, .int .u8 0, .int .u8 0, .int .u8 0, .int .u8 0, .int .u8 0, .int .u8 0, .int .u8 0, .int .u8 0, .int .u8 0, .int .u8 0, .int .u8 0, .int .u8 0, .int .u8 0, .int .u8 0, .int .u8 0, .int .u8 0, .int .u8 0, .int .u8 0, .int .u8 0, .int .u8 0, .int .u8 0, .int .u8 0] at B12
      refine At.andS (.cons _ (.cons _ (.refl _))) ?_
      refine At.fork ?_ ?_
      rotate_left
      · exact At.pNo
      refine op_callA (Nx.agree (nxpa rfl rfl)) (.cons rfl .nil) (WBytes_w (hlt _)) Try.func52 rfl rfl (by simp) rfl ?_
      rintro v82 L82 ⟨rfl, rfl⟩
      change At _ _ _ [N12, N5, N2, R] _
      refine At.andS (.cons _ (.cons _ (.refl _))) ?_
      refine At.fork ?_ ?_
      rotate_left
      · exact At.pNo
      refine op_store (nxpl rfl rfl) sz56 rfl rfl rfl rfl rfl B12 (by simp) sel0 (fun N12 B12 => ?_)
      rw [setL_whole (by simp)] at B12
      refine At.pDone ?_
      refine At.perm sel3 ?_
      refine At.perm sel1 ?_
      refine At.perm sel2 ?_
      refine At.perm sel3 ?_
      refine At.norm (jk_9 ?_ (.refl _) ⟨N12, b12, rfl, rfl, B12⟩)
      exact .cons (by first | exact lkI rfl (by omega) | rfl) (.cons (by first | exact lkI rfl (by omega) | rfl) (.cons (by first | exact lkI rfl (by omega) | rfl) (.cons (by first | exact lkI rfl (by omega) | rfl) .nil)))
    refine op_callA (Nx.agree (nxpa rfl rfl)) (.cons rfl .nil) (WBytes_w (hlt _)) Try.func52 rfl rfl (by simp) rfl ?_
    rintro v82 L82 ⟨rfl, rfl⟩
    change At _ _ _ [N5, N2, R] _
    refine At.andS (.cons _ (.refl _)) ?_
    refine At.fork ?_ ?_
    rotate_left
    · exact At.pNo
    refine op_alloc (Nx.agree (nxpa rfl rfl)) ze56 rfl (fun N12 b12 B12 => ?_)
    change Blk N12 b12 _ [.int .u8 0, .int .u8 0, .int .u8 0, .int .u8 0, .int .u8 0, .int .u8 0, .int .u8 0, .int .u8 0, .int .u8 0, .int .u8 0, .int .u8 0, .int .u8 0, .int .u8 0, .int .u8 0, .int .u8 0, .int .u8 0, .int .u8 0, .int .u8 0, .int .u8 0, .int .u8 0, .int .u8 0, .int .u8 0, .int .u8 0, .int .u8 0, .int .u8 0, .int .u8 0, .int .u8 0, .int .u8 0, .int .u8 0, .int .u8 0, .int .u8 0, .int .u8 0] at B12
    refine At.andS (.cons _ (.cons _ (.refl _))) ?_
    refine At.fork ?_ ?_
    rotate_left
    · exact At.pNo
    refine op_store (nxpl rfl rfl) sz56 rfl rfl rfl rfl rfl B12 (by simp) sel0 (fun N12 B12 => ?_)
    rw [setL_whole (by simp)] at B12
    refine At.pDone ?_
    refine At.perm sel3 ?_
    refine At.perm sel1 ?_
    refine At.perm sel2 ?_
    refine At.perm sel3 ?_
    refine At.norm (jk_9 ?_ (.refl _) ⟨N12, b12, rfl, rfl, B12⟩)
    exact .cons (by first | exact lkI rfl (by omega) | rfl) (.cons (by first | exact lkI rfl (by omega) | rfl) (.cons (by first | exact lkI rfl (by omega) | rfl) (.cons (by first | exact lkI rfl (by omega) | rfl) .nil)))
  rintro _ _ ⟨N12, b12, rfl, rfl, B12⟩
  refine hk_9 ?_
  refine At.seq fun K10 hk_10 => ?_
  refine At.meet (fun fr_ hp_ => ∃ (N13 : Heaplet) (b13 : Nat), fr_ = [(2, .pointer (some ⟨b2, 0, none⟩)), (5, .pointer (some ⟨b5, 0, none⟩)), (11, .int .i64 (k : Int)), (12, .pointer (some ⟨b12, 0, none⟩)), (13, .pointer (some ⟨b13, 0, none⟩))] ∧ hp_ = [N2, N5, N12, N13, R] ∧ (Blk N13 b13 56 (u8s (bytesN 32 (x / 2 ^ (8 * k)))))) ?_ (fun K10_ jk_10 => ?_)
  rotate_left
  · skip
    refine At.perm sel3 ?_
    refine At.perm sel1 ?_
    refine At.perm sel3 ?_
    refine At.perm sel3 ?_
    refine At.planS [N2, R] (.take 0 (.take 1 (.take 2 (.take 4 (.fork 3 false (.fork 5 true (.fork 6 true (.fork 7 false (.fork 8 true .done .nofork) .nofork) (.fork 7 false (.fork 6 false (.fork 8 true .done .nofork) .nofork) .nofork)) (.fork 7 false (.fork 5 false (.fork 6 false (.fork 8 true .done .nofork) .nofork) .nofork) .nofork)) (.fork 7 false (.fork 3 false (.fork 5 false (.fork 6 false (.fork 8 true .done .nofork) .nofork) .nofork) .nofork) .nofork)))))) (by kernel_rfl) (by kernel_rfl) (.cons _ (.cons _ (.refl _))) ?_
    refine op_move (nxpf rfl rfl) rfl rfl ?_
    refine op_mulI (nxpf rfl rfl) rfl rfl (by omega) (by omega) rfl ?_
    refine op_conv64 (nxpf rfl rfl) (und_some Try.underlying3) Try.underlying22 rfl (show _ = (((8 * k : Nat)) : Int) from by omega) rfl ?_
    refine op_loadAggB (ds := u64s (wl x)) (nxpf rfl rfl) ag24 rfl B2 (by first | (rw [List.drop_zero, List.take_of_length_le (by first | (simp; done) | (simp; omega))]; done) | rfl) (by first | (simp; done) | (simp; omega)) mem0 rfl ?_
    refine At.fork ?_ ?_
    rotate_left
    · refine At.fork ?_ ?_
      rotate_left
      · exact At.pNo
      refine op_alloc (Nx.agree (nxpa rfl rfl)) ze56 rfl (fun N13 b13 B13 => ?_)
      change Blk N13 b13 _ [.int .u8 0, .int .u8 0, .int .u8 0, .int .u8 0, .int .u8 0, .int .u8 0, .int .u8 0, .int .u8 0, .int .u8 0, .int .u8 0, .int .u8 0, .int .u8 0, .int .u8 0, .int .u8 0, .int .u8 0, .int .u8 0, .int .u8 0, .int .u8 0, .int .u8 0, .int .u8 0, .int .u8 0, .int .u8 0, .int .u8 0, .int .u8 0, .int .u8 0, .int .u8 0, .int .u8 0, .int .u8 0, .int .u8 0, .int .u8 0, .int .u8 0, .int .u8 0] at B13
      refine At.andS (.cons _ (.cons _ (.cons _ (.refl _)))) ?_
      refine At.fork ?_ ?_
      rotate_left
      · exact At.pNo
      refine op_callA (Nx.agree (nxpa rfl rfl)) (.cons rfl .nil) (WOf_f (UInt64.ofNat (8 * k))) Try.func36 rfl rfl (by simp) rfl ?_
      rintro v86 L86 ⟨rfl, rfl⟩
      change At _ _ _ [N13, N5, N12, N2, R] _
      rw [hof (8 * k) (by omega)]
      refine At.andS (.cons _ (.cons _ (.cons _ (.refl _)))) ?_
      refine At.fork ?_ ?_
      rotate_left
      · exact At.pNo
      refine op_callA (Nx.agree (nxpa rfl rfl)) (.cons rfl (.cons rfl .nil)) (WShr_f (m := 8 * k) hkW hx) Try.func80 rfl rfl (by simp) rfl ?_
      rintro v88 L88 ⟨rfl, rfl⟩
      change At _ _ _ [N13, N5, N12, N2, R] _
      rw [hamt]
      refine At.andS (.cons _ (.cons _ (.cons _ (.refl _)))) ?_
      refine At.fork ?_ ?_
      rotate_left
      · exact At.pNo
      refine op_callA (Nx.agree (nxpa rfl rfl)) (.cons rfl .nil) (WBytes_w hshr) Try.func52 rfl rfl (by simp) rfl ?_
      rintro v89 L89 ⟨rfl, rfl⟩
      change At _ _ _ [N13, N5, N12, N2, R] _
      refine At.andS (.cons _ (.cons _ (.cons _ (.refl _)))) ?_
      refine At.fork ?_ ?_
      rotate_left
      · exact At.pNo
      refine op_store (nxpl rfl rfl) sz56 rfl rfl rfl rfl rfl B13 (by simp) sel0 (fun N13 B13 => ?_)
      rw [setL_whole (by simp)] at B13
      refine At.pDone ?_
      refine At.perm sel4 ?_
      refine At.perm sel1 ?_
      refine At.perm sel3 ?_
      refine At.perm sel3 ?_
      refine At.perm sel4 ?_
      refine At.norm (jk_10 ?_ (.refl _) ⟨N13, b13, rfl, rfl, B13⟩)
      exact .cons (by first | exact lkI rfl (by omega) | rfl) (.cons (by first | exact lkI rfl (by omega) | rfl) (.cons (by first | exact lkI rfl (by omega) | rfl) (.cons (by first | exact lkI rfl (by omega) | rfl) (.cons (by first | exact lkI rfl (by omega) | rfl) .nil))))
    refine op_callA (Nx.agree (nxpa rfl rfl)) (.cons rfl .nil) (WOf_f (UInt64.ofNat (8 * k))) Try.func36 rfl rfl (by simp) rfl ?_
    rintro v86 L86 ⟨rfl, rfl⟩
    change At _ _ _ [N5, N12, N2, R] _
    rw [hof (8 * k) (by omega)]
    refine At.andS (.cons _ (.cons _ (.refl _))) ?_
    refine At.fork ?_ ?_
    rotate_left
    · refine At.fork ?_ ?_
      rotate_left
      · exact At.pNo
      refine op_alloc (Nx.agree (nxpa rfl rfl)) ze56 rfl (fun N13 b13 B13 => ?_)
      change Blk N13 b13 _ [.int .u8 0, .int .u8 0, .int .u8 0, .int .u8 0, .int .u8 0, .int .u8 0, .int .u8 0, .int .u8 0, .int .u8 0, .int .u8 0, .int .u8 0, .int .u8 0, .int .u8 0, .int .u8 0, .int .u8 0, .int .u8 0, .int .u8 0, .int .u8 0, .int .u8 0, .int .u8 0, .int .u8 0, .int .u8 0, .int .u8 0, .int .u8 0, .int .u8 0, .int .u8 0, .int .u8 0, .int .u8 0, .int .u8 0, .int .u8 0, .int .u8 0, .int .u8 0] at B13
      refine At.andS (.cons _ (.cons _ (.cons _ (.refl _)))) ?_
      refine At.fork ?_ ?_
      rotate_left
      · exact At.pNo
      refine op_callA (Nx.agree (nxpa rfl rfl)) (.cons rfl (.cons rfl .nil)) (WShr_f (m := 8 * k) hkW hx) Try.func80 rfl rfl (by simp) rfl ?_
      rintro v88 L88 ⟨rfl, rfl⟩
      change At _ _ _ [N13, N5, N12, N2, R] _
      rw [hamt]
      refine At.andS (.cons _ (.cons _ (.cons _ (.refl _)))) ?_
      refine At.fork ?_ ?_
      rotate_left
      · exact At.pNo
      refine op_callA (Nx.agree (nxpa rfl rfl)) (.cons rfl .nil) (WBytes_w hshr) Try.func52 rfl rfl (by simp) rfl ?_
      rintro v89 L89 ⟨rfl, rfl⟩
      change At _ _ _ [N13, N5, N12, N2, R] _
      refine At.andS (.cons _ (.cons _ (.cons _ (.refl _)))) ?_
      refine At.fork ?_ ?_
      rotate_left
      · exact At.pNo
      refine op_store (nxpl rfl rfl) sz56 rfl rfl rfl rfl rfl B13 (by simp) sel0 (fun N13 B13 => ?_)
      rw [setL_whole (by simp)] at B13
      refine At.pDone ?_
      refine At.perm sel4 ?_
      refine At.perm sel1 ?_
      refine At.perm sel3 ?_
      refine At.perm sel3 ?_
      refine At.perm sel4 ?_
      refine At.norm (jk_10 ?_ (.refl _) ⟨N13, b13, rfl, rfl, B13⟩)
      exact .cons (by first | exact lkI rfl (by omega) | rfl) (.cons (by first | exact lkI rfl (by omega) | rfl) (.cons (by first | exact lkI rfl (by omega) | rfl) (.cons (by first | exact lkI rfl (by omega) | rfl) (.cons (by first | exact lkI rfl (by omega) | rfl) .nil))))
    refine op_callA (Nx.agree (nxpa rfl rfl)) (.cons rfl (.cons rfl .nil)) (WShr_f (m := 8 * k) hkW hx) Try.func80 rfl rfl (by simp) rfl ?_
    rintro v88 L88 ⟨rfl, rfl⟩
    change At _ _ _ [N5, N12, N2, R] _
    rw [hamt]
    refine At.andS (.cons _ (.cons _ (.refl _))) ?_
    refine At.fork ?_ ?_
    rotate_left
    · refine At.fork ?_ ?_
      rotate_left
      · exact At.pNo
      refine op_alloc (Nx.agree (nxpa rfl rfl)) ze56 rfl (fun N13 b13 B13 => ?_)
      change Blk N13 b13 _ [.int .u8 0, .int .u8 0, .int .u8 0, .int .u8 0, .int .u8 0, .int .u8 0, .int .u8 0, .int .u8 0, .int .u8 0, .int .u8 0, .int .u8 0, .int .u8 0, .int .u8 0, .int .u8 0, .int .u8 0, .int .u8 0, .int .u8 0, .int .u8 0, .int .u8 0, .int .u8 0, .int .u8 0, .int .u8 0, .int .u8 0, .int .u8 0, .int .u8 0, .int .u8 0, .int .u8 0, .int .u8 0, .int .u8 0, .int .u8 0, .int .u8 0, .int .u8 0] at B13
      refine At.andS (.cons _ (.cons _ (.cons _ (.refl _)))) ?_
      refine At.fork ?_ ?_
      rotate_left
      · exact At.pNo
      refine op_callA (Nx.agree (nxpa rfl rfl)) (.cons rfl .nil) (WBytes_w hshr) Try.func52 rfl rfl (by simp) rfl ?_
      rintro v89 L89 ⟨rfl, rfl⟩
      change At _ _ _ [N13, N5, N12, N2, R] _
      refine At.andS (.cons _ (.cons _ (.cons _ (.refl _)))) ?_
      refine At.fork ?_ ?_
      rotate_left
      · exact At.pNo
      refine op_store (nxpl rfl rfl) sz56 rfl rfl rfl rfl rfl B13 (by simp) sel0 (fun N13 B13 => ?_)
      rw [setL_whole (by simp)] at B13
      refine At.pDone ?_
      refine At.perm sel4 ?_
      refine At.perm sel1 ?_
      refine At.perm sel3 ?_
      refine At.perm sel3 ?_
      refine At.perm sel4 ?_
      refine At.norm (jk_10 ?_ (.refl _) ⟨N13, b13, rfl, rfl, B13⟩)
      exact .cons (by first | exact lkI rfl (by omega) | rfl) (.cons (by first | exact lkI rfl (by omega) | rfl) (.cons (by first | exact lkI rfl (by omega) | rfl) (.cons (by first | exact lkI rfl (by omega) | rfl) (.cons (by first | exact lkI rfl (by omega) | rfl) .nil))))
    refine op_callA (Nx.agree (nxpa rfl rfl)) (.cons rfl .nil) (WBytes_w hshr) Try.func52 rfl rfl (by simp) rfl ?_
    rintro v89 L89 ⟨rfl, rfl⟩
    change At _ _ _ [N5, N12, N2, R] _
    refine At.andS (.cons _ (.cons _ (.refl _))) ?_
    refine At.fork ?_ ?_
    rotate_left
    · exact At.pNo
    refine op_alloc (Nx.agree (nxpa rfl rfl)) ze56 rfl (fun N13 b13 B13 => ?_)
    change Blk N13 b13 _ [.int .u8 0, .int .u8 0, .int .u8 0, .int .u8 0, .int .u8 0, .int .u8 0, .int .u8 0, .int .u8 0, .int .u8 0, .int .u8 0, .int .u8 0, .int .u8 0, .int .u8 0, .int .u8 0, .int .u8 0, .int .u8 0, .int .u8 0, .int .u8 0, .int .u8 0, .int .u8 0, .int .u8 0, .int .u8 0, .int .u8 0, .int .u8 0, .int .u8 0, .int .u8 0, .int .u8 0, .int .u8 0, .int .u8 0, .int .u8 0, .int .u8 0, .int .u8 0] at B13
    refine At.andS (.cons _ (.cons _ (.cons _ (.refl _)))) ?_
    refine At.fork ?_ ?_
    rotate_left
    · exact At.pNo
    refine op_store (nxpl rfl rfl) sz56 rfl rfl rfl rfl rfl B13 (by simp) sel0 (fun N13 B13 => ?_)
    rw [setL_whole (by simp)] at B13
    refine At.pDone ?_
    refine At.perm sel4 ?_
    refine At.perm sel1 ?_
    refine At.perm sel3 ?_
    refine At.perm sel3 ?_
    refine At.perm sel4 ?_
    refine At.norm (jk_10 ?_ (.refl _) ⟨N13, b13, rfl, rfl, B13⟩)
    exact .cons (by first | exact lkI rfl (by omega) | rfl) (.cons (by first | exact lkI rfl (by omega) | rfl) (.cons (by first | exact lkI rfl (by omega) | rfl) (.cons (by first | exact lkI rfl (by omega) | rfl) (.cons (by first | exact lkI rfl (by omega) | rfl) .nil))))
  rintro _ _ ⟨N13, b13, rfl, rfl, B13⟩
  refine hk_10 ?_
  refine At.seq fun K11 hk_11 => ?_
  refine At.seq fun K12 hk_12 => ?_
  refine At.region ?_
  refine op_assign (nxlf rfl) rfl rfl ?_
  refine At.opsNil ?_
  refine At.norm (hk_12 ?_)
  refine At.block ?_
  refine At.loop (fun fr_ hp_ ms_ => ∃ (i : Nat), fr_ = [(2, .pointer (some ⟨b2, 0, none⟩)), (5, .pointer (some ⟨b5, 0, none⟩)), (11, .int .i64 (k : Int)), (12, .pointer (some ⟨b12, 0, none⟩)), (13, .pointer (some ⟨b13, 0, none⟩)), (14, .int .i64 (i : Int))] ∧ hp_ = [N2, N5, N12, N13, R] ∧ 32 - i = ms_ ∧ (i ≤ 32)) ?_ (.refl _) ⟨0, rfl, rfl, rfl, by omega⟩ ?_
  · exact .cons (by first | exact lkI rfl (by omega) | rfl) (.cons (by first | exact lkI rfl (by omega) | rfl) (.cons (by first | exact lkI rfl (by omega) | rfl) (.cons (by first | exact lkI rfl (by omega) | rfl) (.cons (by first | exact lkI rfl (by omega) | rfl) (.cons (by first | exact lkI rfl (by omega) | rfl) .nil)))))
  rintro _ _ _ ⟨i, rfl, rfl, rfl, hi⟩
  have hl1 : (bytesN 32 (x * 2 ^ (8 * k) % WW)).length = 32 := length_bytesN 32 _
  have hl2 : (bytesN 32 (x / 2 ^ (8 * k))).length = 32 := length_bytesN 32 _
  refine At.seq fun K13 hk_13 => ?_
  refine At.seq fun K14 hk_14 => ?_
  refine At.region ?_
  refine op_move (nxlf rfl) rfl rfl ?_
  refine op_lss (nxlf rfl) rfl rfl rfl ?_
  refine At.opsNil ?_
  refine At.norm (hk_14 ?_)
  refine At.condP rfl (fun c91 => ?_) (fun c91 => ?_)
  · refine At.skip ?_
    refine At.norm (hk_13 ?_)
    refine At.seq fun K15 hk_15 => ?_
    refine At.block ?_
    refine At.seq fun K16 hk_16 => ?_
    refine At.region ?_
    refine op_assign (nxlf rfl) rfl rfl ?_
    refine op_assign (nxlf rfl) rfl rfl ?_
    refine At.opsNil ?_
    refine At.norm (hk_16 ?_)
    refine At.seq fun K17 hk_17 => ?_
    refine At.seq fun K18 hk_18 => ?_
    refine At.region ?_
    refine op_move (nxlf rfl) rfl rfl ?_
    refine op_move (nxlf rfl) rfl rfl ?_
    refine op_addI (nxlf rfl) rfl rfl (by omega) (by omega) rfl ?_
    refine op_lss (nxlf rfl) rfl rfl rfl ?_
    refine At.opsNil ?_
    refine At.norm (hk_18 ?_)
    refine At.condP rfl (fun c97 => ?_) (fun c97 => ?_)
    · refine At.region ?_
      refine op_move (nxlf rfl) rfl rfl ?_
      refine op_move (nxlf rfl) rfl rfl ?_
      refine op_addI (nxlf rfl) rfl rfl (by omega) (by omega) rfl ?_
      refine op_idxA (nxlf rfl) ae56 rfl rfl (show _ = (((i + k : Nat)) : Int) from by omega) (by omega) rfl ?_
      refine op_loadB (nxlf rfl) sc5 rfl B5 (by first | exact get8A (by omega) | rfl) mem1 rfl ?_
      refine op_assign (nxlf rfl) rfl rfl ?_
      refine At.opsNil ?_
      refine At.norm (hk_17 ?_)
      refine At.seq fun K19 hk_19 => ?_
      refine At.seq fun K20 hk_20 => ?_
      refine At.region ?_
      refine op_move (nxlf rfl) rfl rfl ?_
      refine op_move (nxlf rfl) rfl rfl ?_
      refine op_geq (nxlf rfl) rfl rfl rfl ?_
      refine At.opsNil ?_
      refine At.norm (hk_20 ?_)
      refine At.condP rfl (fun c105 => ?_) (fun c105 => ?_)
      · refine At.region ?_
        refine op_move (nxlf rfl) rfl rfl ?_
        refine op_move (nxlf rfl) rfl rfl ?_
        refine op_subI (nxlf rfl) rfl rfl (by omega) (by omega) rfl ?_
        refine op_idxA (nxlf rfl) ae56 rfl rfl (show _ = (((i - k : Nat)) : Int) from by omega) (by omega) rfl ?_
        refine op_loadB (nxlf rfl) sc5 rfl B5 (by first | exact get8A (by omega) | rfl) mem1 rfl ?_
        refine op_assign (nxlf rfl) rfl rfl ?_
        refine At.opsNil ?_
        refine At.norm (hk_19 ?_)
        refine At.seq fun K21 hk_21 => ?_
        refine At.drawnS [N2, N5, N12, N13, R] [22] [18] [0,1,2,3,4,5,6,7,8,9,10,11,12,13,14,16,18,19,20,21,15,17,22,23,24] (by kernel_rfl) (by kernel_rfl) (.refl _) ?_
        refine op_move (nxsf rfl rfl rfl) rfl rfl ?_
        refine op_idxA (nxsf rfl rfl rfl) ae56 rfl rfl (show _ = (((i : Nat)) : Int) from by omega) (by omega) rfl ?_
        refine op_loadB (nxsf rfl rfl rfl) sc5 rfl B12 (by first | exact get8A (by omega) | rfl) mem2 rfl ?_
        refine op_move (nxsf rfl rfl rfl) rfl rfl ?_
        refine op_neq (nxsf rfl rfl rfl) rfl rfl rfl ?_
        refine op_move (nxsf rfl rfl rfl) rfl rfl ?_
        refine At.partP (d := 116) rfl (fun g116 => ?_) (fun g116 => ?_)
        · exact absurd (by first | rw [shl_bytes (by omega), if_pos (by omega)] | (rw [shl_bytes (by omega), if_neg (by omega)]; rfl)) g116
        · refine op_move (nxsgf rfl rfl rfl rfl rfl rfl) rfl rfl ?_
          refine op_idxA (nxsgf rfl rfl rfl rfl rfl rfl) ae56 rfl rfl (show _ = (((i : Nat)) : Int) from by omega) (by omega) rfl ?_
          refine op_loadB (nxsgf rfl rfl rfl rfl rfl rfl) sc5 rfl B13 (by first | exact get8A (by omega) | rfl) mem3 rfl ?_
          refine op_move (nxsgf rfl rfl rfl rfl rfl rfl) rfl rfl ?_
          refine op_neq (nxsgf rfl rfl rfl rfl rfl rfl) rfl rfl rfl ?_
          refine op_pickF (nxsf rfl rfl rfl) rfl rfl rfl ?_
          refine op_move (nxsf rfl rfl rfl) rfl rfl ?_
          refine At.partP (d := 123) rfl (fun g123 => ?_) (fun g123 => ?_)
          · exact absurd (by first | rw [shr_bytes hx (by omega), if_pos (by omega)] | (rw [shr_bytes hx (by omega), if_neg (by omega)]; rfl)) g123
          · refine op_move (nxsgf rfl rfl rfl rfl rfl rfl) rfl rfl ?_
            refine op_conv64 (nxsgf rfl rfl rfl rfl rfl rfl) (und_some Try.underlying3) Try.underlying22 rfl (show _ = (((i : Nat)) : Int) from by omega) rfl ?_
            refine op_loadAggB (ds := u64s (wl x)) (nxsgf rfl rfl rfl rfl rfl rfl) ag24 rfl B2 (by first | (rw [List.drop_zero, List.take_of_length_le (by first | (simp; done) | (simp; omega))]; done) | rfl) (by first | (simp; done) | (simp; omega)) mem0 rfl ?_
            refine op_move (nxsgf rfl rfl rfl rfl rfl rfl) rfl rfl ?_
            refine op_idxA (nxsgf rfl rfl rfl rfl rfl rfl) ae56 rfl rfl (show _ = (((i : Nat)) : Int) from by omega) (by omega) rfl ?_
            refine op_loadB (nxsgf rfl rfl rfl rfl rfl rfl) sc5 rfl B5 (by first | exact get8A (by omega) | rfl) mem1 rfl ?_
            refine op_conv64 (nxsgf rfl rfl rfl rfl rfl rfl) (und_some Try.underlying5) Try.underlying22 rfl (by first | rfl | exact (Int.toNat_of_nonneg (by omega)).symm) rfl ?_
            refine op_callA (Nx.agree (nxsgm rfl rfl rfl rfl rfl rfl)) (.cons rfl .nil) (WOf_f (UInt64.ofNat i)) Try.func36 rfl rfl (by simp) rfl ?_
            rintro v126 L126 ⟨rfl, rfl⟩
            change At _ _ _ [N2, N5, N12, N13, R] _
            rw [hof i (by omega)]
            refine At.moreS (Lst := [N2, N5, N12, N13, R]) (Lst' := [N2, N5, N12, N13, R]) (.refl _) (.refl _) ?_
            refine op_callA (Nx.agree (nxsgm rfl rfl rfl rfl rfl rfl)) (.cons rfl (.cons rfl .nil)) (WByte_y (m := i) hx (by omega) (by omega)) Try.func81 rfl rfl (by simp) rfl ?_
            rintro v128 L128 ⟨rfl, rfl⟩
            change At _ _ _ [N2, N5, N12, N13, R] _
            refine At.moreS (Lst := [N2, N5, N12, N13, R]) (Lst' := [N2, N5, N12, N13, R]) (.refl _) (.refl _) ?_
            refine op_callA (Nx.agree (nxsgs rfl rfl rfl rfl rfl rfl rfl)) (.cons rfl .nil) (WOf_f (UInt64.ofNat ((bytesN 32 x).getD i 0).toNat)) Try.func36 rfl rfl (by simp) rfl ?_
            rintro v133 L133 ⟨rfl, rfl⟩
            change At _ _ _ [N2, N5, N12, N13, R] _
            rw [hv8]
            refine At.anyS (.refl _) ?_
            refine op_neW (a := wl ((bytesN 32 x).getD i 0).toNat) (b := wl ((bytesN 32 x).getD i 0).toNat) (nxsgf rfl rfl rfl rfl rfl rfl) ae24 Try.underlying22 (by kernel_rfl) rfl rfl rfl rfl rfl ?_
            refine op_pickF (nxsf rfl rfl rfl) rfl rfl rfl ?_
            refine At.sNil ?_
            refine At.norm (hk_21 ?_)
            refine At.condP rfl (fun c135 => ?_) (fun c135 => ?_)
            · exact absurd rfl c135
            · refine At.skip ?_
              refine At.inNorm ?_
              refine At.norm (hk_15 ?_)
              refine At.region ?_
              refine op_move (nxlf rfl) rfl rfl ?_
              refine op_addI (nxlf rfl) rfl rfl (by omega) (by omega) rfl ?_
              refine op_assign (nxlf rfl) rfl rfl ?_
              refine At.opsNil ?_
              refine At.norm ?_
              refine At.back ?_ (.refl _) ⟨i + 1, rfl, rfl, rfl, by omega⟩ ?_
              · exact .cons (by first | exact lkI rfl (by omega) | rfl) (.cons (by first | exact lkI rfl (by omega) | rfl) (.cons (by first | exact lkI rfl (by omega) | rfl) (.cons (by first | exact lkI rfl (by omega) | rfl) (.cons (by first | exact lkI rfl (by omega) | rfl) (.cons (by first | exact lkI rfl (by omega) | rfl) .nil)))))
              · omega
      · refine At.skip ?_
        refine At.norm (hk_19 ?_)
        refine At.seq fun K22 hk_22 => ?_
        refine At.drawnS [N2, N5, N12, N13, R] [22] [18] [0,1,2,3,4,5,6,7,8,9,10,11,12,13,14,16,18,19,20,21,15,17,22,23,24] (by kernel_rfl) (by kernel_rfl) (.refl _) ?_
        refine op_move (nxsf rfl rfl rfl) rfl rfl ?_
        refine op_idxA (nxsf rfl rfl rfl) ae56 rfl rfl (show _ = (((i : Nat)) : Int) from by omega) (by omega) rfl ?_
        refine op_loadB (nxsf rfl rfl rfl) sc5 rfl B12 (by first | exact get8A (by omega) | rfl) mem2 rfl ?_
        refine op_move (nxsf rfl rfl rfl) rfl rfl ?_
        refine op_neq (nxsf rfl rfl rfl) rfl rfl rfl ?_
        refine op_move (nxsf rfl rfl rfl) rfl rfl ?_
        refine At.partP (d := 116) rfl (fun g116 => ?_) (fun g116 => ?_)
        · exact absurd (by first | rw [shl_bytes (by omega), if_pos (by omega)] | (rw [shl_bytes (by omega), if_neg (by omega)]; rfl)) g116
        · refine op_move (nxsgf rfl rfl rfl rfl rfl rfl) rfl rfl ?_
          refine op_idxA (nxsgf rfl rfl rfl rfl rfl rfl) ae56 rfl rfl (show _ = (((i : Nat)) : Int) from by omega) (by omega) rfl ?_
          refine op_loadB (nxsgf rfl rfl rfl rfl rfl rfl) sc5 rfl B13 (by first | exact get8A (by omega) | rfl) mem3 rfl ?_
          refine op_move (nxsgf rfl rfl rfl rfl rfl rfl) rfl rfl ?_
          refine op_neq (nxsgf rfl rfl rfl rfl rfl rfl) rfl rfl rfl ?_
          refine op_pickF (nxsf rfl rfl rfl) rfl rfl rfl ?_
          refine op_move (nxsf rfl rfl rfl) rfl rfl ?_
          refine At.partP (d := 123) rfl (fun g123 => ?_) (fun g123 => ?_)
          · exact absurd (by first | rw [shr_bytes hx (by omega), if_pos (by omega)] | (rw [shr_bytes hx (by omega), if_neg (by omega)]; rfl)) g123
          · refine op_move (nxsgf rfl rfl rfl rfl rfl rfl) rfl rfl ?_
            refine op_conv64 (nxsgf rfl rfl rfl rfl rfl rfl) (und_some Try.underlying3) Try.underlying22 rfl (show _ = (((i : Nat)) : Int) from by omega) rfl ?_
            refine op_loadAggB (ds := u64s (wl x)) (nxsgf rfl rfl rfl rfl rfl rfl) ag24 rfl B2 (by first | (rw [List.drop_zero, List.take_of_length_le (by first | (simp; done) | (simp; omega))]; done) | rfl) (by first | (simp; done) | (simp; omega)) mem0 rfl ?_
            refine op_move (nxsgf rfl rfl rfl rfl rfl rfl) rfl rfl ?_
            refine op_idxA (nxsgf rfl rfl rfl rfl rfl rfl) ae56 rfl rfl (show _ = (((i : Nat)) : Int) from by omega) (by omega) rfl ?_
            refine op_loadB (nxsgf rfl rfl rfl rfl rfl rfl) sc5 rfl B5 (by first | exact get8A (by omega) | rfl) mem1 rfl ?_
            refine op_conv64 (nxsgf rfl rfl rfl rfl rfl rfl) (und_some Try.underlying5) Try.underlying22 rfl (by first | rfl | exact (Int.toNat_of_nonneg (by omega)).symm) rfl ?_
            refine op_callA (Nx.agree (nxsgm rfl rfl rfl rfl rfl rfl)) (.cons rfl .nil) (WOf_f (UInt64.ofNat i)) Try.func36 rfl rfl (by simp) rfl ?_
            rintro v126 L126 ⟨rfl, rfl⟩
            change At _ _ _ [N2, N5, N12, N13, R] _
            rw [hof i (by omega)]
            refine At.moreS (Lst := [N2, N5, N12, N13, R]) (Lst' := [N2, N5, N12, N13, R]) (.refl _) (.refl _) ?_
            refine op_callA (Nx.agree (nxsgm rfl rfl rfl rfl rfl rfl)) (.cons rfl (.cons rfl .nil)) (WByte_y (m := i) hx (by omega) (by omega)) Try.func81 rfl rfl (by simp) rfl ?_
            rintro v128 L128 ⟨rfl, rfl⟩
            change At _ _ _ [N2, N5, N12, N13, R] _
            refine At.moreS (Lst := [N2, N5, N12, N13, R]) (Lst' := [N2, N5, N12, N13, R]) (.refl _) (.refl _) ?_
            refine op_callA (Nx.agree (nxsgs rfl rfl rfl rfl rfl rfl rfl)) (.cons rfl .nil) (WOf_f (UInt64.ofNat ((bytesN 32 x).getD i 0).toNat)) Try.func36 rfl rfl (by simp) rfl ?_
            rintro v133 L133 ⟨rfl, rfl⟩
            change At _ _ _ [N2, N5, N12, N13, R] _
            rw [hv8]
            refine At.anyS (.refl _) ?_
            refine op_neW (a := wl ((bytesN 32 x).getD i 0).toNat) (b := wl ((bytesN 32 x).getD i 0).toNat) (nxsgf rfl rfl rfl rfl rfl rfl) ae24 Try.underlying22 (by kernel_rfl) rfl rfl rfl rfl rfl ?_
            refine op_pickF (nxsf rfl rfl rfl) rfl rfl rfl ?_
            refine At.sNil ?_
            refine At.norm (hk_22 ?_)
            refine At.condP rfl (fun c135 => ?_) (fun c135 => ?_)
            · exact absurd rfl c135
            · refine At.skip ?_
              refine At.inNorm ?_
              refine At.norm (hk_15 ?_)
              refine At.region ?_
              refine op_move (nxlf rfl) rfl rfl ?_
              refine op_addI (nxlf rfl) rfl rfl (by omega) (by omega) rfl ?_
              refine op_assign (nxlf rfl) rfl rfl ?_
              refine At.opsNil ?_
              refine At.norm ?_
              refine At.back ?_ (.refl _) ⟨i + 1, rfl, rfl, rfl, by omega⟩ ?_
              · exact .cons (by first | exact lkI rfl (by omega) | rfl) (.cons (by first | exact lkI rfl (by omega) | rfl) (.cons (by first | exact lkI rfl (by omega) | rfl) (.cons (by first | exact lkI rfl (by omega) | rfl) (.cons (by first | exact lkI rfl (by omega) | rfl) (.cons (by first | exact lkI rfl (by omega) | rfl) .nil)))))
              · omega
    · refine At.skip ?_
      refine At.norm (hk_17 ?_)
      refine At.seq fun K23 hk_23 => ?_
      refine At.seq fun K24 hk_24 => ?_
      refine At.region ?_
      refine op_move (nxlf rfl) rfl rfl ?_
      refine op_move (nxlf rfl) rfl rfl ?_
      refine op_geq (nxlf rfl) rfl rfl rfl ?_
      refine At.opsNil ?_
      refine At.norm (hk_24 ?_)
      refine At.condP rfl (fun c105 => ?_) (fun c105 => ?_)
      · refine At.region ?_
        refine op_move (nxlf rfl) rfl rfl ?_
        refine op_move (nxlf rfl) rfl rfl ?_
        refine op_subI (nxlf rfl) rfl rfl (by omega) (by omega) rfl ?_
        refine op_idxA (nxlf rfl) ae56 rfl rfl (show _ = (((i - k : Nat)) : Int) from by omega) (by omega) rfl ?_
        refine op_loadB (nxlf rfl) sc5 rfl B5 (by first | exact get8A (by omega) | rfl) mem1 rfl ?_
        refine op_assign (nxlf rfl) rfl rfl ?_
        refine At.opsNil ?_
        refine At.norm (hk_23 ?_)
        refine At.seq fun K25 hk_25 => ?_
        refine At.drawnS [N2, N5, N12, N13, R] [22] [18] [0,1,2,3,4,5,6,7,8,9,10,11,12,13,14,16,18,19,20,21,15,17,22,23,24] (by kernel_rfl) (by kernel_rfl) (.refl _) ?_
        refine op_move (nxsf rfl rfl rfl) rfl rfl ?_
        refine op_idxA (nxsf rfl rfl rfl) ae56 rfl rfl (show _ = (((i : Nat)) : Int) from by omega) (by omega) rfl ?_
        refine op_loadB (nxsf rfl rfl rfl) sc5 rfl B12 (by first | exact get8A (by omega) | rfl) mem2 rfl ?_
        refine op_move (nxsf rfl rfl rfl) rfl rfl ?_
        refine op_neq (nxsf rfl rfl rfl) rfl rfl rfl ?_
        refine op_move (nxsf rfl rfl rfl) rfl rfl ?_
        refine At.partP (d := 116) rfl (fun g116 => ?_) (fun g116 => ?_)
        · exact absurd (by first | rw [shl_bytes (by omega), if_pos (by omega)] | (rw [shl_bytes (by omega), if_neg (by omega)]; rfl)) g116
        · refine op_move (nxsgf rfl rfl rfl rfl rfl rfl) rfl rfl ?_
          refine op_idxA (nxsgf rfl rfl rfl rfl rfl rfl) ae56 rfl rfl (show _ = (((i : Nat)) : Int) from by omega) (by omega) rfl ?_
          refine op_loadB (nxsgf rfl rfl rfl rfl rfl rfl) sc5 rfl B13 (by first | exact get8A (by omega) | rfl) mem3 rfl ?_
          refine op_move (nxsgf rfl rfl rfl rfl rfl rfl) rfl rfl ?_
          refine op_neq (nxsgf rfl rfl rfl rfl rfl rfl) rfl rfl rfl ?_
          refine op_pickF (nxsf rfl rfl rfl) rfl rfl rfl ?_
          refine op_move (nxsf rfl rfl rfl) rfl rfl ?_
          refine At.partP (d := 123) rfl (fun g123 => ?_) (fun g123 => ?_)
          · exact absurd (by first | rw [shr_bytes hx (by omega), if_pos (by omega)] | (rw [shr_bytes hx (by omega), if_neg (by omega)]; rfl)) g123
          · refine op_move (nxsgf rfl rfl rfl rfl rfl rfl) rfl rfl ?_
            refine op_conv64 (nxsgf rfl rfl rfl rfl rfl rfl) (und_some Try.underlying3) Try.underlying22 rfl (show _ = (((i : Nat)) : Int) from by omega) rfl ?_
            refine op_loadAggB (ds := u64s (wl x)) (nxsgf rfl rfl rfl rfl rfl rfl) ag24 rfl B2 (by first | (rw [List.drop_zero, List.take_of_length_le (by first | (simp; done) | (simp; omega))]; done) | rfl) (by first | (simp; done) | (simp; omega)) mem0 rfl ?_
            refine op_move (nxsgf rfl rfl rfl rfl rfl rfl) rfl rfl ?_
            refine op_idxA (nxsgf rfl rfl rfl rfl rfl rfl) ae56 rfl rfl (show _ = (((i : Nat)) : Int) from by omega) (by omega) rfl ?_
            refine op_loadB (nxsgf rfl rfl rfl rfl rfl rfl) sc5 rfl B5 (by first | exact get8A (by omega) | rfl) mem1 rfl ?_
            refine op_conv64 (nxsgf rfl rfl rfl rfl rfl rfl) (und_some Try.underlying5) Try.underlying22 rfl (by first | rfl | exact (Int.toNat_of_nonneg (by omega)).symm) rfl ?_
            refine op_callA (Nx.agree (nxsgm rfl rfl rfl rfl rfl rfl)) (.cons rfl .nil) (WOf_f (UInt64.ofNat i)) Try.func36 rfl rfl (by simp) rfl ?_
            rintro v126 L126 ⟨rfl, rfl⟩
            change At _ _ _ [N2, N5, N12, N13, R] _
            rw [hof i (by omega)]
            refine At.moreS (Lst := [N2, N5, N12, N13, R]) (Lst' := [N2, N5, N12, N13, R]) (.refl _) (.refl _) ?_
            refine op_callA (Nx.agree (nxsgm rfl rfl rfl rfl rfl rfl)) (.cons rfl (.cons rfl .nil)) (WByte_y (m := i) hx (by omega) (by omega)) Try.func81 rfl rfl (by simp) rfl ?_
            rintro v128 L128 ⟨rfl, rfl⟩
            change At _ _ _ [N2, N5, N12, N13, R] _
            refine At.moreS (Lst := [N2, N5, N12, N13, R]) (Lst' := [N2, N5, N12, N13, R]) (.refl _) (.refl _) ?_
            refine op_callA (Nx.agree (nxsgs rfl rfl rfl rfl rfl rfl rfl)) (.cons rfl .nil) (WOf_f (UInt64.ofNat ((bytesN 32 x).getD i 0).toNat)) Try.func36 rfl rfl (by simp) rfl ?_
            rintro v133 L133 ⟨rfl, rfl⟩
            change At _ _ _ [N2, N5, N12, N13, R] _
            rw [hv8]
            refine At.anyS (.refl _) ?_
            refine op_neW (a := wl ((bytesN 32 x).getD i 0).toNat) (b := wl ((bytesN 32 x).getD i 0).toNat) (nxsgf rfl rfl rfl rfl rfl rfl) ae24 Try.underlying22 (by kernel_rfl) rfl rfl rfl rfl rfl ?_
            refine op_pickF (nxsf rfl rfl rfl) rfl rfl rfl ?_
            refine At.sNil ?_
            refine At.norm (hk_25 ?_)
            refine At.condP rfl (fun c135 => ?_) (fun c135 => ?_)
            · exact absurd rfl c135
            · refine At.skip ?_
              refine At.inNorm ?_
              refine At.norm (hk_15 ?_)
              refine At.region ?_
              refine op_move (nxlf rfl) rfl rfl ?_
              refine op_addI (nxlf rfl) rfl rfl (by omega) (by omega) rfl ?_
              refine op_assign (nxlf rfl) rfl rfl ?_
              refine At.opsNil ?_
              refine At.norm ?_
              refine At.back ?_ (.refl _) ⟨i + 1, rfl, rfl, rfl, by omega⟩ ?_
              · exact .cons (by first | exact lkI rfl (by omega) | rfl) (.cons (by first | exact lkI rfl (by omega) | rfl) (.cons (by first | exact lkI rfl (by omega) | rfl) (.cons (by first | exact lkI rfl (by omega) | rfl) (.cons (by first | exact lkI rfl (by omega) | rfl) (.cons (by first | exact lkI rfl (by omega) | rfl) .nil)))))
              · omega
      · refine At.skip ?_
        refine At.norm (hk_23 ?_)
        refine At.seq fun K26 hk_26 => ?_
        refine At.drawnS [N2, N5, N12, N13, R] [22] [18] [0,1,2,3,4,5,6,7,8,9,10,11,12,13,14,16,18,19,20,21,15,17,22,23,24] (by kernel_rfl) (by kernel_rfl) (.refl _) ?_
        refine op_move (nxsf rfl rfl rfl) rfl rfl ?_
        refine op_idxA (nxsf rfl rfl rfl) ae56 rfl rfl (show _ = (((i : Nat)) : Int) from by omega) (by omega) rfl ?_
        refine op_loadB (nxsf rfl rfl rfl) sc5 rfl B12 (by first | exact get8A (by omega) | rfl) mem2 rfl ?_
        refine op_move (nxsf rfl rfl rfl) rfl rfl ?_
        refine op_neq (nxsf rfl rfl rfl) rfl rfl rfl ?_
        refine op_move (nxsf rfl rfl rfl) rfl rfl ?_
        refine At.partP (d := 116) rfl (fun g116 => ?_) (fun g116 => ?_)
        · exact absurd (by first | rw [shl_bytes (by omega), if_pos (by omega)] | (rw [shl_bytes (by omega), if_neg (by omega)]; rfl)) g116
        · refine op_move (nxsgf rfl rfl rfl rfl rfl rfl) rfl rfl ?_
          refine op_idxA (nxsgf rfl rfl rfl rfl rfl rfl) ae56 rfl rfl (show _ = (((i : Nat)) : Int) from by omega) (by omega) rfl ?_
          refine op_loadB (nxsgf rfl rfl rfl rfl rfl rfl) sc5 rfl B13 (by first | exact get8A (by omega) | rfl) mem3 rfl ?_
          refine op_move (nxsgf rfl rfl rfl rfl rfl rfl) rfl rfl ?_
          refine op_neq (nxsgf rfl rfl rfl rfl rfl rfl) rfl rfl rfl ?_
          refine op_pickF (nxsf rfl rfl rfl) rfl rfl rfl ?_
          refine op_move (nxsf rfl rfl rfl) rfl rfl ?_
          refine At.partP (d := 123) rfl (fun g123 => ?_) (fun g123 => ?_)
          · exact absurd (by first | rw [shr_bytes hx (by omega), if_pos (by omega)] | (rw [shr_bytes hx (by omega), if_neg (by omega)]; rfl)) g123
          · refine op_move (nxsgf rfl rfl rfl rfl rfl rfl) rfl rfl ?_
            refine op_conv64 (nxsgf rfl rfl rfl rfl rfl rfl) (und_some Try.underlying3) Try.underlying22 rfl (show _ = (((i : Nat)) : Int) from by omega) rfl ?_
            refine op_loadAggB (ds := u64s (wl x)) (nxsgf rfl rfl rfl rfl rfl rfl) ag24 rfl B2 (by first | (rw [List.drop_zero, List.take_of_length_le (by first | (simp; done) | (simp; omega))]; done) | rfl) (by first | (simp; done) | (simp; omega)) mem0 rfl ?_
            refine op_move (nxsgf rfl rfl rfl rfl rfl rfl) rfl rfl ?_
            refine op_idxA (nxsgf rfl rfl rfl rfl rfl rfl) ae56 rfl rfl (show _ = (((i : Nat)) : Int) from by omega) (by omega) rfl ?_
            refine op_loadB (nxsgf rfl rfl rfl rfl rfl rfl) sc5 rfl B5 (by first | exact get8A (by omega) | rfl) mem1 rfl ?_
            refine op_conv64 (nxsgf rfl rfl rfl rfl rfl rfl) (und_some Try.underlying5) Try.underlying22 rfl (by first | rfl | exact (Int.toNat_of_nonneg (by omega)).symm) rfl ?_
            refine op_callA (Nx.agree (nxsgm rfl rfl rfl rfl rfl rfl)) (.cons rfl .nil) (WOf_f (UInt64.ofNat i)) Try.func36 rfl rfl (by simp) rfl ?_
            rintro v126 L126 ⟨rfl, rfl⟩
            change At _ _ _ [N2, N5, N12, N13, R] _
            rw [hof i (by omega)]
            refine At.moreS (Lst := [N2, N5, N12, N13, R]) (Lst' := [N2, N5, N12, N13, R]) (.refl _) (.refl _) ?_
            refine op_callA (Nx.agree (nxsgm rfl rfl rfl rfl rfl rfl)) (.cons rfl (.cons rfl .nil)) (WByte_y (m := i) hx (by omega) (by omega)) Try.func81 rfl rfl (by simp) rfl ?_
            rintro v128 L128 ⟨rfl, rfl⟩
            change At _ _ _ [N2, N5, N12, N13, R] _
            refine At.moreS (Lst := [N2, N5, N12, N13, R]) (Lst' := [N2, N5, N12, N13, R]) (.refl _) (.refl _) ?_
            refine op_callA (Nx.agree (nxsgs rfl rfl rfl rfl rfl rfl rfl)) (.cons rfl .nil) (WOf_f (UInt64.ofNat ((bytesN 32 x).getD i 0).toNat)) Try.func36 rfl rfl (by simp) rfl ?_
            rintro v133 L133 ⟨rfl, rfl⟩
            change At _ _ _ [N2, N5, N12, N13, R] _
            rw [hv8]
            refine At.anyS (.refl _) ?_
            refine op_neW (a := wl ((bytesN 32 x).getD i 0).toNat) (b := wl ((bytesN 32 x).getD i 0).toNat) (nxsgf rfl rfl rfl rfl rfl rfl) ae24 Try.underlying22 (by kernel_rfl) rfl rfl rfl rfl rfl ?_
            refine op_pickF (nxsf rfl rfl rfl) rfl rfl rfl ?_
            refine At.sNil ?_
            refine At.norm (hk_26 ?_)
            refine At.condP rfl (fun c135 => ?_) (fun c135 => ?_)
            · exact absurd rfl c135
            · refine At.skip ?_
              refine At.inNorm ?_
              refine At.norm (hk_15 ?_)
              refine At.region ?_
              refine op_move (nxlf rfl) rfl rfl ?_
              refine op_addI (nxlf rfl) rfl rfl (by omega) (by omega) rfl ?_
              refine op_assign (nxlf rfl) rfl rfl ?_
              refine At.opsNil ?_
              refine At.norm ?_
              refine At.back ?_ (.refl _) ⟨i + 1, rfl, rfl, rfl, by omega⟩ ?_
              · exact .cons (by first | exact lkI rfl (by omega) | rfl) (.cons (by first | exact lkI rfl (by omega) | rfl) (.cons (by first | exact lkI rfl (by omega) | rfl) (.cons (by first | exact lkI rfl (by omega) | rfl) (.cons (by first | exact lkI rfl (by omega) | rfl) (.cons (by first | exact lkI rfl (by omega) | rfl) .nil)))))
              · omega
  · refine At.exit (At.thenExit (At.thenExit (At.inHit ?_)))
    refine At.norm (hk_11 ?_)
    refine At.seq fun K27 hk_27 => ?_
    refine At.region ?_
    refine op_callA (nxla rfl) .nil (Wwakes_f) Try.func26 rfl rfl (by simp) rfl ?_
    rintro v136 L136 ⟨rfl, rfl⟩
    change At _ _ _ [N2, N5, N12, N13, R] _
    refine op_assign (nxlf rfl) rfl rfl ?_
    refine At.opsNil ?_
    refine At.norm (hk_27 ?_)
    refine At.ret (?_)
    refine At.sub (L' := [R]) (.cons _ (.cons _ (.cons _ (.cons _ (.cons_cons _ (.slnil)))))) ?_
    refine At.ret1 (L1 := []) rfl (.tmp rfl .nil) (.refl _) (.refl _) ?_
    exact ⟨rfl, rfl⟩
theorem WordBack_f {a b c d : UInt64} {I : Int} (hI : -9223372036854775808 ≤ I ∧ I ≤ 9223372036854775807) : Fn Try.prog 13 #[.agg #[.int .u64 (a.toNat : Int), .int .u64 (b.toNat : Int), .int .u64 (c.toNat : Int), .int .u64 (d.toNat : Int)], .int .i64 I] [] [] (fun v L => v = .bool true ∧ L = []) := by
  have h : ([a, b, c, d] : List UInt64).length = 4 := rfl
  have e := wo_list h
  have := WordBack_w (v64_lt4 h) hI
  rw [← e] at this
  exact this
end Go.Proofs.Ytefljbbpaideaaa
