/- Several texts in one: see the remarks ahead of each part. No condition but those told there. -/
import Derived.Test.YtbmlhdecnfplaaaK15
import Derived.Test.YtbmlhdecnfplaaaK23
import Derived.Test.YtbmlhdecnfplaaaK17
import Derived.Test.YtbmlhdecnfplaaaK24
import Derived.Test.YtbmlhdecnfplaaaK25
import Derived.Test.YtbmlhdecnfplaaaK22
/- Difficulties: plain numbers. No condition. -/
namespace Go.Proofs.Ytbmlhdecnfplaaa
set_option linter.unusedVariables false
set_option linter.unusedSimpArgs false
/-- The hash of no ommers. -/
def kz : List UInt8 := kec [192]
theorem kz_len : kz.length = 32 := kec_len _
def stepN (y q : Nat) : Nat × Bool := if q ≤ y then (y - q, false) else (min (q - y) 99, true)
def dirF (f : Nat) (b : Bool) (t : Nat) : Nat × Bool := if f = 0 then (1, decide (13 ≤ t)) else if f < 4 then stepN 1 (t / 10) else if b = true then stepN 2 (t / 9) else stepN 1 (t / 9)
theorem stepN_up {y q : Nat} (h : q ≤ y) : stepN y q = (y - q, false) := if_pos h
theorem stepN_dn {y q : Nat} (h : ¬ q ≤ y) : stepN y q = (min (q - y) 99, true) := if_neg h
theorem stepN_le {y q : Nat} (h : y ≤ 2) : (stepN y q).1 ≤ 99 := by
  unfold stepN
  split
  · show y - q ≤ 99; omega
  · show min (q - y) 99 ≤ 99; omega
theorem dirF_le (f : Nat) (b : Bool) (t : Nat) : (dirF f b t).1 ≤ 99 := by
  unfold dirF
  split
  · show 1 ≤ 99; omega
  · split
    · exact stepN_le (by omega)
    · split
      · exact stepN_le (by omega)
      · exact stepN_le (by omega)
theorem dirF_0 (b : Bool) (t : Nat) : dirF 0 b t = (1, decide (13 ≤ t)) := rfl
theorem dirF_1 {f : Nat} {b : Bool} {t : Nat} (h0 : f ≠ 0) (h : f < 4) : dirF f b t = stepN 1 (t / 10) := by rw [dirF, if_neg h0, if_pos h]
theorem dirF_2 {f : Nat} {b : Bool} {t : Nat} (h : ¬ f < 4) (hb : b = true) : dirF f b t = stepN 2 (t / 9) := by rw [dirF, if_neg (by omega), if_neg h, if_pos hb]
theorem dirF_3 {f : Nat} {b : Bool} {t : Nat} (h : ¬ f < 4) (hb : ¬ b = true) : dirF f b t = stepN 1 (t / 9) := by rw [dirF, if_neg (by omega), if_neg h, if_neg hb]
def difX (d : Nat) (s : Nat × Bool) : Nat := if s.2 = true then d - d / 2048 * s.1 else d + d / 2048 * s.1
def difD (d : Nat) (s : Nat × Bool) : Nat := if difX d s < 131072 then 131072 else difX d s
theorem dif_ge (d : Nat) (s : Nat × Bool) : 131072 ≤ difD d s := by
  unfold difD; split <;> omega
theorem part_d {d n : Nat} (h : n ≤ 99) : d / 2048 * n ≤ d := by
  have h1 : d / 2048 * n ≤ d / 2048 * 2048 := Nat.mul_le_mul_left _ (by omega)
  have h2 : d / 2048 * 2048 ≤ d := Nat.div_mul_le_self ..
  omega
theorem difX_le (d : Nat) {s : Nat × Bool} (h : s.1 ≤ 99) : difX d s ≤ d + d := by
  have := part_d (d := d) h
  unfold difX; split <;> omega
def bombP (de nu : Nat) : Nat := (nu + 1 - de) / 100000
def bombF (de nu : Nat) : Nat := if bombP de nu < 2 then 0 else 2 ^ (min (bombP de nu - 2) 256)
theorem bomb_0 {de nu : Nat} (h : nu + 1 ≤ de) : bombF de nu = 0 := by rw [bombF, bombP, Nat.sub_eq_zero_of_le h, Nat.zero_div, if_pos (by decide)]
theorem bomb_1 {de nu : Nat} (h : bombP de nu < 2) : bombF de nu = 0 := if_pos h
theorem bomb_2 {de nu : Nat} (h : ¬ bombP de nu < 2) : bombF de nu = 2 ^ (min (bombP de nu - 2) 256) := if_neg h
set_option maxRecDepth 100000 in
theorem bomb_limbs : ∀ p : Fin 257, v64 ((List.replicate 5 (0 : UInt64)).set (p.1 / 64) (shl64 1 (p.1 % 64))) = 2 ^ p.1 := by decide +kernel
theorem bomb_far {de nu : Nat} (h : 300 < bombP de nu) : bombF de nu = WW := by
  rw [bomb_2 (by omega), show min (bombP de nu - 2) 256 = 256 by omega]; rfl
theorem bomb_near {de nu : Nat} (h : ¬ bombP de nu < 2) (h2 : bombP de nu - 2 ≤ 256) : bombF de nu = 2 ^ (bombP de nu - 2) := by
  rw [bomb_2 h, Nat.min_eq_left h2]
def hardX (f de nu d : Nat) (b : Bool) (t : Nat) : Nat := difD d (dirF f b t) + bombF de nu
theorem mB_lt : ∀ f : Fin 16, mBomb (f.1 : Int) < 18446744073709551616 := by decide +kernel
end Go.Proofs.Ytbmlhdecnfplaaa
/- Package head: none, steps, bomb. No condition. -/
namespace Go.Proofs.Ytbmlhdecnfplaaa
set_option linter.unusedVariables false
set_option linter.unusedSimpArgs false
open Go Go.RowKit
def minU (a b : UInt64) : UInt64 := if b.toNat < a.toNat then b else a
theorem minU_nat (a b : UInt64) : (minU a b).toNat = min a.toNat b.toNat := by
  unfold minU; split <;> omega
section
variable {P : Program} {n : Nat} {l : List (Nat × Value)} {E : World} {L Ls : List Heaplet} {X Y : Act → World → Prop} {d : Nat} {t t' ty : TypeId} {x y : Operand}
theorem op_minU {a b : UInt64} {pos : _} {aft : _} {g : _} (s : NxF P n l E L Ls ⟨some d, .call ⟨.builtin .min, #[x, y], #[t, t']⟩, ty, pos, aft, g⟩ X Y) (hx : ev l x = some (.int .u64 (a.toNat : Int))) (hy : ev l y = some (.int .u64 (b.toNat : Int))) (hn : Nat.ble (d + 1) n = true) (h : At n ((d, .int .u64 ((minU a b).toNat : Int)) :: l) E L Y) : At n l E L X := by
  refine op_val s (fun c w hf hw => ?_) rfl hn h
  have e : (if (b.toNat : Int) < (a.toNat : Int) then (b.toNat : Int) else (a.toNat : Int)) = ((minU a b).toNat : Int) := by
    unfold minU; split <;> split <;> omega
  simp only [execOp, resolve, invoke, builtin, Sem.run_bind, Sem.run_pure, Result.andThen_ok, List.map_toArray, List.map_cons, List.map_nil, hf.eval hx, hf.eval hy, Builtin.min_, List.foldlM_cons, List.foldlM_nil, Builtin.min2, e]
end
theorem FNone_f : Fn Try.prog 56 #[] [] [] (fun v L => v = .agg (u8s kz).toArray ∧ L = []) := by
  have hl := kz_len
  refine Fn.enter (vs := []) Try.func56 rfl rfl rfl ?_
  intro E R hR
  change At _ _ E [R] _
  refine At.seq fun K1 hk_1 => ?_
  refine At.region ?_
  refine op_alloc (nxla rfl) ze23 rfl (fun N0 b0 B0 => ?_)
  change Blk N0 b0 _ [.int .u8 0, .int .u8 0, .int .u8 0, .int .u8 0, .int .u8 0, .int .u8 0, .int .u8 0, .int .u8 0, .int .u8 0, .int .u8 0, .int .u8 0, .int .u8 0, .int .u8 0, .int .u8 0, .int .u8 0, .int .u8 0, .int .u8 0, .int .u8 0, .int .u8 0, .int .u8 0, .int .u8 0, .int .u8 0, .int .u8 0, .int .u8 0, .int .u8 0, .int .u8 0, .int .u8 0, .int .u8 0, .int .u8 0, .int .u8 0, .int .u8 0, .int .u8 0] at B0
  refine At.opsNil ?_
  refine At.norm (hk_1 ?_)
  refine At.seq fun K2 hk_2 => ?_
  refine At.region ?_
  refine op_lit (nxla rfl) Try.underlying30 ze5 sz5 (.cons rfl .nil) rfl rfl (by simp [Value.cells]) rfl rfl rfl (fun N1 a1 r1 => ?_)
  simp only [flatV, List.flatMap_cons, List.flatMap_nil, Value.cells, List.append_nil, List.cons_append, List.nil_append] at r1
  have s1 := r1.rsl
  change Row N1 _ 1 a1 1 1 (u8s [192]) at r1
  have s1 := r1.rsl
  refine op_callA (nxla rfl) (.cons rfl .nil) (FKeccak_f s1 (by decide)) Try.func67 rfl rfl (by simp) rfl ?_
  rintro v2 L2 ⟨rfl, rfl⟩
  change At _ _ _ [N1, N0, R] _
  change At _ ((_, Value.agg (u8s kz).toArray) :: _) _ _ _
  refine op_store (nxl rfl) sz23 rfl rfl rfl (len8s hl) (all8 _) B0 (by rw [len8s hl]; simp) sel1 (fun N0 B0 => ?_)
  rw [setL_whole (by rw [len8s hl]; simp)] at B0
  refine At.opsNil ?_
  refine At.norm (hk_2 ?_)
  refine At.ret (?_)
  refine At.sub (L' := [N0, R]) (.cons_cons _ (.cons _ (.cons_cons _ (.slnil)))) ?_
  refine At.ret1 (L1 := []) rfl (.cell rfl (res_agg (ds := u8s kz) ag23 B0 (all_take (len8s hl)) (len8s hl) mem0) .nil) (.cons _ (.refl _)) (.refl _) ?_
  exact ⟨rfl, rfl⟩
theorem rNone_f : Fn Try.prog 35 #[] [] [] (fun v L => v = .agg (u8s kz).toArray ∧ L = []) := by
  have hl := kz_len
  refine Fn.enter (vs := []) Try.func35 rfl rfl rfl ?_
  intro E R hR
  change At _ _ E [R] _
  refine At.seq fun K1 hk_1 => ?_
  refine At.region ?_
  refine op_alloc (nxla rfl) ze23 rfl (fun N0 b0 B0 => ?_)
  change Blk N0 b0 _ [.int .u8 0, .int .u8 0, .int .u8 0, .int .u8 0, .int .u8 0, .int .u8 0, .int .u8 0, .int .u8 0, .int .u8 0, .int .u8 0, .int .u8 0, .int .u8 0, .int .u8 0, .int .u8 0, .int .u8 0, .int .u8 0, .int .u8 0, .int .u8 0, .int .u8 0, .int .u8 0, .int .u8 0, .int .u8 0, .int .u8 0, .int .u8 0, .int .u8 0, .int .u8 0, .int .u8 0, .int .u8 0, .int .u8 0, .int .u8 0, .int .u8 0, .int .u8 0] at B0
  refine At.opsNil ?_
  refine At.norm (hk_1 ?_)
  refine At.seq fun K2 hk_2 => ?_
  refine At.region ?_
  refine op_lit (nxla rfl) Try.underlying30 ze5 sz5 (.cons rfl .nil) rfl rfl (by simp [Value.cells]) rfl rfl rfl (fun N1 a1 r1 => ?_)
  simp only [flatV, List.flatMap_cons, List.flatMap_nil, Value.cells, List.append_nil, List.cons_append, List.nil_append] at r1
  have s1 := r1.rsl
  change Row N1 _ 1 a1 1 1 (u8s [192]) at r1
  have s1 := r1.rsl
  refine op_callA (nxla rfl) (.cons rfl .nil) (rKeccak_f s1 (by decide)) Try.func61 rfl rfl (by simp) rfl ?_
  rintro v2 L2 ⟨rfl, rfl⟩
  change At _ _ _ [N1, N0, R] _
  change At _ ((_, Value.agg (u8s kz).toArray) :: _) _ _ _
  refine op_store (nxl rfl) sz23 rfl rfl rfl (len8s hl) (all8 _) B0 (by rw [len8s hl]; simp) sel1 (fun N0 B0 => ?_)
  rw [setL_whole (by rw [len8s hl]; simp)] at B0
  refine At.opsNil ?_
  refine At.norm (hk_2 ?_)
  refine At.ret (?_)
  refine At.sub (L' := [N0, R]) (.cons_cons _ (.cons _ (.cons_cons _ (.slnil)))) ?_
  refine At.ret1 (L1 := []) rfl (.cell rfl (res_agg (ds := u8s kz) ag23 B0 (all_take (len8s hl)) (len8s hl) mem0) .nil) (.cons _ (.refl _)) (.refl _) ?_
  exact ⟨rfl, rfl⟩
section
variable {h : Hd} {ao : Option Addr} {n cap : Nat}
/-- What steps answers. -/
def DirP (s : Nat × Bool) (v : Value) (L : List Heaplet) : Prop := ∃ z : UInt64, v = .tuple #[.int .u64 (z.toNat : Int), .bool (decide (s.2 = true))] ∧ L = [] ∧ z.toNat = s.1
theorem sub_nat {a b : UInt64} (h : b.toNat ≤ a.toNat) : (a - b).toNat = a.toNat - b.toNat := UInt64.toNat_sub_of_le _ _ (UInt64.le_iff_toNat_le.2 h)
set_option maxRecDepth 100000 in
set_option maxHeartbeats 1000000 in
theorem FSteps_1 (hk : h.Ok) {f : Nat} (hf : f < 4) (t : UInt64) : Fn Try.prog 24 #[.int .i64 (f : Int), .agg (h.cells ao n cap).toArray, .int .u64 (t.toNat : Int)] [] [] (DirP (stepN 1 (t.toNat / 10))) := by
  have hq : (t / 10).toNat = t.toNat / 10 := by rw [UInt64.toNat_div]; rfl
  have e1 : (1 : UInt64).toNat = 1 := rfl
  have e99 : (99 : UInt64).toNat = 99 := rfl
  refine Fn.enter (vs := [.int .i64 (f : Int), .agg (h.cells ao n cap).toArray, .int .u64 (t.toNat : Int)]) Try.func24 rfl rfl rfl ?_
  intro E R hR
  change At _ _ E [R] _
  refine At.seq fun K1 hk_1 => ?_
  refine At.region ?_
  refine op_box (nxla rfl) rfl rfl rfl (fun N4 b4 B4 => ?_)
  refine op_assign (nxlf rfl) rfl rfl ?_
  refine op_assign (nxlf rfl) rfl rfl ?_
  refine At.opsNil ?_
  refine At.norm (hk_1 ?_)
  refine At.seq fun K2 hk_2 => ?_
  refine At.region ?_
  refine op_assign (nxlf rfl) rfl rfl ?_
  refine op_assign (nxlf rfl) rfl rfl ?_
  refine At.opsNil ?_
  refine At.norm (hk_2 ?_)
  refine At.seq fun K3 hk_3 => ?_
  refine At.seq fun K4 hk_4 => ?_
  refine At.region ?_
  refine op_move (nxlf rfl) rfl rfl ?_
  refine op_geq (nxlf rfl) rfl rfl rfl ?_
  refine At.opsNil ?_
  refine At.norm (hk_4 ?_)
  refine At.condP rfl (fun c11 => ?_) (fun c11 => ?_)
  · exfalso; omega
  · refine At.skip ?_
    refine At.norm (hk_3 ?_)
    refine At.seq fun K5 hk_5 => ?_
    refine At.seq fun K6 hk_6 => ?_
    refine At.region ?_
    refine op_move (nxlf rfl) rfl rfl ?_
    refine op_move (nxlf rfl) rfl rfl ?_
    refine op_quoU (a := t) (b := 10) (nxlf rfl) rfl rfl (by decide) rfl ?_
    refine op_move (nxlf rfl) rfl rfl ?_
    refine op_leq (nxlf rfl) rfl rfl rfl ?_
    refine At.opsNil ?_
    refine At.norm (hk_6 ?_)
    refine At.condP rfl (fun c20 => ?_) (fun c20 => ?_)
    · refine At.seq fun K7 hk_7 => ?_
      refine At.region ?_
      refine op_move (nxlf rfl) rfl rfl ?_
      refine op_move (nxlf rfl) rfl rfl ?_
      refine op_move (nxlf rfl) rfl rfl ?_
      refine op_quoU (a := t) (b := 10) (nxlf rfl) rfl rfl (by decide) rfl ?_
      refine op_subU (a := 1) (b := t / 10) (nxlf rfl) rfl rfl rfl ?_
      refine op_assign (nxlf rfl) rfl rfl ?_
      refine op_assign (nxlf rfl) rfl rfl ?_
      refine At.opsNil ?_
      refine At.norm (hk_7 ?_)
      refine At.ret (At.thenRet (?_))
      refine At.sub (L' := [R]) (.cons _ (.cons_cons _ (.slnil))) ?_
      refine At.retN (L1 := []) rfl (.tmp rfl (.tmp rfl .nil)) rfl (.refl _) (.refl _) ?_
      have hle : t.toNat / 10 ≤ 1 := by omega
      exact ⟨1 - t / 10, by rw [stepN_up hle]; rfl, rfl, by rw [stepN_up hle, sub_nat (by omega), hq]; rfl⟩
    · refine At.skip ?_
      refine At.norm (hk_5 ?_)
      refine At.seq fun K8 hk_8 => ?_
      refine At.region ?_
      refine op_move (nxlf rfl) rfl rfl ?_
      refine op_move (nxlf rfl) rfl rfl ?_
      refine op_quoU (a := t) (b := 10) (nxlf rfl) rfl rfl (by decide) rfl ?_
      refine op_move (nxlf rfl) rfl rfl ?_
      refine op_subU (a := t / 10) (b := 1) (nxlf rfl) rfl rfl rfl ?_
      refine op_minU (a := t / 10 - 1) (b := 99) (nxlf rfl) rfl rfl rfl ?_
      refine op_assign (nxlf rfl) rfl rfl ?_
      refine op_assign (nxlf rfl) rfl rfl ?_
      refine At.opsNil ?_
      refine At.norm (hk_8 ?_)
      refine At.ret (?_)
      refine At.sub (L' := [R]) (.cons _ (.cons_cons _ (.slnil))) ?_
      refine At.retN (L1 := []) rfl (.tmp rfl (.tmp rfl .nil)) rfl (.refl _) (.refl _) ?_
      have hle : ¬ t.toNat / 10 ≤ 1 := by omega
      exact ⟨minU (t / 10 - 1) 99, by rw [stepN_dn hle]; rfl, rfl, by rw [stepN_dn hle, minU_nat, sub_nat (by omega), hq]; rfl⟩
set_option maxRecDepth 100000 in
set_option maxHeartbeats 1000000 in
theorem FSteps_3 (hk : h.Ok) {f : Nat} (hf : ¬ f < 4) (hb : ¬ h.om ≠ kz) (t : UInt64) : Fn Try.prog 24 #[.int .i64 (f : Int), .agg (h.cells ao n cap).toArray, .int .u64 (t.toNat : Int)] [] [] (DirP (stepN 1 (t.toNat / 9))) := by
  have hq : (t / 9).toNat = t.toNat / 9 := by rw [UInt64.toNat_div]; rfl
  have e1 : (1 : UInt64).toNat = 1 := rfl
  have e99 : (99 : UInt64).toNat = 99 := rfl
  refine Fn.enter (vs := [.int .i64 (f : Int), .agg (h.cells ao n cap).toArray, .int .u64 (t.toNat : Int)]) Try.func24 rfl rfl rfl ?_
  intro E R hR
  change At _ _ E [R] _
  refine At.seq fun K1 hk_1 => ?_
  refine At.region ?_
  refine op_box (nxla rfl) rfl rfl rfl (fun N4 b4 B4 => ?_)
  change Blk N4 b4 _ (h.cells ao n cap) at B4
  refine op_assign (nxlf rfl) rfl rfl ?_
  refine op_assign (nxlf rfl) rfl rfl ?_
  refine At.opsNil ?_
  refine At.norm (hk_1 ?_)
  refine At.seq fun K2 hk_2 => ?_
  refine At.region ?_
  refine op_assign (nxlf rfl) rfl rfl ?_
  refine op_assign (nxlf rfl) rfl rfl ?_
  refine At.opsNil ?_
  refine At.norm (hk_2 ?_)
  refine At.seq fun K3 hk_3 => ?_
  refine At.seq fun K4 hk_4 => ?_
  refine At.region ?_
  refine op_move (nxlf rfl) rfl rfl ?_
  refine op_geq (nxlf rfl) rfl rfl rfl ?_
  refine At.opsNil ?_
  refine At.norm (hk_4 ?_)
  refine At.condP rfl (fun c11 => ?_) (fun c11 => ?_)
  · refine At.seq fun K5 hk_5 => ?_
    refine At.region ?_
    refine op_assign (nxlf rfl) rfl rfl ?_
    refine At.opsNil ?_
    refine At.norm (hk_5 ?_)
    refine At.seq fun K6 hk_6 => ?_
    refine At.drawnS [N4, R] [] [] [0,1,2,3] (by kernel_rfl) (by kernel_rfl) (.refl _) ?_
    refine op_fieldAddr (nxsf rfl rfl rfl) fl33_2 rfl rfl ?_
    refine op_loadAggB (ds := u8s h.om) (nxsf rfl rfl rfl) ag23 rfl B4 (Hd.oms hk) (len8s hk.om) (by first | exact mem0 | exact mem1) rfl ?_
    refine op_callA (Nx.agree (nxsm rfl rfl rfl)) .nil (FNone_f) Try.func56 rfl rfl (by simp) rfl ?_
    rintro v14 L14 ⟨rfl, rfl⟩
    change At _ _ _ [N4, R] _
    refine At.moreS (Lst := [N4, R]) (Lst' := [N4, R]) (.refl _) (.refl _) ?_
    refine op_neW8 (a := h.om) (b := kz) (nxsf rfl rfl rfl) ae23 Try.underlying5 (by kernel_rfl) rfl rfl hk.om kz_len rfl ?_
    refine At.sNil ?_
    refine At.norm (hk_6 ?_)
    refine At.condP rfl (fun c15 => ?_) (fun c15 => ?_)
    · exact absurd (by assumption) hb
    · refine At.skip ?_
      refine At.norm (hk_3 ?_)
      refine At.seq fun K7 hk_7 => ?_
      refine At.seq fun K8 hk_8 => ?_
      refine At.region ?_
      refine op_move (nxlf rfl) rfl rfl ?_
      refine op_move (nxlf rfl) rfl rfl ?_
      refine op_quoU (a := t) (b := 9) (nxlf rfl) rfl rfl (by decide) rfl ?_
      refine op_move (nxlf rfl) rfl rfl ?_
      refine op_leq (nxlf rfl) rfl rfl rfl ?_
      refine At.opsNil ?_
      refine At.norm (hk_8 ?_)
      refine At.condP rfl (fun c20 => ?_) (fun c20 => ?_)
      · refine At.seq fun K9 hk_9 => ?_
        refine At.region ?_
        refine op_move (nxlf rfl) rfl rfl ?_
        refine op_move (nxlf rfl) rfl rfl ?_
        refine op_move (nxlf rfl) rfl rfl ?_
        refine op_quoU (a := t) (b := 9) (nxlf rfl) rfl rfl (by decide) rfl ?_
        refine op_subU (a := 1) (b := t / 9) (nxlf rfl) rfl rfl rfl ?_
        refine op_assign (nxlf rfl) rfl rfl ?_
        refine op_assign (nxlf rfl) rfl rfl ?_
        refine At.opsNil ?_
        refine At.norm (hk_9 ?_)
        refine At.ret (At.thenRet (?_))
        refine At.sub (L' := [R]) (.cons _ (.cons_cons _ (.slnil))) ?_
        refine At.retN (L1 := []) rfl (.tmp rfl (.tmp rfl .nil)) rfl (.refl _) (.refl _) ?_
        have hle : t.toNat / 9 ≤ 1 := by omega
        exact ⟨1 - t / 9, by rw [stepN_up hle]; rfl, rfl, by rw [stepN_up hle, sub_nat (by omega), hq]; rfl⟩
      · refine At.skip ?_
        refine At.norm (hk_7 ?_)
        refine At.seq fun K10 hk_10 => ?_
        refine At.region ?_
        refine op_move (nxlf rfl) rfl rfl ?_
        refine op_move (nxlf rfl) rfl rfl ?_
        refine op_quoU (a := t) (b := 9) (nxlf rfl) rfl rfl (by decide) rfl ?_
        refine op_move (nxlf rfl) rfl rfl ?_
        refine op_subU (a := t / 9) (b := 1) (nxlf rfl) rfl rfl rfl ?_
        refine op_minU (a := t / 9 - 1) (b := 99) (nxlf rfl) rfl rfl rfl ?_
        refine op_assign (nxlf rfl) rfl rfl ?_
        refine op_assign (nxlf rfl) rfl rfl ?_
        refine At.opsNil ?_
        refine At.norm (hk_10 ?_)
        refine At.ret (?_)
        refine At.sub (L' := [R]) (.cons _ (.cons_cons _ (.slnil))) ?_
        refine At.retN (L1 := []) rfl (.tmp rfl (.tmp rfl .nil)) rfl (.refl _) (.refl _) ?_
        have hle : ¬ t.toNat / 9 ≤ 1 := by omega
        exact ⟨minU (t / 9 - 1) 99, by rw [stepN_dn hle]; rfl, rfl, by rw [stepN_dn hle, minU_nat, sub_nat (by omega), hq]; rfl⟩
  · exfalso; omega
set_option maxRecDepth 100000 in
set_option maxHeartbeats 1000000 in
theorem FSteps_2 (hk : h.Ok) {f : Nat} (hf : ¬ f < 4) (hb : h.om ≠ kz) (t : UInt64) : Fn Try.prog 24 #[.int .i64 (f : Int), .agg (h.cells ao n cap).toArray, .int .u64 (t.toNat : Int)] [] [] (DirP (stepN 2 (t.toNat / 9))) := by
  have hq : (t / 9).toNat = t.toNat / 9 := by rw [UInt64.toNat_div]; rfl
  have e1 : (2 : UInt64).toNat = 2 := rfl
  have e99 : (99 : UInt64).toNat = 99 := rfl
  refine Fn.enter (vs := [.int .i64 (f : Int), .agg (h.cells ao n cap).toArray, .int .u64 (t.toNat : Int)]) Try.func24 rfl rfl rfl ?_
  intro E R hR
  change At _ _ E [R] _
  refine At.seq fun K1 hk_1 => ?_
  refine At.region ?_
  refine op_box (nxla rfl) rfl rfl rfl (fun N4 b4 B4 => ?_)
  change Blk N4 b4 _ (h.cells ao n cap) at B4
  refine op_assign (nxlf rfl) rfl rfl ?_
  refine op_assign (nxlf rfl) rfl rfl ?_
  refine At.opsNil ?_
  refine At.norm (hk_1 ?_)
  refine At.seq fun K2 hk_2 => ?_
  refine At.region ?_
  refine op_assign (nxlf rfl) rfl rfl ?_
  refine op_assign (nxlf rfl) rfl rfl ?_
  refine At.opsNil ?_
  refine At.norm (hk_2 ?_)
  refine At.seq fun K3 hk_3 => ?_
  refine At.seq fun K4 hk_4 => ?_
  refine At.region ?_
  refine op_move (nxlf rfl) rfl rfl ?_
  refine op_geq (nxlf rfl) rfl rfl rfl ?_
  refine At.opsNil ?_
  refine At.norm (hk_4 ?_)
  refine At.condP rfl (fun c11 => ?_) (fun c11 => ?_)
  · refine At.seq fun K5 hk_5 => ?_
    refine At.region ?_
    refine op_assign (nxlf rfl) rfl rfl ?_
    refine At.opsNil ?_
    refine At.norm (hk_5 ?_)
    refine At.seq fun K6 hk_6 => ?_
    refine At.drawnS [N4, R] [] [] [0,1,2,3] (by kernel_rfl) (by kernel_rfl) (.refl _) ?_
    refine op_fieldAddr (nxsf rfl rfl rfl) fl33_2 rfl rfl ?_
    refine op_loadAggB (ds := u8s h.om) (nxsf rfl rfl rfl) ag23 rfl B4 (Hd.oms hk) (len8s hk.om) (by first | exact mem0 | exact mem1) rfl ?_
    refine op_callA (Nx.agree (nxsm rfl rfl rfl)) .nil (FNone_f) Try.func56 rfl rfl (by simp) rfl ?_
    rintro v14 L14 ⟨rfl, rfl⟩
    change At _ _ _ [N4, R] _
    refine At.moreS (Lst := [N4, R]) (Lst' := [N4, R]) (.refl _) (.refl _) ?_
    refine op_neW8 (a := h.om) (b := kz) (nxsf rfl rfl rfl) ae23 Try.underlying5 (by kernel_rfl) rfl rfl hk.om kz_len rfl ?_
    refine At.sNil ?_
    refine At.norm (hk_6 ?_)
    refine At.condP rfl (fun c15 => ?_) (fun c15 => ?_)
    · refine At.region ?_
      refine op_assign (nxlf rfl) rfl rfl ?_
      refine At.opsNil ?_
      refine At.norm (hk_3 ?_)
      refine At.seq fun K7 hk_7 => ?_
      refine At.seq fun K8 hk_8 => ?_
      refine At.region ?_
      refine op_move (nxlf rfl) rfl rfl ?_
      refine op_move (nxlf rfl) rfl rfl ?_
      refine op_quoU (a := t) (b := 9) (nxlf rfl) rfl rfl (by decide) rfl ?_
      refine op_move (nxlf rfl) rfl rfl ?_
      refine op_leq (nxlf rfl) rfl rfl rfl ?_
      refine At.opsNil ?_
      refine At.norm (hk_8 ?_)
      refine At.condP rfl (fun c20 => ?_) (fun c20 => ?_)
      · refine At.seq fun K9 hk_9 => ?_
        refine At.region ?_
        refine op_move (nxlf rfl) rfl rfl ?_
        refine op_move (nxlf rfl) rfl rfl ?_
        refine op_move (nxlf rfl) rfl rfl ?_
        refine op_quoU (a := t) (b := 9) (nxlf rfl) rfl rfl (by decide) rfl ?_
        refine op_subU (a := 2) (b := t / 9) (nxlf rfl) rfl rfl rfl ?_
        refine op_assign (nxlf rfl) rfl rfl ?_
        refine op_assign (nxlf rfl) rfl rfl ?_
        refine At.opsNil ?_
        refine At.norm (hk_9 ?_)
        refine At.ret (At.thenRet (?_))
        refine At.sub (L' := [R]) (.cons _ (.cons_cons _ (.slnil))) ?_
        refine At.retN (L1 := []) rfl (.tmp rfl (.tmp rfl .nil)) rfl (.refl _) (.refl _) ?_
        have hle : t.toNat / 9 ≤ 2 := by omega
        exact ⟨2 - t / 9, by rw [stepN_up hle]; rfl, rfl, by rw [stepN_up hle, sub_nat (by omega), hq]; rfl⟩
      · refine At.skip ?_
        refine At.norm (hk_7 ?_)
        refine At.seq fun K10 hk_10 => ?_
        refine At.region ?_
        refine op_move (nxlf rfl) rfl rfl ?_
        refine op_move (nxlf rfl) rfl rfl ?_
        refine op_quoU (a := t) (b := 9) (nxlf rfl) rfl rfl (by decide) rfl ?_
        refine op_move (nxlf rfl) rfl rfl ?_
        refine op_subU (a := t / 9) (b := 2) (nxlf rfl) rfl rfl rfl ?_
        refine op_minU (a := t / 9 - 2) (b := 99) (nxlf rfl) rfl rfl rfl ?_
        refine op_assign (nxlf rfl) rfl rfl ?_
        refine op_assign (nxlf rfl) rfl rfl ?_
        refine At.opsNil ?_
        refine At.norm (hk_10 ?_)
        refine At.ret (?_)
        refine At.sub (L' := [R]) (.cons _ (.cons_cons _ (.slnil))) ?_
        refine At.retN (L1 := []) rfl (.tmp rfl (.tmp rfl .nil)) rfl (.refl _) (.refl _) ?_
        have hle : ¬ t.toNat / 9 ≤ 2 := by omega
        exact ⟨minU (t / 9 - 2) 99, by rw [stepN_dn hle]; rfl, rfl, by rw [stepN_dn hle, minU_nat, sub_nat (by omega), hq]; rfl⟩
    · exact absurd hb (by assumption)
  · exfalso; omega
theorem FSteps_f (hk : h.Ok) {f : Nat} (h0 : f ≠ 0) (t : UInt64) : Fn Try.prog 24 #[.int .i64 (f : Int), .agg (h.cells ao n cap).toArray, .int .u64 (t.toNat : Int)] [] [] (DirP (dirF f (decide (h.om ≠ kz)) t.toNat)) := by
  by_cases h4 : f < 4
  · rw [dirF_1 h0 h4]; exact FSteps_1 hk h4 t
  · by_cases hb : h.om ≠ kz
    · rw [decide_eq_true hb, dirF_2 h4 rfl]; exact FSteps_2 hk h4 hb t
    · rw [decide_eq_false hb, dirF_3 h4 Bool.false_ne_true]; exact FSteps_3 hk h4 hb t
end
end Go.Proofs.Ytbmlhdecnfplaaa
/- Package head: the bomb, the difficulty. No condition. -/
namespace Go.Proofs.Ytbmlhdecnfplaaa
set_option linter.unusedVariables false
set_option linter.unusedSimpArgs false
open Go Go.RowKit
theorem limb_first {p : Nat} (h0 : 0 < p) (h : p < 18446744073709551616) : 1 ≤ (limbsOf p).length ∧ ((limbsOf p).getD 0 0).toNat = p := by
  have hl : (limbsOf p).length ≤ 1 := limbs_le (k := 64) h
  have hp : (limbsOf p).length ≠ 0 := fun e => by have := limbs_nil.1 e; omega
  obtain ⟨x, hx⟩ : ∃ x, limbsOf p = [x] := by
    match e : limbsOf p with
    | [] => rw [e] at hp; exact absurd rfl hp
    | [x] => exact ⟨x, rfl⟩
    | x :: y :: t => rw [e] at hl; simp at hl
  have hv := v64_limbsOf p
  rw [hx, v64_x1] at hv
  rw [hx]
  exact ⟨Nat.le_refl _, hv⟩
theorem u65_len {V : Nat} (h : V ≤ 18446744073709551616) : (limbsOf V).length ≤ 2 := Nat.le_trans (limbs_le (k := 65) (Nat.lt_of_le_of_lt h (by decide))) (by decide)
/-- What bomb answers: limbs, with zeros at their end or not. -/
def BombP (V : Nat) (v : Value) (L : List Heaplet) : Prop := ∃ M a n c l, v = .slice a n c ∧ L = [M] ∧ RSl M 1 a n c (u64s l) ∧ v64 l = V ∧ n ≤ 5
theorem bomb_nil {V : Nat} (h : V = 0) {E w : World} {R : Heaplet} : BombP V (.slice none 0 0) [nilH] := ⟨nilH, none, 0, 0, [], rfl, rfl, RSl.nil _ _, h.symm ▸ rfl, by decide⟩
set_option maxRecDepth 100000 in
set_option maxHeartbeats 1000000 in
theorem FBomb_f (de nu : UInt64) : Fn Try.prog 32 #[.int .u64 (de.toNat : Int), .int .u64 (nu.toNat : Int)] [] [] (BombP (bombF de.toNat nu.toNat)) := by
  have e1 : (1 : UInt64).toNat = 1 := rfl
  have e2 : (2 : UInt64).toNat = 2 := rfl
  have e5 : (100000 : UInt64).toNat = 100000 := rfl
  have e6 : (256 : UInt64).toNat = 256 := rfl
  have e64 : (64 : UInt64).toNat = 64 := rfl
  have hnu := nu.toNat_lt
  have l1 := u65_len (V := nu.toNat + 1) (by omega)
  have l2 := u65_len (V := nu.toNat + 1 - de.toNat) (by omega)
  have hpb : bombP de.toNat nu.toNat < 18446744073709551616 := by unfold bombP; omega
  refine Fn.enter (vs := [.int .u64 (de.toNat : Int), .int .u64 (nu.toNat : Int)]) Try.func32 rfl rfl rfl ?_
  intro E R hR
  change At _ _ E [R] _
  refine At.seq fun K1 hk_1 => ?_
  refine At.region ?_
  refine op_assign (nxlf rfl) rfl rfl ?_
  refine At.opsNil ?_
  refine At.norm (hk_1 ?_)
  refine At.seq fun K2 hk_2 => ?_
  refine At.region ?_
  refine op_move (nxlf rfl) rfl rfl ?_
  refine op_callA (nxla rfl) (.cons rfl .nil) (small_f nu) Try.func27 rfl rfl (by simp) rfl ?_
  rintro v10 L10 ⟨N10, p10, c10, rfl, rfl, s10⟩
  change At _ _ _ [N10, R] _
  refine op_callA (nxla rfl) (.cons rfl .nil) (small_f 1) Try.func27 rfl rfl (by simp) rfl ?_
  rintro v11 L11 ⟨N11, p11, c11, rfl, rfl, s11⟩
  change At _ _ _ [N11, N10, R] _
  refine op_callA (nxla rfl) (.cons rfl (.cons rfl .nil)) (Add_f s10 s11 (by omega) (by omega)) Try.func29 rfl rfl (by simp) rfl ?_
  rintro v12 L12 ⟨N12, p12, c12, rfl, rfl, s12⟩
  change At _ _ _ [N12, N11, N10, R] _
  rw [v64_x1, v64_x1, e1] at s12 ⊢
  refine op_assign (nxlf rfl) rfl rfl ?_
  refine At.opsNil ?_
  refine At.norm (hk_2 ?_)
  refine At.seq fun K3 hk_3 => ?_
  refine At.seq fun K4 hk_4 => ?_
  refine At.region ?_
  refine op_move (nxlf rfl) rfl rfl ?_
  refine op_move (nxlf rfl) rfl rfl ?_
  refine op_callA (nxla rfl) (.cons rfl .nil) (small_f de) Try.func27 rfl rfl (by simp) rfl ?_
  rintro v15 L15 ⟨N15, p15, c15, rfl, rfl, s15⟩
  change At _ _ _ [N15, N12, N11, N10, R] _
  refine op_callA (nxla rfl) (.cons rfl (.cons rfl .nil)) (Cmp_f s12 s15 (by omega) (by omega)) Try.func30 rfl rfl (by simp) rfl ?_
  rintro v16 L16 ⟨rfl, rfl⟩
  change At _ _ _ [N15, N12, N11, N10, R] _
  rw [v64_limbsOf, v64_x1]
  refine op_leq (nxlf rfl) rfl rfl rfl ?_
  refine At.opsNil ?_
  refine At.norm (hk_4 ?_)
  refine At.condP rfl (fun c17 => ?_) (fun c17 => ?_)
  · have hle : nu.toNat + 1 ≤ de.toNat := by
      unfold cmpN at c17
      split at c17
      · omega
      · split at c17 <;> omega
    refine At.seq fun K5 hk_5 => ?_
    refine At.region ?_
    refine op_assign (nxlf rfl) rfl rfl ?_
    refine At.opsNil ?_
    refine At.norm (hk_5 ?_)
    refine At.ret (At.thenRet (?_))
    refine At.empty ?_
    refine At.sub (L' := [nilH, R]) (.cons_cons _ (.cons _ (.cons _ (.cons _ (.cons _ (.cons_cons _ (.slnil))))))) ?_
    refine At.ret1 (L1 := [nilH]) rfl (.tmp rfl .nil) (.refl _) (.refl _) ?_
    exact ⟨nilH, none, 0, 0, [], rfl, rfl, RSl.nil _ _, by rw [bomb_0 hle]; rfl, by decide⟩
  · have hgt : de.toNat < nu.toNat + 1 := by
      unfold cmpN at c17
      split at c17
      · omega
      · split at c17 <;> omega
    refine At.skip ?_
    refine At.norm (hk_3 ?_)
    refine At.seq fun K6 hk_6 => ?_
    refine At.region ?_
    refine op_move (nxlf rfl) rfl rfl ?_
    refine op_move (nxlf rfl) rfl rfl ?_
    refine op_callA (nxla rfl) (.cons rfl .nil) (small_f de) Try.func27 rfl rfl (by simp) rfl ?_
    rintro v20 L20 ⟨N20, p20, c20, rfl, rfl, s20⟩
    change At _ _ _ [N20, N15, N12, N11, N10, R] _
    refine op_callA (nxla rfl) (.cons rfl (.cons rfl .nil)) (Sub_f s12 s20 (by omega) (by omega) (by rw [v64_limbsOf, v64_x1]; omega)) Try.func28 rfl rfl (by simp) rfl ?_
    rintro v21 L21 ⟨N21, p21, c21, rfl, rfl, s21⟩
    change At _ _ _ [N21, N20, N15, N12, N11, N10, R] _
    rw [v64_limbsOf, v64_x1] at s21 ⊢
    refine op_callA (nxla rfl) (.cons rfl (.cons rfl .nil)) (over_f s21 (by omega) 100000 (by decide)) Try.func26 rfl rfl (by simp) rfl ?_
    rintro v22 L22 ⟨N22, p22, c22, rfl, rfl, s22⟩
    change At _ _ _ [N22, N21, N20, N15, N12, N11, N10, R] _
    rw [v64_limbsOf, e5, show (nu.toNat + 1 - de.toNat) / 100000 = bombP de.toNat nu.toNat from rfl] at s22 ⊢
    refine op_callA (nxla rfl) (.cons rfl .nil) (Trim_f s22) Try.func44 rfl rfl (by simp) rfl ?_
    rintro v23 L23 ⟨rfl, rfl, t23, l23⟩
    change At _ _ _ [N22, N21, N20, N15, N12, N11, N10, R] _
    have s23 := s22.trimmed t23 l23
    rw [v64_limbsOf] at s23 ⊢
    have hl23 : (limbsOf (bombP de.toNat nu.toNat)).length ≤ 1 := limbs_le (k := 64) hpb
    refine op_assign (nxlf rfl) rfl rfl ?_
    refine At.opsNil ?_
    refine At.norm (hk_6 ?_)
    refine At.seq fun K7 hk_7 => ?_
    refine At.seq fun K8 hk_8 => ?_
    refine At.region ?_
    refine op_move (nxlf rfl) rfl rfl ?_
    refine op_callA (nxla rfl) (.cons rfl .nil) (small_f 2) Try.func27 rfl rfl (by simp) rfl ?_
    rintro v25 L25 ⟨N25, p25, c25, rfl, rfl, s25⟩
    change At _ _ _ [N25, N22, N21, N20, N15, N12, N11, N10, R] _
    refine op_callA (nxla rfl) (.cons rfl (.cons rfl .nil)) (Cmp_f s23 s25 (by omega) (by omega)) Try.func30 rfl rfl (by simp) rfl ?_
    rintro v26 L26 ⟨rfl, rfl⟩
    change At _ _ _ [N25, N22, N21, N20, N15, N12, N11, N10, R] _
    rw [v64_limbsOf, v64_x1, e2]
    refine op_lss (nxlf rfl) rfl rfl rfl ?_
    refine At.opsNil ?_
    refine At.norm (hk_8 ?_)
    refine At.condP rfl (fun c27 => ?_) (fun c27 => ?_)
    · have hle : bombP de.toNat nu.toNat < 2 := by
        unfold cmpN at c27
        split at c27
        · omega
        · split at c27 <;> omega
      refine At.seq fun K9 hk_9 => ?_
      refine At.region ?_
      refine op_assign (nxlf rfl) rfl rfl ?_
      refine At.opsNil ?_
      refine At.norm (hk_9 ?_)
      refine At.ret (At.thenRet (?_))
      refine At.empty ?_
      refine At.sub (L' := [nilH, R]) (.cons_cons _ (.cons _ (.cons _ (.cons _ (.cons _ (.cons _ (.cons _ (.cons _ (.cons _ (.cons_cons _ (.slnil))))))))))) ?_
      refine At.ret1 (L1 := [nilH]) rfl (.tmp rfl .nil) (.refl _) (.refl _) ?_
      exact ⟨nilH, none, 0, 0, [], rfl, rfl, RSl.nil _ _, by rw [bomb_1 hle]; rfl, by decide⟩
    · have hgt : ¬ bombP de.toNat nu.toNat < 2 := by
        unfold cmpN at c27
        split at c27
        · omega
        · split at c27 <;> omega
      obtain ⟨hf1, hf2⟩ := limb_first (by omega) hpb
      obtain ⟨x, hx⟩ : ∃ x, (limbsOf (bombP de.toNat nu.toNat)).getD 0 0 = x := ⟨_, rfl⟩
      rw [hx] at hf2
      have hx2 : (x - 2).toNat = bombP de.toNat nu.toNat - 2 := by rw [sub_nat (by omega), hf2, e2]
      obtain ⟨w, hw⟩ : ∃ w, minU (x - 2) 256 = w := ⟨_, rfl⟩
      have hwn : w.toNat = min (bombP de.toNat nu.toNat - 2) 256 := by rw [← hw, minU_nat, hx2, e6]
      have hw1 : (w / 64).toNat = w.toNat / 64 := by rw [UInt64.toNat_div]; rfl
      have hw2 : (w % 64).toNat = w.toNat % 64 := by rw [UInt64.toNat_mod]; rfl
      have hlim := bomb_limbs ⟨w.toNat, by omega⟩
      simp only at hlim
      refine At.skip ?_
      refine At.norm (hk_7 ?_)
      refine At.seq fun K10 hk_10 => ?_
      refine At.region ?_
      refine op_move (nxlf rfl) rfl rfl ?_
      refine op_idx1 (nxlf rfl) se59 rfl rfl s23 (show _ = (((0 : Nat)) : Int) from by omega) (by omega) rfl ?_
      refine op_loadE (nxlf rfl) sc27 rfl s23 (by first | exact get8 (by omega) | exact get64 (by omega) | exact get32 (by omega)) (by first | exact mem0 | exact mem1 | exact mem2 | exact mem3 | exact mem4 | exact mem5 | exact mem6 | exact mem7 | exact mem8 | exact mem9) rfl ?_
      rw [hx]
      refine op_subU (b := 2) (nxlf rfl) rfl rfl rfl ?_
      refine op_minU (a := x - 2) (b := 256) (nxlf rfl) rfl rfl rfl ?_
      rw [hw]
      refine op_assign (nxlf rfl) rfl rfl ?_
      refine At.opsNil ?_
      refine At.norm (hk_10 ?_)
      refine At.seq fun K11 hk_11 => ?_
      refine At.region ?_
      refine op_make (nxla rfl) Try.underlying59 te27 rfl rfl (show _ = (((5 : Nat)) : Int) from by omega) (show _ = (((5 : Nat)) : Int) from by omega) (by omega) (by unfold maxLen; omega) rfl (fun N33 a33 r33 => ?_)
      rw [made_one _ _ rfl, zero_u64s] at r33
      have s33 := r33.rsl
      refine op_assign (nxlf rfl) rfl rfl ?_
      refine At.opsNil ?_
      refine At.norm (hk_11 ?_)
      refine At.seq fun K12 hk_12 => ?_
      refine At.region ?_
      refine op_move (nxlf rfl) rfl rfl ?_
      refine op_move (nxlf rfl) rfl rfl ?_
      refine op_quoU (b := 64) (nxlf rfl) rfl rfl (by first | omega | decide) rfl ?_
      refine op_move (nxlf rfl) rfl rfl ?_
      refine op_remU (b := 64) (nxlf rfl) rfl rfl (by first | omega | decide) rfl ?_
      refine op_shlU (a := 1) (nxlf rfl) rfl rfl (show _ = ((((w % 64).toNat : Nat)) : Int) from by omega) rfl ?_
      refine op_idx1 (nxlf rfl) se59 rfl rfl s33 (show _ = ((((w / 64).toNat : Nat)) : Int) from by omega) (by omega) rfl ?_
      refine op_storeE (nxl rfl) sz27 rfl rfl rfl rfl rfl r33 (by simp [u64s]; omega) (by simp) sel0 (fun N33 r33 => ?_)
      simp only [setL] at r33
      rw [set_u64s, hw1, hw2] at r33
      have s33 := r33.rsl
      refine At.opsNil ?_
      refine At.norm (hk_12 ?_)
      refine At.seq fun K13 hk_13 => ?_
      refine At.region ?_
      refine op_move (nxlf rfl) rfl rfl ?_
      refine op_assign (nxlf rfl) rfl rfl ?_
      refine At.opsNil ?_
      refine At.norm (hk_13 ?_)
      refine At.ret (?_)
      refine At.sub (L' := [N33, R]) (.cons_cons _ (.cons _ (.cons _ (.cons _ (.cons _ (.cons _ (.cons _ (.cons _ (.cons _ (.cons_cons _ (.slnil))))))))))) ?_
      refine At.ret1 (L1 := [N33]) rfl (.tmp rfl .nil) (.refl _) (.refl _) ?_
      exact ⟨N33, a33, 5, 5, _, rfl, rfl, r33.rsl, by rw [hlim, bomb_2 hgt, hwn], by decide⟩
end Go.Proofs.Ytbmlhdecnfplaaa
/- Package head: the difficulty behind any parent. No condition. -/
namespace Go.Proofs.Ytbmlhdecnfplaaa
set_option linter.unusedVariables false
set_option linter.unusedSimpArgs false
open Go Go.RowKit
/-- A difficulty, and whether there is one. -/
def hardV (f : Int) (de nu d : Nat) (b : Bool) (ti tm : Nat) : Nat × Bool := if 0 ≤ f ∧ f ≤ 12 ∧ ti < tm then (fitV (hardX f.toNat de nu d b (tm - ti)), decide (hardX f.toNat de nu d b (tm - ti) < WW)) else (0, false)
theorem hardV_n {f : Int} {de nu d : Nat} {b : Bool} {ti tm : Nat} (h : f < 0 ∨ 12 < f ∨ tm ≤ ti) : hardV f de nu d b ti tm = (0, false) := if_neg (by omega)
theorem hardV_y {f : Nat} {de nu d : Nat} {b : Bool} {ti tm : Nat} (h : f ≤ 12) (ht : ti < tm) : hardV (f : Int) de nu d b ti tm = (fitV (hardX f de nu d b (tm - ti)), decide (hardX f de nu d b (tm - ti) < WW)) := if_pos ⟨by omega, by omega, ht⟩
theorem mB_eq {f : Nat} (h : f ≤ 12) : ∃ z : UInt64, z.toNat = mBomb (f : Int) := by
  have := mB_lt ⟨f, by omega⟩
  exact ⟨UInt64.ofNat (mBomb (f : Int)), by rw [UInt64.toNat_ofNat']; exact Nat.mod_eq_of_lt this⟩
theorem FOf_x (f : Int) (h0 : 0 ≤ f) (h1 : f ≤ 15) : ∃ xs : List Value, xs.length = 26 ∧ xs.all (·.oneCell') = true ∧ xs[0 + 25]? = some (.int .u64 (mBomb f : Int)) ∧ Fn Try.prog 23 #[.int .i64 f] [] [] (fun v L => v = .tuple #[.agg xs.toArray, .int .i64 0] ∧ L = []) := ⟨rulesL f, rfl, rfl, rfl, FOf_f f h0 h1⟩
theorem FOf_z (f : Int) (h : f < 0 ∨ 15 < f) : ∃ xs : List Value, xs.length = 26 ∧ xs.all (·.oneCell') = true ∧ Fn Try.prog 23 #[.int .i64 f] [] [] (fun v L => v = .tuple #[.agg xs.toArray, .int .i64 1] ∧ L = []) := ⟨zeroL, rfl, rfl, FOf_no f h⟩
theorem rOf_x (f : Int) (h0 : 0 ≤ f) (h1 : f ≤ 15) : ∃ xs : List Value, xs.length = 26 ∧ xs.all (·.oneCell') = true ∧ xs[0 + 25]? = some (.int .u64 (mBomb f : Int)) ∧ Fn Try.prog 37 #[.int .i64 f] [] [] (fun v L => v = .tuple #[.agg xs.toArray, .bool true] ∧ L = []) := ⟨rulesL f, rfl, rfl, rfl, rOf_f f h0 h1⟩
section
variable {h : Hd} {ao : Option Addr} {n cap : Nat}
set_option maxRecDepth 100000 in
theorem FDiff_a (hk : h.Ok) {f : Int} (hf : f < 0 ∨ 15 < f) (tm : UInt64) : Fn Try.prog 6 #[.int .i64 f, .agg (h.cells ao n cap).toArray, .int .u64 (tm.toNat : Int)] [] [] (fun v L => v = .tuple #[wo 0, .bool false] ∧ L = []) := by
  obtain ⟨xs, hxl, hxo, hOf⟩ := FOf_z f hf
  refine Fn.enter (vs := [.int .i64 f, .agg (h.cells ao n cap).toArray, .int .u64 (tm.toNat : Int)]) Try.func6 rfl rfl rfl ?_
  intro E R hR
  change At _ _ E [R] _
  refine At.seq fun K1 hk_1 => ?_
  refine At.region ?_
  refine op_box (nxla rfl) rfl rfl rfl (fun N4 b4 B4 => ?_)
  refine op_alloc (nxla rfl) ze29 rfl (fun N6 b6 B6 => ?_)
  change Blk N6 b6 _ [.int .u64 0, .int .u64 0, .int .u64 0, .int .u64 0] at B6
  change Blk N4 b4 _ (h.cells ao n cap) at B4
  refine op_assign (nxlf rfl) rfl rfl ?_
  refine At.opsNil ?_
  refine At.norm (hk_1 ?_)
  refine At.seq fun K2 hk_2 => ?_
  refine At.region ?_
  refine op_move (nxlf rfl) rfl rfl ?_
  refine op_callA (nxla rfl) (.cons rfl .nil) (hOf) Try.func23 rfl rfl (by simp) rfl ?_
  rintro v17 L17 ⟨rfl, rfl⟩
  change At _ _ _ [N6, N4, R] _
  refine op_move (nxlf rfl) rfl rfl ?_
  refine op_extract (nxlf rfl) rfl rfl rfl ?_
  refine op_extract (nxlf rfl) rfl rfl rfl ?_
  refine op_alloc (nxla rfl) ze53 rfl (fun N8 b8 B8 => ?_)
  change Blk N8 b8 _ [.int .i64 0, .int .u64 0, .int .u64 0, .int .u64 0, .int .u64 0, .int .u64 0, .int .u64 0, .int .u64 0, .int .i64 0, .int .i64 0, .int .u64 0, .int .u64 0, .int .u64 0, .int .u64 0, .int .u64 0, .int .u64 0, .int .u64 0, .int .u64 0, .int .u64 0, .int .u64 0, .int .u64 0, .int .u64 0, .int .u64 0, .int .u64 0, .int .u64 0, .int .u64 0] at B8
  refine op_store (nxl rfl) sz53 rfl rfl (cells_agg _) hxl hxo B8 (by rw [hxl]; decide) sel0 (fun N8 B8 => ?_)
  rw [setL_whole (by rw [hxl]; rfl)] at B8
  refine op_assign (nxlf rfl) rfl rfl ?_
  refine At.opsNil ?_
  refine At.norm (hk_2 ?_)
  refine At.seq fun K3 hk_3 => ?_
  refine At.seq fun K4 hk_4 => ?_
  refine At.region ?_
  refine op_move (nxlf rfl) rfl rfl ?_
  refine op_neq (nxlf rfl) rfl rfl rfl ?_
  refine op_move (nxlf rfl) rfl rfl ?_
  refine op_skip rfl rfl rfl rfl rfl rfl rfl ?_
  refine op_skip rfl rfl rfl rfl rfl rfl rfl ?_
  refine op_pickT (nxlf rfl) rfl rfl rfl ?_
  refine op_move (nxlf rfl) rfl rfl ?_
  refine op_skip rfl rfl rfl rfl rfl rfl rfl ?_
  refine op_skip rfl rfl rfl rfl rfl rfl rfl ?_
  refine op_skip rfl rfl rfl rfl rfl rfl rfl ?_
  refine op_skip rfl rfl rfl rfl rfl rfl rfl ?_
  refine op_pickT (nxlf rfl) rfl rfl rfl ?_
  refine At.opsNil ?_
  refine At.norm (hk_4 ?_)
  refine At.condT rfl ?_
  refine At.seq fun K5 hk_5 => ?_
  refine At.region ?_
  refine op_buildA (out := [.int .u64 0, .int .u64 0, .int .u64 0, .int .u64 0]) (nxlf rfl) ze29 ae29 .nil rfl rfl ?_
  refine op_store (nxl rfl) sz29 rfl rfl rfl rfl rfl B6 (by simp) sel1 (fun N6 B6 => ?_)
  simp only [setL, List.set] at B6
  refine op_assign (nxlf rfl) rfl rfl ?_
  refine At.opsNil ?_
  refine At.norm (hk_5 ?_)
  refine At.ret (At.thenRet (?_))
  refine At.sub (L' := [N6, R]) (.cons_cons _ (.cons _ (.cons _ (.cons_cons _ (.slnil))))) ?_
  refine At.retN (L1 := []) rfl (.cell rfl (res_agg (ds := [_, _, _, _]) ag29 B6 rfl rfl mem0) (.tmp rfl .nil)) rfl (.cons _ (.refl _)) (.refl _) ?_
  exact ⟨by rw [wo_zero], rfl⟩
set_option maxRecDepth 100000 in
set_option maxHeartbeats 1000000 in
theorem FDiff_b (hk : h.Ok) {f : Int} (h0 : 0 ≤ f) (h1 : f ≤ 15) (tm : UInt64) (hb : 12 < f ∨ tm.toNat ≤ h.ti.toNat) : Fn Try.prog 6 #[.int .i64 f, .agg (h.cells ao n cap).toArray, .int .u64 (tm.toNat : Int)] [] [] (fun v L => v = .tuple #[wo 0, .bool false] ∧ L = []) := by
  obtain ⟨xs, hxl, hxo, hx25, hOf⟩ := FOf_x f h0 h1
  refine Fn.enter (vs := [.int .i64 f, .agg (h.cells ao n cap).toArray, .int .u64 (tm.toNat : Int)]) Try.func6 rfl rfl rfl ?_
  intro E R hR
  change At _ _ E [R] _
  refine At.seq fun K1 hk_1 => ?_
  refine At.region ?_
  refine op_box (nxla rfl) rfl rfl rfl (fun N4 b4 B4 => ?_)
  refine op_alloc (nxla rfl) ze29 rfl (fun N6 b6 B6 => ?_)
  change Blk N6 b6 _ [.int .u64 0, .int .u64 0, .int .u64 0, .int .u64 0] at B6
  change Blk N4 b4 _ (h.cells ao n cap) at B4
  refine op_assign (nxlf rfl) rfl rfl ?_
  refine At.opsNil ?_
  refine At.norm (hk_1 ?_)
  refine At.seq fun K2 hk_2 => ?_
  refine At.region ?_
  refine op_move (nxlf rfl) rfl rfl ?_
  refine op_callA (nxla rfl) (.cons rfl .nil) (hOf) Try.func23 rfl rfl (by simp) rfl ?_
  rintro v17 L17 ⟨rfl, rfl⟩
  change At _ _ _ [N6, N4, R] _
  refine op_move (nxlf rfl) rfl rfl ?_
  refine op_extract (nxlf rfl) rfl rfl rfl ?_
  refine op_extract (nxlf rfl) rfl rfl rfl ?_
  refine op_alloc (nxla rfl) ze53 rfl (fun N8 b8 B8 => ?_)
  change Blk N8 b8 _ [.int .i64 0, .int .u64 0, .int .u64 0, .int .u64 0, .int .u64 0, .int .u64 0, .int .u64 0, .int .u64 0, .int .i64 0, .int .i64 0, .int .u64 0, .int .u64 0, .int .u64 0, .int .u64 0, .int .u64 0, .int .u64 0, .int .u64 0, .int .u64 0, .int .u64 0, .int .u64 0, .int .u64 0, .int .u64 0, .int .u64 0, .int .u64 0, .int .u64 0, .int .u64 0] at B8
  refine op_store (nxl rfl) sz53 rfl rfl (cells_agg _) hxl hxo B8 (by rw [hxl]; decide) sel0 (fun N8 B8 => ?_)
  rw [setL_whole (by rw [hxl]; rfl)] at B8
  refine op_assign (nxlf rfl) rfl rfl ?_
  refine At.opsNil ?_
  refine At.norm (hk_2 ?_)
  refine At.seq fun K3 hk_3 => ?_
  refine At.seq fun K4 hk_4 => ?_
  refine At.region ?_
  refine op_move (nxlf rfl) rfl rfl ?_
  refine op_neq (nxlf rfl) rfl rfl rfl ?_
  refine op_move (nxlf rfl) rfl rfl ?_
  refine op_move (nxgf rfl rfl rfl rfl) rfl rfl ?_
  refine op_geq (nxgf rfl rfl rfl rfl) rfl rfl rfl ?_
  refine op_pickF (nxlf rfl) rfl rfl rfl ?_
  refine op_move (nxlf rfl) rfl rfl ?_
  refine At.partP (d := 26) rfl (fun g26 => ?_) (fun g26 => ?_)
  · refine op_skip rfl rfl rfl rfl rfl rfl rfl ?_
    refine op_skip rfl rfl rfl rfl rfl rfl rfl ?_
    refine op_skip rfl rfl rfl rfl rfl rfl rfl ?_
    refine op_skip rfl rfl rfl rfl rfl rfl rfl ?_
    refine op_pickT (nxlf rfl) rfl rfl rfl ?_
    refine At.opsNil ?_
    refine At.norm (hk_4 ?_)
    refine At.condT rfl ?_
    refine At.seq fun K5 hk_5 => ?_
    refine At.region ?_
    refine op_buildA (out := [.int .u64 0, .int .u64 0, .int .u64 0, .int .u64 0]) (nxlf rfl) ze29 ae29 .nil rfl rfl ?_
    refine op_store (nxl rfl) sz29 rfl rfl rfl rfl rfl B6 (by simp) sel1 (fun N6 B6 => ?_)
    simp only [setL, List.set] at B6
    refine op_assign (nxlf rfl) rfl rfl ?_
    refine At.opsNil ?_
    refine At.norm (hk_5 ?_)
    refine At.ret (At.thenRet (?_))
    refine At.sub (L' := [N6, R]) (.cons_cons _ (.cons _ (.cons _ (.cons_cons _ (.slnil))))) ?_
    refine At.retN (L1 := []) rfl (.cell rfl (res_agg (ds := [_, _, _, _]) ag29 B6 rfl rfl mem0) (.tmp rfl .nil)) rfl (.cons _ (.refl _)) (.refl _) ?_
    exact ⟨by rw [wo_zero], rfl⟩
  · refine op_move (nxgf rfl rfl rfl rfl) rfl rfl ?_
    refine op_fieldAddr (nxgf rfl rfl rfl rfl) fl33_12 rfl rfl ?_
    refine op_loadB (nxgf rfl rfl rfl rfl) sc27 rfl B4 (by first | rfl | exact Hd.ti_at hk) mem2 rfl ?_
    refine op_leq (nxgf rfl rfl rfl rfl) rfl rfl rfl ?_
    refine op_pickF (nxlf rfl) rfl rfl rfl ?_
    refine At.opsNil ?_
    refine At.norm (hk_4 ?_)
    refine At.condP rfl (fun c31 => ?_) (fun c31 => ?_)
    · refine At.seq fun K6 hk_6 => ?_
      refine At.region ?_
      refine op_buildA (out := [.int .u64 0, .int .u64 0, .int .u64 0, .int .u64 0]) (nxlf rfl) ze29 ae29 .nil rfl rfl ?_
      refine op_store (nxl rfl) sz29 rfl rfl rfl rfl rfl B6 (by simp) sel1 (fun N6 B6 => ?_)
      simp only [setL, List.set] at B6
      refine op_assign (nxlf rfl) rfl rfl ?_
      refine At.opsNil ?_
      refine At.norm (hk_6 ?_)
      refine At.ret (At.thenRet (?_))
      refine At.sub (L' := [N6, R]) (.cons_cons _ (.cons _ (.cons _ (.cons_cons _ (.slnil))))) ?_
      refine At.retN (L1 := []) rfl (.cell rfl (res_agg (ds := [_, _, _, _]) ag29 B6 rfl rfl mem0) (.tmp rfl .nil)) rfl (.cons _ (.refl _)) (.refl _) ?_
      exact ⟨by rw [wo_zero], rfl⟩
    · exfalso; omega
set_option maxRecDepth 100000 in
set_option maxHeartbeats 4000000 in
theorem FDiff_c (hk : h.Ok) {f : Nat} (hf : f ≤ 12) (tm : UInt64) (ht : h.ti.toNat < tm.toNat) {V : Nat} (hV : V = hardX f (mBomb (f : Int)) h.nu.toNat h.df (decide (h.om ≠ kz)) (tm.toNat - h.ti.toNat)) : Fn Try.prog 6 #[.int .i64 (f : Int), .agg (h.cells ao n cap).toArray, .int .u64 (tm.toNat : Int)] [] [] (fun v L => v = .tuple #[wo (fitV V), .bool (decide (V < WW))] ∧ L = []) := by
  have hdf := hk.df
  have hvd := v64_wl_lt hdf
  obtain ⟨xs, hxl, hxo, hx25, hOf⟩ := FOf_x (f : Int) (by omega) (by omega)
  obtain ⟨zb, hzb⟩ := mB_eq hf
  have c24 : decide (13 ≤ (f : Int)) = false := decide_eq_false (by omega)
  have c30 : decide ((tm.toNat : Int) ≤ (h.ti.toNat : Int)) = false := decide_eq_false (by omega)
  obtain ⟨t, hts⟩ : ∃ t, tm - h.ti = t := ⟨_, rfl⟩
  have htn : t.toNat = tm.toNat - h.ti.toNat := by rw [← hts, sub_nat (by omega)]
  rw [← htn] at hV
  obtain ⟨s, hs⟩ : ∃ s, dirF f (decide (h.om ≠ kz)) t.toNat = s := ⟨_, rfl⟩
  have hs99 : s.1 ≤ 99 := by rw [← hs]; exact dirF_le ..
  rw [hardX, hs] at hV
  have e1 : (1 : UInt64).toNat = 1 := rfl
  have eH : (2048 : UInt64).toNat = 2048 := rfl
  have eL : (131072 : UInt64).toNat = 131072 := rfl
  have hpd := part_d (d := h.df) hs99
  have ld := word_len hdf
  have l1 : (limbsOf (h.df / 2048)).length ≤ 4 := word_len (Nat.lt_of_le_of_lt (Nat.div_le_self ..) hdf)
  have l2 : (limbsOf (h.df / 2048 * s.1)).length ≤ 4 := word_len (Nat.lt_of_le_of_lt hpd hdf)
  have lX : (limbsOf (difX h.df s)).length ≤ 5 := Nat.le_trans (limbs_mono (difX_le h.df hs99)) (limbs_add ld ld)
  have lL : (limbsOf 131072).length ≤ 1 := limbs_le (V := 131072) (k := 20) (by decide)
  have lB : (limbsOf (bombF (mBomb (f : Int)) h.nu.toNat)).length ≤ 5 := by
    unfold bombF
    split
    · rw [limbs_nil.2 rfl]; decide
    · refine Nat.le_trans (limbs_le (k := min (bombP (mBomb (f : Int)) h.nu.toNat - 2) 256 + 1) (Nat.pow_lt_pow_right (by decide) (by omega))) (by omega)
  have lD : (limbsOf (difD h.df s)).length ≤ 5 := by
    unfold difD; split <;> omega
  have lV : (limbsOf V).length ≤ 6 := by rw [hV]; exact limbs_add lD lB
  refine Fn.enter (vs := [.int .i64 (f : Int), .agg (h.cells ao n cap).toArray, .int .u64 (tm.toNat : Int)]) Try.func6 rfl rfl rfl ?_
  intro E R hR
  change At _ _ E [R] _
  refine At.seq fun K1 hk_1 => ?_
  refine At.region ?_
  refine op_box (nxla rfl) rfl rfl rfl (fun N4 b4 B4 => ?_)
  refine op_alloc (nxla rfl) ze29 rfl (fun N6 b6 B6 => ?_)
  change Blk N6 b6 _ [.int .u64 0, .int .u64 0, .int .u64 0, .int .u64 0] at B6
  change Blk N4 b4 _ (h.cells ao n cap) at B4
  refine op_assign (nxlf rfl) rfl rfl ?_
  refine At.opsNil ?_
  refine At.norm (hk_1 ?_)
  refine At.seq fun K2 hk_2 => ?_
  refine At.region ?_
  refine op_move (nxlf rfl) rfl rfl ?_
  refine op_callA (nxla rfl) (.cons rfl .nil) (hOf) Try.func23 rfl rfl (by simp) rfl ?_
  rintro v17 L17 ⟨rfl, rfl⟩
  change At _ _ _ [N6, N4, R] _
  refine op_move (nxlf rfl) rfl rfl ?_
  refine op_extract (nxlf rfl) rfl rfl rfl ?_
  refine op_extract (nxlf rfl) rfl rfl rfl ?_
  refine op_alloc (nxla rfl) ze53 rfl (fun N8 b8 B8 => ?_)
  change Blk N8 b8 _ [.int .i64 0, .int .u64 0, .int .u64 0, .int .u64 0, .int .u64 0, .int .u64 0, .int .u64 0, .int .u64 0, .int .i64 0, .int .i64 0, .int .u64 0, .int .u64 0, .int .u64 0, .int .u64 0, .int .u64 0, .int .u64 0, .int .u64 0, .int .u64 0, .int .u64 0, .int .u64 0, .int .u64 0, .int .u64 0, .int .u64 0, .int .u64 0, .int .u64 0, .int .u64 0] at B8
  refine op_store (nxl rfl) sz53 rfl rfl (cells_agg _) hxl hxo B8 (by rw [hxl]; decide) sel0 (fun N8 B8 => ?_)
  rw [setL_whole (by rw [hxl]; rfl)] at B8
  refine op_assign (nxlf rfl) rfl rfl ?_
  refine At.opsNil ?_
  refine At.norm (hk_2 ?_)
  refine At.seq fun K3 hk_3 => ?_
  refine At.seq fun K4 hk_4 => ?_
  refine At.region ?_
  refine op_move (nxlf rfl) rfl rfl ?_
  refine op_neq (nxlf rfl) rfl rfl rfl ?_
  refine op_move (nxlf rfl) rfl rfl ?_
  refine op_move (nxgf rfl rfl rfl rfl) rfl rfl ?_
  refine op_geq (nxgf rfl rfl rfl rfl) rfl rfl rfl ?_
  rw [c24]
  refine op_pickF (nxlf rfl) rfl rfl rfl ?_
  refine op_move (nxlf rfl) rfl rfl ?_
  refine op_move (nxgf rfl rfl rfl rfl) rfl rfl ?_
  refine op_fieldAddr (nxgf rfl rfl rfl rfl) fl33_12 rfl rfl ?_
  refine op_loadB (nxgf rfl rfl rfl rfl) sc27 rfl B4 (by first | rfl | exact Hd.ti_at hk | exact Hd.nu_at hk | exact hx25) mem2 rfl ?_
  refine op_leq (nxgf rfl rfl rfl rfl) rfl rfl rfl ?_
  rw [c30]
  refine op_pickF (nxlf rfl) rfl rfl rfl ?_
  refine At.opsNil ?_
  refine At.norm (hk_4 ?_)
  refine At.condF rfl ?_
  refine At.skip ?_
  refine At.norm (hk_3 ?_)
  refine At.seq fun K5 hk_5 => ?_
  refine At.region ?_
  refine op_move (nxlf rfl) rfl rfl ?_
  refine op_fieldAddr (nxlf rfl) fl33_12 rfl rfl ?_
  refine op_loadB (nxlf rfl) sc27 rfl B4 (by first | rfl | exact Hd.ti_at hk | exact Hd.nu_at hk | exact hx25) mem2 rfl ?_
  refine op_subU (nxlf rfl) rfl rfl rfl ?_
  rw [hts]
  refine op_assign (nxlf rfl) rfl rfl ?_
  refine op_assign (nxlf rfl) rfl rfl ?_
  refine op_assign (nxlf rfl) rfl rfl ?_
  refine At.opsNil ?_
  refine At.norm (hk_5 ?_)
  refine At.seq fun K6 hk_6 => ?_
  refine At.seq fun K7 hk_7 => ?_
  refine At.region ?_
  refine op_move (nxlf rfl) rfl rfl ?_
  refine op_eql (nxlf rfl) rfl rfl rfl ?_
  refine At.opsNil ?_
  refine At.norm (hk_7 ?_)
  refine At.condP rfl (fun c38 => ?_) (fun c38 => ?_)
  · have hs0 : s = (1, decide (13 ≤ t.toNat)) := by rw [← hs, show f = 0 by omega]; rfl
    let zz : UInt64 := 1
    have hz1 : zz.toNat = s.1 := by rw [hs0]; rfl
    refine At.region ?_
    refine op_move (nxlf rfl) rfl rfl ?_
    refine op_geq (nxlf rfl) rfl rfl rfl ?_
    refine op_assign (nxlf rfl) rfl rfl ?_
    refine At.opsNil ?_
    refine At.norm (hk_6 ?_)
    refine At.seq fun K8 hk_8 => ?_
    refine At.region ?_
    refine op_fieldAddr (nxlf rfl) fl33_8 rfl rfl ?_
    have sd := Hd.slice_df B4 hk
    refine op_sliceA (nxlf rfl) ae29 rfl .none .none .none (by omega) (by omega) (by omega) (by simp) rfl ?_
    refine op_assign (nxlf rfl) rfl rfl ?_
    refine At.opsNil ?_
    refine At.norm (hk_8 ?_)
    refine At.seq fun K9 hk_9 => ?_
    refine At.region ?_
    refine op_move (nxlf rfl) rfl rfl ?_
    refine op_callA (nxla rfl) (.cons rfl (.cons rfl .nil)) (over_f sd (by decide) 2048 (by decide)) Try.func26 rfl rfl (by simp) rfl ?_
    rintro v51 L51 ⟨N51, p51, c51, rfl, rfl, s51⟩
    change At _ _ _ [N51, N8, N6, N4, R] _
    rw [hvd, eH] at s51 ⊢
    refine op_move (nxlf rfl) rfl rfl ?_
    refine op_callA (nxla rfl) (.cons rfl .nil) (small_f zz) Try.func27 rfl rfl (by simp) rfl ?_
    rintro v53 L53 ⟨N53, p53, c53, rfl, rfl, s53⟩
    change At _ _ _ [N53, N51, N8, N6, N4, R] _
    refine op_callA (nxla rfl) (.cons rfl (.cons rfl .nil)) (Mul_f s51 s53 (by omega) (by omega)) Try.func25 rfl rfl (by simp) rfl ?_
    rintro v54 L54 ⟨N54, p54, c54, rfl, rfl, s54⟩
    change At _ _ _ [N54, N53, N51, N8, N6, N4, R] _
    rw [v64_limbsOf, v64_x1, hz1] at s54 ⊢
    refine op_assign (nxlf rfl) rfl rfl ?_
    refine At.opsNil ?_
    refine At.norm (hk_9 ?_)
    refine At.seq fun K10 hk_10 => ?_
    refine At.seq fun K11 hk_11 => ?_
    refine At.region ?_
    refine op_move (nxlf rfl) rfl rfl ?_
    refine At.opsNil ?_
    refine At.norm (hk_11 ?_)
    refine At.condP rfl (fun c55 => ?_) (fun c55 => ?_)
    · have hdn : s.2 = true := by first | assumption | (rw [hs0]; exact decide_eq_true (by omega))
      have hXs : difX h.df s = h.df - h.df / 2048 * s.1 := if_pos hdn
      refine At.region ?_
      refine op_move (nxlf rfl) rfl rfl ?_
      refine op_move (nxlf rfl) rfl rfl ?_
      refine op_callA (nxla rfl) (.cons rfl (.cons rfl .nil)) (Sub_f sd s54 (by decide) (by omega) (by rw [hvd, v64_limbsOf]; exact hpd)) Try.func28 rfl rfl (by simp) rfl ?_
      rintro v58 L58 ⟨N58, p58, c58, rfl, rfl, s58⟩
      change At _ _ _ [N58, N54, N53, N51, N8, N6, N4, R] _
      rw [hvd, v64_limbsOf, ← hXs] at s58 ⊢
      have sx := s58
      refine op_assign (nxlf rfl) rfl rfl ?_
      refine At.opsNil ?_
      refine At.norm (hk_10 ?_)
      refine At.seq fun K12 hk_12 => ?_
      refine At.seq fun K13 hk_13 => ?_
      refine At.region ?_
      refine op_move (nxlf rfl) rfl rfl ?_
      refine op_callA (nxla rfl) (.cons rfl .nil) (small_f 131072) Try.func27 rfl rfl (by simp) rfl ?_
      rintro v63 L63 ⟨N63, p63, c63, rfl, rfl, s63⟩
      change At _ _ _ [N63, N58, N54, N53, N51, N8, N6, N4, R] _
      refine op_callA (nxla rfl) (.cons rfl (.cons rfl .nil)) (Cmp_f sx s63 (by omega) (by omega)) Try.func30 rfl rfl (by simp) rfl ?_
      rintro v64 L64 ⟨rfl, rfl⟩
      change At _ _ _ [N63, N58, N54, N53, N51, N8, N6, N4, R] _
      rw [v64_limbsOf, v64_x1, eL]
      refine op_lss (nxlf rfl) rfl rfl rfl ?_
      refine At.opsNil ?_
      refine At.norm (hk_13 ?_)
      refine At.condP rfl (fun c65 => ?_) (fun c65 => ?_)
      · have hlt : difX h.df s < 131072 := by
          unfold cmpN at c65
          split at c65
          · omega
          · split at c65 <;> omega
        have hD : difD h.df s = 131072 := if_pos hlt
        refine At.region ?_
        refine op_callA (nxla rfl) (.cons rfl .nil) (small_f 131072) Try.func27 rfl rfl (by simp) rfl ?_
        rintro v66 L66 ⟨N66, p66, c66, rfl, rfl, s66⟩
        change At _ _ _ [N66, N63, N58, N54, N53, N51, N8, N6, N4, R] _
        have sy := s66
        have hy : v64 [131072] = difD h.df s := by rw [v64_x1, hD]; rfl
        refine op_assign (nxlf rfl) rfl rfl ?_
        refine At.opsNil ?_
        refine At.norm (hk_12 ?_)
        refine At.seq fun K14 hk_14 => ?_
        refine At.region ?_
        refine op_move (nxlf rfl) rfl rfl ?_
        refine op_fieldAddr (nxlf rfl) fl53_25 rfl rfl ?_
        refine op_loadB (nxlf rfl) sc27 rfl B8 (by first | rfl | exact Hd.ti_at hk | exact Hd.nu_at hk | exact hx25) mem6 rfl ?_
        rw [← hzb]
        refine op_fieldAddr (nxlf rfl) fl33_9 rfl rfl ?_
        refine op_loadB (nxlf rfl) sc27 rfl B4 (by first | rfl | exact Hd.ti_at hk | exact Hd.nu_at hk | exact hx25) mem8 rfl ?_
        refine op_callA (nxla rfl) (.cons rfl (.cons rfl .nil)) (FBomb_f zb h.nu) Try.func32 rfl rfl (by simp) rfl ?_
        rintro v72 L72 ⟨N72, p72, n72, c72, l72, rfl, rfl, s72, h72, k72⟩
        change At _ _ _ [N72, N66, N63, N58, N54, N53, N51, N8, N6, N4, R] _
        rw [hzb] at h72
        refine op_callA (nxla rfl) (.cons rfl (.cons rfl .nil)) (Add_f sy s72 (by omega) (by omega)) Try.func29 rfl rfl (by simp) rfl ?_
        rintro v73 L73 ⟨N73, p73, c73, rfl, rfl, s73⟩
        change At _ _ _ [N73, N72, N66, N63, N58, N54, N53, N51, N8, N6, N4, R] _
        rw [hy, h72, ← hV] at s73 ⊢
        refine op_callA (nxla rfl) (.cons rfl .nil) (fit_f s73 (by omega)) Try.func31 rfl rfl (by simp) rfl ?_
        rintro v74 L74 ⟨rfl, rfl⟩
        change At _ _ _ [N73, N72, N66, N63, N58, N54, N53, N51, N8, N6, N4, R] _
        rw [v64_limbsOf]
        refine op_extract (nxlf rfl) rfl rfl rfl ?_
        refine op_extract (nxlf rfl) rfl rfl rfl ?_
        refine op_store (nxl rfl) sz29 rfl rfl rfl rfl rfl B6 (by simp) sel9 (fun N6 B6 => ?_)
        rw [setL_whole (by simp)] at B6
        refine op_assign (nxlf rfl) rfl rfl ?_
        refine At.opsNil ?_
        refine At.norm (hk_14 ?_)
        refine At.ret (?_)
        refine At.sub (L' := [N6, R]) (.cons_cons _ (.cons _ (.cons _ (.cons _ (.cons _ (.cons _ (.cons _ (.cons _ (.cons _ (.cons _ (.cons _ (.cons_cons _ (.slnil))))))))))))) ?_
        refine At.retN (L1 := []) rfl (.cell rfl (res_agg (ds := u64s (wl (fitV V))) ag29 B6 (by first | (rw [List.drop_zero, List.take_of_length_le (by first | (simp; done) | (simp; omega))]; done) | rfl) (by first | (simp; done) | (simp; omega)) mem0) (.tmp rfl .nil)) rfl (.cons _ (.refl _)) (.refl _) ?_
        exact ⟨rfl, rfl⟩
      · have hge : ¬ difX h.df s < 131072 := by
          unfold cmpN at c65
          split at c65
          · omega
          · split at c65 <;> omega
        have hD : difD h.df s = difX h.df s := if_neg hge
        have sy := sx
        have hy : v64 (limbsOf (difX h.df s)) = difD h.df s := by rw [v64_limbsOf, hD]
        refine At.skip ?_
        refine At.norm (hk_12 ?_)
        refine At.seq fun K15 hk_15 => ?_
        refine At.region ?_
        refine op_move (nxlf rfl) rfl rfl ?_
        refine op_fieldAddr (nxlf rfl) fl53_25 rfl rfl ?_
        refine op_loadB (nxlf rfl) sc27 rfl B8 (by first | rfl | exact Hd.ti_at hk | exact Hd.nu_at hk | exact hx25) mem5 rfl ?_
        rw [← hzb]
        refine op_fieldAddr (nxlf rfl) fl33_9 rfl rfl ?_
        refine op_loadB (nxlf rfl) sc27 rfl B4 (by first | rfl | exact Hd.ti_at hk | exact Hd.nu_at hk | exact hx25) mem7 rfl ?_
        refine op_callA (nxla rfl) (.cons rfl (.cons rfl .nil)) (FBomb_f zb h.nu) Try.func32 rfl rfl (by simp) rfl ?_
        rintro v72 L72 ⟨N72, p72, n72, c72, l72, rfl, rfl, s72, h72, k72⟩
        change At _ _ _ [N72, N63, N58, N54, N53, N51, N8, N6, N4, R] _
        rw [hzb] at h72
        refine op_callA (nxla rfl) (.cons rfl (.cons rfl .nil)) (Add_f sy s72 (by omega) (by omega)) Try.func29 rfl rfl (by simp) rfl ?_
        rintro v73 L73 ⟨N73, p73, c73, rfl, rfl, s73⟩
        change At _ _ _ [N73, N72, N63, N58, N54, N53, N51, N8, N6, N4, R] _
        rw [hy, h72, ← hV] at s73 ⊢
        refine op_callA (nxla rfl) (.cons rfl .nil) (fit_f s73 (by omega)) Try.func31 rfl rfl (by simp) rfl ?_
        rintro v74 L74 ⟨rfl, rfl⟩
        change At _ _ _ [N73, N72, N63, N58, N54, N53, N51, N8, N6, N4, R] _
        rw [v64_limbsOf]
        refine op_extract (nxlf rfl) rfl rfl rfl ?_
        refine op_extract (nxlf rfl) rfl rfl rfl ?_
        refine op_store (nxl rfl) sz29 rfl rfl rfl rfl rfl B6 (by simp) sel8 (fun N6 B6 => ?_)
        rw [setL_whole (by simp)] at B6
        refine op_assign (nxlf rfl) rfl rfl ?_
        refine At.opsNil ?_
        refine At.norm (hk_15 ?_)
        refine At.ret (?_)
        refine At.sub (L' := [N6, R]) (.cons_cons _ (.cons _ (.cons _ (.cons _ (.cons _ (.cons _ (.cons _ (.cons _ (.cons _ (.cons _ (.cons_cons _ (.slnil)))))))))))) ?_
        refine At.retN (L1 := []) rfl (.cell rfl (res_agg (ds := u64s (wl (fitV V))) ag29 B6 (by first | (rw [List.drop_zero, List.take_of_length_le (by first | (simp; done) | (simp; omega))]; done) | rfl) (by first | (simp; done) | (simp; omega)) mem0) (.tmp rfl .nil)) rfl (.cons _ (.refl _)) (.refl _) ?_
        exact ⟨rfl, rfl⟩
    · have hdn : ¬ s.2 = true := by first | assumption | (rw [hs0]; exact fun e => absurd (of_decide_eq_true e) (by omega))
      have hXs : difX h.df s = h.df + h.df / 2048 * s.1 := if_neg hdn
      refine At.region ?_
      refine op_move (nxlf rfl) rfl rfl ?_
      refine op_move (nxlf rfl) rfl rfl ?_
      refine op_callA (nxla rfl) (.cons rfl (.cons rfl .nil)) (Add_f sd s54 (by decide) (by omega)) Try.func29 rfl rfl (by simp) rfl ?_
      rintro v61 L61 ⟨N61, p61, c61, rfl, rfl, s61⟩
      change At _ _ _ [N61, N54, N53, N51, N8, N6, N4, R] _
      rw [hvd, v64_limbsOf, ← hXs] at s61 ⊢
      have sx := s61
      refine op_assign (nxlf rfl) rfl rfl ?_
      refine At.opsNil ?_
      refine At.norm (hk_10 ?_)
      refine At.seq fun K16 hk_16 => ?_
      refine At.seq fun K17 hk_17 => ?_
      refine At.region ?_
      refine op_move (nxlf rfl) rfl rfl ?_
      refine op_callA (nxla rfl) (.cons rfl .nil) (small_f 131072) Try.func27 rfl rfl (by simp) rfl ?_
      rintro v63 L63 ⟨N63, p63, c63, rfl, rfl, s63⟩
      change At _ _ _ [N63, N61, N54, N53, N51, N8, N6, N4, R] _
      refine op_callA (nxla rfl) (.cons rfl (.cons rfl .nil)) (Cmp_f sx s63 (by omega) (by omega)) Try.func30 rfl rfl (by simp) rfl ?_
      rintro v64 L64 ⟨rfl, rfl⟩
      change At _ _ _ [N63, N61, N54, N53, N51, N8, N6, N4, R] _
      rw [v64_limbsOf, v64_x1, eL]
      refine op_lss (nxlf rfl) rfl rfl rfl ?_
      refine At.opsNil ?_
      refine At.norm (hk_17 ?_)
      refine At.condP rfl (fun c65 => ?_) (fun c65 => ?_)
      · have hlt : difX h.df s < 131072 := by
          unfold cmpN at c65
          split at c65
          · omega
          · split at c65 <;> omega
        have hD : difD h.df s = 131072 := if_pos hlt
        refine At.region ?_
        refine op_callA (nxla rfl) (.cons rfl .nil) (small_f 131072) Try.func27 rfl rfl (by simp) rfl ?_
        rintro v66 L66 ⟨N66, p66, c66, rfl, rfl, s66⟩
        change At _ _ _ [N66, N63, N61, N54, N53, N51, N8, N6, N4, R] _
        have sy := s66
        have hy : v64 [131072] = difD h.df s := by rw [v64_x1, hD]; rfl
        refine op_assign (nxlf rfl) rfl rfl ?_
        refine At.opsNil ?_
        refine At.norm (hk_16 ?_)
        refine At.seq fun K18 hk_18 => ?_
        refine At.region ?_
        refine op_move (nxlf rfl) rfl rfl ?_
        refine op_fieldAddr (nxlf rfl) fl53_25 rfl rfl ?_
        refine op_loadB (nxlf rfl) sc27 rfl B8 (by first | rfl | exact Hd.ti_at hk | exact Hd.nu_at hk | exact hx25) mem6 rfl ?_
        rw [← hzb]
        refine op_fieldAddr (nxlf rfl) fl33_9 rfl rfl ?_
        refine op_loadB (nxlf rfl) sc27 rfl B4 (by first | rfl | exact Hd.ti_at hk | exact Hd.nu_at hk | exact hx25) mem8 rfl ?_
        refine op_callA (nxla rfl) (.cons rfl (.cons rfl .nil)) (FBomb_f zb h.nu) Try.func32 rfl rfl (by simp) rfl ?_
        rintro v72 L72 ⟨N72, p72, n72, c72, l72, rfl, rfl, s72, h72, k72⟩
        change At _ _ _ [N72, N66, N63, N61, N54, N53, N51, N8, N6, N4, R] _
        rw [hzb] at h72
        refine op_callA (nxla rfl) (.cons rfl (.cons rfl .nil)) (Add_f sy s72 (by omega) (by omega)) Try.func29 rfl rfl (by simp) rfl ?_
        rintro v73 L73 ⟨N73, p73, c73, rfl, rfl, s73⟩
        change At _ _ _ [N73, N72, N66, N63, N61, N54, N53, N51, N8, N6, N4, R] _
        rw [hy, h72, ← hV] at s73 ⊢
        refine op_callA (nxla rfl) (.cons rfl .nil) (fit_f s73 (by omega)) Try.func31 rfl rfl (by simp) rfl ?_
        rintro v74 L74 ⟨rfl, rfl⟩
        change At _ _ _ [N73, N72, N66, N63, N61, N54, N53, N51, N8, N6, N4, R] _
        rw [v64_limbsOf]
        refine op_extract (nxlf rfl) rfl rfl rfl ?_
        refine op_extract (nxlf rfl) rfl rfl rfl ?_
        refine op_store (nxl rfl) sz29 rfl rfl rfl rfl rfl B6 (by simp) sel9 (fun N6 B6 => ?_)
        rw [setL_whole (by simp)] at B6
        refine op_assign (nxlf rfl) rfl rfl ?_
        refine At.opsNil ?_
        refine At.norm (hk_18 ?_)
        refine At.ret (?_)
        refine At.sub (L' := [N6, R]) (.cons_cons _ (.cons _ (.cons _ (.cons _ (.cons _ (.cons _ (.cons _ (.cons _ (.cons _ (.cons _ (.cons _ (.cons_cons _ (.slnil))))))))))))) ?_
        refine At.retN (L1 := []) rfl (.cell rfl (res_agg (ds := u64s (wl (fitV V))) ag29 B6 (by first | (rw [List.drop_zero, List.take_of_length_le (by first | (simp; done) | (simp; omega))]; done) | rfl) (by first | (simp; done) | (simp; omega)) mem0) (.tmp rfl .nil)) rfl (.cons _ (.refl _)) (.refl _) ?_
        exact ⟨rfl, rfl⟩
      · have hge : ¬ difX h.df s < 131072 := by
          unfold cmpN at c65
          split at c65
          · omega
          · split at c65 <;> omega
        have hD : difD h.df s = difX h.df s := if_neg hge
        have sy := sx
        have hy : v64 (limbsOf (difX h.df s)) = difD h.df s := by rw [v64_limbsOf, hD]
        refine At.skip ?_
        refine At.norm (hk_16 ?_)
        refine At.seq fun K19 hk_19 => ?_
        refine At.region ?_
        refine op_move (nxlf rfl) rfl rfl ?_
        refine op_fieldAddr (nxlf rfl) fl53_25 rfl rfl ?_
        refine op_loadB (nxlf rfl) sc27 rfl B8 (by first | rfl | exact Hd.ti_at hk | exact Hd.nu_at hk | exact hx25) mem5 rfl ?_
        rw [← hzb]
        refine op_fieldAddr (nxlf rfl) fl33_9 rfl rfl ?_
        refine op_loadB (nxlf rfl) sc27 rfl B4 (by first | rfl | exact Hd.ti_at hk | exact Hd.nu_at hk | exact hx25) mem7 rfl ?_
        refine op_callA (nxla rfl) (.cons rfl (.cons rfl .nil)) (FBomb_f zb h.nu) Try.func32 rfl rfl (by simp) rfl ?_
        rintro v72 L72 ⟨N72, p72, n72, c72, l72, rfl, rfl, s72, h72, k72⟩
        change At _ _ _ [N72, N63, N61, N54, N53, N51, N8, N6, N4, R] _
        rw [hzb] at h72
        refine op_callA (nxla rfl) (.cons rfl (.cons rfl .nil)) (Add_f sy s72 (by omega) (by omega)) Try.func29 rfl rfl (by simp) rfl ?_
        rintro v73 L73 ⟨N73, p73, c73, rfl, rfl, s73⟩
        change At _ _ _ [N73, N72, N63, N61, N54, N53, N51, N8, N6, N4, R] _
        rw [hy, h72, ← hV] at s73 ⊢
        refine op_callA (nxla rfl) (.cons rfl .nil) (fit_f s73 (by omega)) Try.func31 rfl rfl (by simp) rfl ?_
        rintro v74 L74 ⟨rfl, rfl⟩
        change At _ _ _ [N73, N72, N63, N61, N54, N53, N51, N8, N6, N4, R] _
        rw [v64_limbsOf]
        refine op_extract (nxlf rfl) rfl rfl rfl ?_
        refine op_extract (nxlf rfl) rfl rfl rfl ?_
        refine op_store (nxl rfl) sz29 rfl rfl rfl rfl rfl B6 (by simp) sel8 (fun N6 B6 => ?_)
        rw [setL_whole (by simp)] at B6
        refine op_assign (nxlf rfl) rfl rfl ?_
        refine At.opsNil ?_
        refine At.norm (hk_19 ?_)
        refine At.ret (?_)
        refine At.sub (L' := [N6, R]) (.cons_cons _ (.cons _ (.cons _ (.cons _ (.cons _ (.cons _ (.cons _ (.cons _ (.cons _ (.cons _ (.cons_cons _ (.slnil)))))))))))) ?_
        refine At.retN (L1 := []) rfl (.cell rfl (res_agg (ds := u64s (wl (fitV V))) ag29 B6 (by first | (rw [List.drop_zero, List.take_of_length_le (by first | (simp; done) | (simp; omega))]; done) | rfl) (by first | (simp; done) | (simp; omega)) mem0) (.tmp rfl .nil)) rfl (.cons _ (.refl _)) (.refl _) ?_
        exact ⟨rfl, rfl⟩
  · refine At.region ?_
    refine op_move (nxlf rfl) rfl rfl ?_
    refine op_loadAggB (ds := h.cells ao n cap) (nxlf rfl) ag33 rfl B4 (Hd.all hk) (Hd.len hk) (by first | exact mem0 | exact mem1 | exact mem2 | exact mem3) rfl ?_
    refine op_move (nxlf rfl) rfl rfl ?_
    refine op_callA (nxla rfl) (.cons rfl (.cons rfl (.cons rfl .nil))) (FSteps_f hk (f := f) (by omega) t) Try.func24 rfl rfl (by simp) rfl ?_
    rintro v45 L45 ⟨z, rfl, rfl, hz0⟩
    change At _ _ _ [N8, N6, N4, R] _
    rw [hs] at hz0 ⊢
    let zz : UInt64 := z
    have hz1 : zz.toNat = s.1 := hz0
    refine op_move (nxlf rfl) rfl rfl ?_
    refine op_extract (nxlf rfl) rfl rfl rfl ?_
    refine op_extract (nxlf rfl) rfl rfl rfl ?_
    refine op_assign (nxlf rfl) rfl rfl ?_
    refine op_assign (nxlf rfl) rfl rfl ?_
    refine At.opsNil ?_
    refine At.norm (hk_6 ?_)
    refine At.seq fun K20 hk_20 => ?_
    refine At.region ?_
    refine op_fieldAddr (nxlf rfl) fl33_8 rfl rfl ?_
    have sd := Hd.slice_df B4 hk
    refine op_sliceA (nxlf rfl) ae29 rfl .none .none .none (by omega) (by omega) (by omega) (by simp) rfl ?_
    refine op_assign (nxlf rfl) rfl rfl ?_
    refine At.opsNil ?_
    refine At.norm (hk_20 ?_)
    refine At.seq fun K21 hk_21 => ?_
    refine At.region ?_
    refine op_move (nxlf rfl) rfl rfl ?_
    refine op_callA (nxla rfl) (.cons rfl (.cons rfl .nil)) (over_f sd (by decide) 2048 (by decide)) Try.func26 rfl rfl (by simp) rfl ?_
    rintro v51 L51 ⟨N51, p51, c51, rfl, rfl, s51⟩
    change At _ _ _ [N51, N8, N6, N4, R] _
    rw [hvd, eH] at s51 ⊢
    refine op_move (nxlf rfl) rfl rfl ?_
    refine op_callA (nxla rfl) (.cons rfl .nil) (small_f zz) Try.func27 rfl rfl (by simp) rfl ?_
    rintro v53 L53 ⟨N53, p53, c53, rfl, rfl, s53⟩
    change At _ _ _ [N53, N51, N8, N6, N4, R] _
    refine op_callA (nxla rfl) (.cons rfl (.cons rfl .nil)) (Mul_f s51 s53 (by omega) (by omega)) Try.func25 rfl rfl (by simp) rfl ?_
    rintro v54 L54 ⟨N54, p54, c54, rfl, rfl, s54⟩
    change At _ _ _ [N54, N53, N51, N8, N6, N4, R] _
    rw [v64_limbsOf, v64_x1, hz1] at s54 ⊢
    refine op_assign (nxlf rfl) rfl rfl ?_
    refine At.opsNil ?_
    refine At.norm (hk_21 ?_)
    refine At.seq fun K22 hk_22 => ?_
    refine At.seq fun K23 hk_23 => ?_
    refine At.region ?_
    refine op_move (nxlf rfl) rfl rfl ?_
    refine At.opsNil ?_
    refine At.norm (hk_23 ?_)
    refine At.condP rfl (fun c55 => ?_) (fun c55 => ?_)
    · have hdn : s.2 = true := by first | assumption | (rw [hs0]; exact decide_eq_true (by omega))
      have hXs : difX h.df s = h.df - h.df / 2048 * s.1 := if_pos hdn
      refine At.region ?_
      refine op_move (nxlf rfl) rfl rfl ?_
      refine op_move (nxlf rfl) rfl rfl ?_
      refine op_callA (nxla rfl) (.cons rfl (.cons rfl .nil)) (Sub_f sd s54 (by decide) (by omega) (by rw [hvd, v64_limbsOf]; exact hpd)) Try.func28 rfl rfl (by simp) rfl ?_
      rintro v58 L58 ⟨N58, p58, c58, rfl, rfl, s58⟩
      change At _ _ _ [N58, N54, N53, N51, N8, N6, N4, R] _
      rw [hvd, v64_limbsOf, ← hXs] at s58 ⊢
      have sx := s58
      refine op_assign (nxlf rfl) rfl rfl ?_
      refine At.opsNil ?_
      refine At.norm (hk_22 ?_)
      refine At.seq fun K24 hk_24 => ?_
      refine At.seq fun K25 hk_25 => ?_
      refine At.region ?_
      refine op_move (nxlf rfl) rfl rfl ?_
      refine op_callA (nxla rfl) (.cons rfl .nil) (small_f 131072) Try.func27 rfl rfl (by simp) rfl ?_
      rintro v63 L63 ⟨N63, p63, c63, rfl, rfl, s63⟩
      change At _ _ _ [N63, N58, N54, N53, N51, N8, N6, N4, R] _
      refine op_callA (nxla rfl) (.cons rfl (.cons rfl .nil)) (Cmp_f sx s63 (by omega) (by omega)) Try.func30 rfl rfl (by simp) rfl ?_
      rintro v64 L64 ⟨rfl, rfl⟩
      change At _ _ _ [N63, N58, N54, N53, N51, N8, N6, N4, R] _
      rw [v64_limbsOf, v64_x1, eL]
      refine op_lss (nxlf rfl) rfl rfl rfl ?_
      refine At.opsNil ?_
      refine At.norm (hk_25 ?_)
      refine At.condP rfl (fun c65 => ?_) (fun c65 => ?_)
      · have hlt : difX h.df s < 131072 := by
          unfold cmpN at c65
          split at c65
          · omega
          · split at c65 <;> omega
        have hD : difD h.df s = 131072 := if_pos hlt
        refine At.region ?_
        refine op_callA (nxla rfl) (.cons rfl .nil) (small_f 131072) Try.func27 rfl rfl (by simp) rfl ?_
        rintro v66 L66 ⟨N66, p66, c66, rfl, rfl, s66⟩
        change At _ _ _ [N66, N63, N58, N54, N53, N51, N8, N6, N4, R] _
        have sy := s66
        have hy : v64 [131072] = difD h.df s := by rw [v64_x1, hD]; rfl
        refine op_assign (nxlf rfl) rfl rfl ?_
        refine At.opsNil ?_
        refine At.norm (hk_24 ?_)
        refine At.seq fun K26 hk_26 => ?_
        refine At.region ?_
        refine op_move (nxlf rfl) rfl rfl ?_
        refine op_fieldAddr (nxlf rfl) fl53_25 rfl rfl ?_
        refine op_loadB (nxlf rfl) sc27 rfl B8 (by first | rfl | exact Hd.ti_at hk | exact Hd.nu_at hk | exact hx25) mem6 rfl ?_
        rw [← hzb]
        refine op_fieldAddr (nxlf rfl) fl33_9 rfl rfl ?_
        refine op_loadB (nxlf rfl) sc27 rfl B4 (by first | rfl | exact Hd.ti_at hk | exact Hd.nu_at hk | exact hx25) mem8 rfl ?_
        refine op_callA (nxla rfl) (.cons rfl (.cons rfl .nil)) (FBomb_f zb h.nu) Try.func32 rfl rfl (by simp) rfl ?_
        rintro v72 L72 ⟨N72, p72, n72, c72, l72, rfl, rfl, s72, h72, k72⟩
        change At _ _ _ [N72, N66, N63, N58, N54, N53, N51, N8, N6, N4, R] _
        rw [hzb] at h72
        refine op_callA (nxla rfl) (.cons rfl (.cons rfl .nil)) (Add_f sy s72 (by omega) (by omega)) Try.func29 rfl rfl (by simp) rfl ?_
        rintro v73 L73 ⟨N73, p73, c73, rfl, rfl, s73⟩
        change At _ _ _ [N73, N72, N66, N63, N58, N54, N53, N51, N8, N6, N4, R] _
        rw [hy, h72, ← hV] at s73 ⊢
        refine op_callA (nxla rfl) (.cons rfl .nil) (fit_f s73 (by omega)) Try.func31 rfl rfl (by simp) rfl ?_
        rintro v74 L74 ⟨rfl, rfl⟩
        change At _ _ _ [N73, N72, N66, N63, N58, N54, N53, N51, N8, N6, N4, R] _
        rw [v64_limbsOf]
        refine op_extract (nxlf rfl) rfl rfl rfl ?_
        refine op_extract (nxlf rfl) rfl rfl rfl ?_
        refine op_store (nxl rfl) sz29 rfl rfl rfl rfl rfl B6 (by simp) sel9 (fun N6 B6 => ?_)
        rw [setL_whole (by simp)] at B6
        refine op_assign (nxlf rfl) rfl rfl ?_
        refine At.opsNil ?_
        refine At.norm (hk_26 ?_)
        refine At.ret (?_)
        refine At.sub (L' := [N6, R]) (.cons_cons _ (.cons _ (.cons _ (.cons _ (.cons _ (.cons _ (.cons _ (.cons _ (.cons _ (.cons _ (.cons _ (.cons_cons _ (.slnil))))))))))))) ?_
        refine At.retN (L1 := []) rfl (.cell rfl (res_agg (ds := u64s (wl (fitV V))) ag29 B6 (by first | (rw [List.drop_zero, List.take_of_length_le (by first | (simp; done) | (simp; omega))]; done) | rfl) (by first | (simp; done) | (simp; omega)) mem0) (.tmp rfl .nil)) rfl (.cons _ (.refl _)) (.refl _) ?_
        exact ⟨rfl, rfl⟩
      · have hge : ¬ difX h.df s < 131072 := by
          unfold cmpN at c65
          split at c65
          · omega
          · split at c65 <;> omega
        have hD : difD h.df s = difX h.df s := if_neg hge
        have sy := sx
        have hy : v64 (limbsOf (difX h.df s)) = difD h.df s := by rw [v64_limbsOf, hD]
        refine At.skip ?_
        refine At.norm (hk_24 ?_)
        refine At.seq fun K27 hk_27 => ?_
        refine At.region ?_
        refine op_move (nxlf rfl) rfl rfl ?_
        refine op_fieldAddr (nxlf rfl) fl53_25 rfl rfl ?_
        refine op_loadB (nxlf rfl) sc27 rfl B8 (by first | rfl | exact Hd.ti_at hk | exact Hd.nu_at hk | exact hx25) mem5 rfl ?_
        rw [← hzb]
        refine op_fieldAddr (nxlf rfl) fl33_9 rfl rfl ?_
        refine op_loadB (nxlf rfl) sc27 rfl B4 (by first | rfl | exact Hd.ti_at hk | exact Hd.nu_at hk | exact hx25) mem7 rfl ?_
        refine op_callA (nxla rfl) (.cons rfl (.cons rfl .nil)) (FBomb_f zb h.nu) Try.func32 rfl rfl (by simp) rfl ?_
        rintro v72 L72 ⟨N72, p72, n72, c72, l72, rfl, rfl, s72, h72, k72⟩
        change At _ _ _ [N72, N63, N58, N54, N53, N51, N8, N6, N4, R] _
        rw [hzb] at h72
        refine op_callA (nxla rfl) (.cons rfl (.cons rfl .nil)) (Add_f sy s72 (by omega) (by omega)) Try.func29 rfl rfl (by simp) rfl ?_
        rintro v73 L73 ⟨N73, p73, c73, rfl, rfl, s73⟩
        change At _ _ _ [N73, N72, N63, N58, N54, N53, N51, N8, N6, N4, R] _
        rw [hy, h72, ← hV] at s73 ⊢
        refine op_callA (nxla rfl) (.cons rfl .nil) (fit_f s73 (by omega)) Try.func31 rfl rfl (by simp) rfl ?_
        rintro v74 L74 ⟨rfl, rfl⟩
        change At _ _ _ [N73, N72, N63, N58, N54, N53, N51, N8, N6, N4, R] _
        rw [v64_limbsOf]
        refine op_extract (nxlf rfl) rfl rfl rfl ?_
        refine op_extract (nxlf rfl) rfl rfl rfl ?_
        refine op_store (nxl rfl) sz29 rfl rfl rfl rfl rfl B6 (by simp) sel8 (fun N6 B6 => ?_)
        rw [setL_whole (by simp)] at B6
        refine op_assign (nxlf rfl) rfl rfl ?_
        refine At.opsNil ?_
        refine At.norm (hk_27 ?_)
        refine At.ret (?_)
        refine At.sub (L' := [N6, R]) (.cons_cons _ (.cons _ (.cons _ (.cons _ (.cons _ (.cons _ (.cons _ (.cons _ (.cons _ (.cons _ (.cons_cons _ (.slnil)))))))))))) ?_
        refine At.retN (L1 := []) rfl (.cell rfl (res_agg (ds := u64s (wl (fitV V))) ag29 B6 (by first | (rw [List.drop_zero, List.take_of_length_le (by first | (simp; done) | (simp; omega))]; done) | rfl) (by first | (simp; done) | (simp; omega)) mem0) (.tmp rfl .nil)) rfl (.cons _ (.refl _)) (.refl _) ?_
        exact ⟨rfl, rfl⟩
    · have hdn : ¬ s.2 = true := by first | assumption | (rw [hs0]; exact fun e => absurd (of_decide_eq_true e) (by omega))
      have hXs : difX h.df s = h.df + h.df / 2048 * s.1 := if_neg hdn
      refine At.region ?_
      refine op_move (nxlf rfl) rfl rfl ?_
      refine op_move (nxlf rfl) rfl rfl ?_
      refine op_callA (nxla rfl) (.cons rfl (.cons rfl .nil)) (Add_f sd s54 (by decide) (by omega)) Try.func29 rfl rfl (by simp) rfl ?_
      rintro v61 L61 ⟨N61, p61, c61, rfl, rfl, s61⟩
      change At _ _ _ [N61, N54, N53, N51, N8, N6, N4, R] _
      rw [hvd, v64_limbsOf, ← hXs] at s61 ⊢
      have sx := s61
      refine op_assign (nxlf rfl) rfl rfl ?_
      refine At.opsNil ?_
      refine At.norm (hk_22 ?_)
      refine At.seq fun K28 hk_28 => ?_
      refine At.seq fun K29 hk_29 => ?_
      refine At.region ?_
      refine op_move (nxlf rfl) rfl rfl ?_
      refine op_callA (nxla rfl) (.cons rfl .nil) (small_f 131072) Try.func27 rfl rfl (by simp) rfl ?_
      rintro v63 L63 ⟨N63, p63, c63, rfl, rfl, s63⟩
      change At _ _ _ [N63, N61, N54, N53, N51, N8, N6, N4, R] _
      refine op_callA (nxla rfl) (.cons rfl (.cons rfl .nil)) (Cmp_f sx s63 (by omega) (by omega)) Try.func30 rfl rfl (by simp) rfl ?_
      rintro v64 L64 ⟨rfl, rfl⟩
      change At _ _ _ [N63, N61, N54, N53, N51, N8, N6, N4, R] _
      rw [v64_limbsOf, v64_x1, eL]
      refine op_lss (nxlf rfl) rfl rfl rfl ?_
      refine At.opsNil ?_
      refine At.norm (hk_29 ?_)
      refine At.condP rfl (fun c65 => ?_) (fun c65 => ?_)
      · have hlt : difX h.df s < 131072 := by
          unfold cmpN at c65
          split at c65
          · omega
          · split at c65 <;> omega
        have hD : difD h.df s = 131072 := if_pos hlt
        refine At.region ?_
        refine op_callA (nxla rfl) (.cons rfl .nil) (small_f 131072) Try.func27 rfl rfl (by simp) rfl ?_
        rintro v66 L66 ⟨N66, p66, c66, rfl, rfl, s66⟩
        change At _ _ _ [N66, N63, N61, N54, N53, N51, N8, N6, N4, R] _
        have sy := s66
        have hy : v64 [131072] = difD h.df s := by rw [v64_x1, hD]; rfl
        refine op_assign (nxlf rfl) rfl rfl ?_
        refine At.opsNil ?_
        refine At.norm (hk_28 ?_)
        refine At.seq fun K30 hk_30 => ?_
        refine At.region ?_
        refine op_move (nxlf rfl) rfl rfl ?_
        refine op_fieldAddr (nxlf rfl) fl53_25 rfl rfl ?_
        refine op_loadB (nxlf rfl) sc27 rfl B8 (by first | rfl | exact Hd.ti_at hk | exact Hd.nu_at hk | exact hx25) mem6 rfl ?_
        rw [← hzb]
        refine op_fieldAddr (nxlf rfl) fl33_9 rfl rfl ?_
        refine op_loadB (nxlf rfl) sc27 rfl B4 (by first | rfl | exact Hd.ti_at hk | exact Hd.nu_at hk | exact hx25) mem8 rfl ?_
        refine op_callA (nxla rfl) (.cons rfl (.cons rfl .nil)) (FBomb_f zb h.nu) Try.func32 rfl rfl (by simp) rfl ?_
        rintro v72 L72 ⟨N72, p72, n72, c72, l72, rfl, rfl, s72, h72, k72⟩
        change At _ _ _ [N72, N66, N63, N61, N54, N53, N51, N8, N6, N4, R] _
        rw [hzb] at h72
        refine op_callA (nxla rfl) (.cons rfl (.cons rfl .nil)) (Add_f sy s72 (by omega) (by omega)) Try.func29 rfl rfl (by simp) rfl ?_
        rintro v73 L73 ⟨N73, p73, c73, rfl, rfl, s73⟩
        change At _ _ _ [N73, N72, N66, N63, N61, N54, N53, N51, N8, N6, N4, R] _
        rw [hy, h72, ← hV] at s73 ⊢
        refine op_callA (nxla rfl) (.cons rfl .nil) (fit_f s73 (by omega)) Try.func31 rfl rfl (by simp) rfl ?_
        rintro v74 L74 ⟨rfl, rfl⟩
        change At _ _ _ [N73, N72, N66, N63, N61, N54, N53, N51, N8, N6, N4, R] _
        rw [v64_limbsOf]
        refine op_extract (nxlf rfl) rfl rfl rfl ?_
        refine op_extract (nxlf rfl) rfl rfl rfl ?_
        refine op_store (nxl rfl) sz29 rfl rfl rfl rfl rfl B6 (by simp) sel9 (fun N6 B6 => ?_)
        rw [setL_whole (by simp)] at B6
        refine op_assign (nxlf rfl) rfl rfl ?_
        refine At.opsNil ?_
        refine At.norm (hk_30 ?_)
        refine At.ret (?_)
        refine At.sub (L' := [N6, R]) (.cons_cons _ (.cons _ (.cons _ (.cons _ (.cons _ (.cons _ (.cons _ (.cons _ (.cons _ (.cons _ (.cons _ (.cons_cons _ (.slnil))))))))))))) ?_
        refine At.retN (L1 := []) rfl (.cell rfl (res_agg (ds := u64s (wl (fitV V))) ag29 B6 (by first | (rw [List.drop_zero, List.take_of_length_le (by first | (simp; done) | (simp; omega))]; done) | rfl) (by first | (simp; done) | (simp; omega)) mem0) (.tmp rfl .nil)) rfl (.cons _ (.refl _)) (.refl _) ?_
        exact ⟨rfl, rfl⟩
      · have hge : ¬ difX h.df s < 131072 := by
          unfold cmpN at c65
          split at c65
          · omega
          · split at c65 <;> omega
        have hD : difD h.df s = difX h.df s := if_neg hge
        have sy := sx
        have hy : v64 (limbsOf (difX h.df s)) = difD h.df s := by rw [v64_limbsOf, hD]
        refine At.skip ?_
        refine At.norm (hk_28 ?_)
        refine At.seq fun K31 hk_31 => ?_
        refine At.region ?_
        refine op_move (nxlf rfl) rfl rfl ?_
        refine op_fieldAddr (nxlf rfl) fl53_25 rfl rfl ?_
        refine op_loadB (nxlf rfl) sc27 rfl B8 (by first | rfl | exact Hd.ti_at hk | exact Hd.nu_at hk | exact hx25) mem5 rfl ?_
        rw [← hzb]
        refine op_fieldAddr (nxlf rfl) fl33_9 rfl rfl ?_
        refine op_loadB (nxlf rfl) sc27 rfl B4 (by first | rfl | exact Hd.ti_at hk | exact Hd.nu_at hk | exact hx25) mem7 rfl ?_
        refine op_callA (nxla rfl) (.cons rfl (.cons rfl .nil)) (FBomb_f zb h.nu) Try.func32 rfl rfl (by simp) rfl ?_
        rintro v72 L72 ⟨N72, p72, n72, c72, l72, rfl, rfl, s72, h72, k72⟩
        change At _ _ _ [N72, N63, N61, N54, N53, N51, N8, N6, N4, R] _
        rw [hzb] at h72
        refine op_callA (nxla rfl) (.cons rfl (.cons rfl .nil)) (Add_f sy s72 (by omega) (by omega)) Try.func29 rfl rfl (by simp) rfl ?_
        rintro v73 L73 ⟨N73, p73, c73, rfl, rfl, s73⟩
        change At _ _ _ [N73, N72, N63, N61, N54, N53, N51, N8, N6, N4, R] _
        rw [hy, h72, ← hV] at s73 ⊢
        refine op_callA (nxla rfl) (.cons rfl .nil) (fit_f s73 (by omega)) Try.func31 rfl rfl (by simp) rfl ?_
        rintro v74 L74 ⟨rfl, rfl⟩
        change At _ _ _ [N73, N72, N63, N61, N54, N53, N51, N8, N6, N4, R] _
        rw [v64_limbsOf]
        refine op_extract (nxlf rfl) rfl rfl rfl ?_
        refine op_extract (nxlf rfl) rfl rfl rfl ?_
        refine op_store (nxl rfl) sz29 rfl rfl rfl rfl rfl B6 (by simp) sel8 (fun N6 B6 => ?_)
        rw [setL_whole (by simp)] at B6
        refine op_assign (nxlf rfl) rfl rfl ?_
        refine At.opsNil ?_
        refine At.norm (hk_31 ?_)
        refine At.ret (?_)
        refine At.sub (L' := [N6, R]) (.cons_cons _ (.cons _ (.cons _ (.cons _ (.cons _ (.cons _ (.cons _ (.cons _ (.cons _ (.cons _ (.cons_cons _ (.slnil)))))))))))) ?_
        refine At.retN (L1 := []) rfl (.cell rfl (res_agg (ds := u64s (wl (fitV V))) ag29 B6 (by first | (rw [List.drop_zero, List.take_of_length_le (by first | (simp; done) | (simp; omega))]; done) | rfl) (by first | (simp; done) | (simp; omega)) mem0) (.tmp rfl .nil)) rfl (.cons _ (.refl _)) (.refl _) ?_
        exact ⟨rfl, rfl⟩
theorem FDiff_f2 (hk : h.Ok) (f : Int) (tm : UInt64) : Fn Try.prog 6 #[.int .i64 f, .agg (h.cells ao n cap).toArray, .int .u64 (tm.toNat : Int)] [] [] (fun v L => v = .tuple #[wo (hardV f (mBomb f) h.nu.toNat h.df (decide (h.om ≠ kz)) h.ti.toNat tm.toNat).1, .bool (hardV f (mBomb f) h.nu.toNat h.df (decide (h.om ≠ kz)) h.ti.toNat tm.toNat).2] ∧ L = []) := by
  by_cases h1 : f < 0 ∨ 12 < f ∨ tm.toNat ≤ h.ti.toNat
  · rw [hardV_n h1]
    by_cases h2 : f < 0 ∨ 15 < f
    · exact FDiff_a hk h2 tm
    · exact FDiff_b hk (by omega) (by omega) tm (by omega)
  · obtain ⟨k, rfl⟩ : ∃ k : Nat, f = (k : Int) := ⟨f.toNat, by omega⟩
    rw [hardV_y (by omega) (by omega)]
    exact FDiff_c hk (by omega) tm (by omega) rfl
end
end Go.Proofs.Ytbmlhdecnfplaaa
