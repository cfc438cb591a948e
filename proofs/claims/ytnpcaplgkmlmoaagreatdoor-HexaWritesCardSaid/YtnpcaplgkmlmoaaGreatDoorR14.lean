/- Several texts in one: see the remarks ahead of each part. No condition but those told there. -/
import Derived.Test.YtnpcaplgkmlmoaaGreatDoorR6
import Derived.Test.YtnpcaplgkmlmoaaGreatDoorR7
import Derived.Test.YtnpcaplgkmlmoaaGreatDoorR11
import Derived.Test.YtnpcaplgkmlmoaaGreatDoorR12
import Derived.Test.YtnpcaplgkmlmoaaGreatDoorR13
import Derived.Test.YtnpcaplgkmlmoaaGreatDoorR4
import Derived.Test.YtnpcaplgkmlmoaaGreatDoorR5
import Derived.Test.YtnpcaplgkmlmoaaGreatDoorR10
import Derived.Lib.ItoaNum
import Derived.Laws.StructEq
import Derived.Stop.BytesEq
/- hexa.Mixed. No condition. -/
namespace Go.Proofs.YtnpcaplgkmlmoaaGreatDoor
set_option linter.unusedVariables false
set_option linter.unusedSimpArgs false
open Go Go.RowKit
/-- A letter made great. -/
def upB (b : UInt8) : UInt8 := if 97 ≤ b.toNat ∧ b.toNat ≤ 122 then b - 32 else b
/-- A letter of an address with its check. -/
def mixC (t h : List UInt8) (i : Nat) : UInt8 := if 56 ≤ (h.getD i 0).toNat then upB (t.getD i 0) else t.getD i 0
def mixU (t h : List UInt8) (q : Nat) : List Nat := (List.range q).map fun i => (mixC t h i).toNat
def mixL (a : List UInt8) : List UInt8 := (List.range 40).map (mixC (hexL a) (hexL (kec (hexL a))))
theorem mixU_len (t h : List UInt8) (q : Nat) : (mixU t h q).length = q := by simp [mixU]
theorem mixU_succ (t h : List UInt8) (q : Nat) : mixU t h (q + 1) = mixU t h q ++ [(mixC t h q).toNat] := by simp [mixU, List.range_succ]
theorem upB_nat {b : UInt8} (h : b.toNat < 128) : ((upB b).toNat : Int) = Lib.toUpperR (b.toNat : Int) := by
  unfold upB Lib.toUpperR
  by_cases h1 : 97 ≤ b.toNat ∧ b.toNat ≤ 122
  · rw [if_pos h1, if_pos (by omega), UInt8.toNat_sub]
    show (((256 - 32 + b.toNat) % 256 : Nat) : Int) = _
    omega
  · rw [if_neg h1, if_neg (by omega)]
theorem upB_low {b : UInt8} (h : b.toNat < 128) : (upB b).toNat < 128 := by
  have := upB_nat h
  unfold Lib.toUpperR at this
  split at this <;> omega
theorem mixC_low {t h : List UInt8} {i : Nat} (ht : (t.getD i 0).toNat < 128) : (mixC t h i).toNat < 128 := by
  unfold mixC
  split
  · exact upB_low ht
  · exact ht
theorem FUp_f {b : UInt8} (h : b.toNat < 128) : Fn Tryz.prog 30 #[.int .i32 (b.toNat : Int)] [] [] (fun v L => v = .int .i32 ((upB b).toNat : Int) ∧ L = []) := by
  refine Fn.of_same0 fun w => ?_
  have := Tryz.unicode_ToUpper (b.toNat : Int) w (by omega)
  rw [← upB_nat h] at this
  exact this
theorem rune_low {t : List UInt8} {q : Nat} (hq : q < t.length) (h : (t.getD q 0).toNat < 128) : runeAt t q = (t.getD q 0).toNat ∧ nextP t q = q + 1 := by
  have e : t.drop q = t.getD q 0 :: t.drop (q + 1) := by
    rw [List.drop_eq_getElem_cons hq, List.getD_eq_getElem?_getD, List.getElem?_eq_getElem hq, Option.getD_some]
  rw [nextP_y hq, runeAt, e, decode_low h]
  exact ⟨rfl, rfl⟩
theorem low_get {t : List UInt8} (h : ∀ b ∈ t, b.toNat < 128) (i : Nat) : (t.getD i 0).toNat < 128 := by
  rw [List.getD_eq_getElem?_getD]
  cases e : t[i]? with
  | none => decide
  | some x => exact h x (List.mem_of_getElem? e)
set_option maxRecDepth 100000 in
set_option maxHeartbeats 2000000 in
theorem FMixed_f {a : List UInt8} (ha : a.length = 20) : Fn Tryz.prog 11 #[.agg (u8s a).toArray] [] [] (fun v L => v = str (48 :: 120 :: mixL a) ∧ L = []) := by
  unfold mixL
  obtain ⟨t, ht⟩ : ∃ t, hexL a = t := ⟨_, rfl⟩
  obtain ⟨k, hk⟩ : ∃ k, kec t = k := ⟨_, rfl⟩
  obtain ⟨h, hh⟩ : ∃ h, hexL k = h := ⟨_, rfl⟩
  rw [ht, hk, hh]
  have htl : t.length = 40 := by rw [← ht, hexL_len, ha]
  have hkl : k.length = 32 := by rw [← hk]; exact kec_len _
  have hhl : h.length = 64 := by rw [← hh, hexL_len, hkl]
  have htk : ∀ b ∈ t, b.toNat < 128 := by rw [← ht]; exact fun b hb => (hexL_ok a b hb).1
  have hlow := low_get htk
  have hfin : (48 :: 120 :: mixU t h 40).map UInt8.ofNat = 48 :: 120 :: (List.range 40).map (mixC t h) := by
    rw [List.map_cons, List.map_cons, mixU, List.map_map]
    refine congrArg (fun z => 48 :: 120 :: z) (List.map_congr_left fun i _ => ?_)
    exact UInt8.ofNat_toNat
  have hall : ∀ r ∈ (48 :: 120 :: mixU t h 40 : List Nat), r < 128 := by
    intro r hr
    rcases List.mem_cons.1 hr with rfl | hr
    · decide
    · rcases List.mem_cons.1 hr with rfl | hr
      · decide
      · obtain ⟨i, _, rfl⟩ := List.mem_map.1 hr
        exact mixC_low (hlow i)
  refine Fn.enter (vs := [.agg (u8s a).toArray]) Tryz.func11 rfl rfl rfl ?_
  intro E R hR
  change At _ _ E [R] _
  refine At.seq fun K1 hk_1 => ?_
  refine At.region ?_
  refine op_box (nxla rfl) rfl rfl rfl (fun N1 b1 B1 => ?_)
  have s1 := blk8 B1 ha (by decide)
  refine op_assign (nxlf rfl) rfl rfl ?_
  refine At.opsNil ?_
  refine At.norm (hk_1 ?_)
  refine At.seq fun K2 hk_2 => ?_
  refine At.region ?_
  refine op_sliceA (nxlf rfl) ae27 rfl .none .none .none (by omega) (by omega) (by omega) (by simp) rfl ?_
  refine op_callA (nxla rfl) (.cons rfl .nil) (FText_f s1 (by decide)) Tryz.func5 rfl rfl (by simp) rfl ?_
  rintro v10 L10 ⟨rfl, rfl⟩
  change At _ _ _ [N1, R] _
  refine op_callA (nxla rfl) (.cons rfl (.cons rfl .nil)) (FTrimP_f (l := hexT a) (p := [48, 120]) (by rw [hexT_len]; show 2 ≤ _; omega) rfl) Tryz.func19 rfl rfl (by simp) rfl ?_
  rintro v11 L11 ⟨rfl, rfl⟩
  change At _ _ _ [N1, R] _
  rw [show (hexT a).drop ([48, 120] : List UInt8).length = t from by rw [← ht]; rfl]
  refine op_assign (nxlf rfl) rfl rfl ?_
  refine At.opsNil ?_
  refine At.norm (hk_2 ?_)
  refine At.seq fun K3 hk_3 => ?_
  refine At.region ?_
  refine op_move (nxlf rfl) rfl rfl ?_
  refine op_strB (nxla rfl) Tryz.underlying9 Tryz.underlying22 Tryz.underlying5 rfl (by omega) rfl (fun N13 b13 p13 m13 => ?_)
  have s13 := m13.rsl
  refine op_callA (nxla rfl) (.cons rfl .nil) (FKeccak_f s13 (by omega)) Tryz.func29 rfl rfl (by simp) rfl ?_
  rintro v14 L14 ⟨rfl, rfl⟩
  change At _ _ _ [N13, N1, R] _
  rw [hk]
  refine op_alloc (nxla rfl) ze57 rfl (fun N4 b4 B4 => ?_)
  change Blk N4 b4 _ [.int .u8 0, .int .u8 0, .int .u8 0, .int .u8 0, .int .u8 0, .int .u8 0, .int .u8 0, .int .u8 0, .int .u8 0, .int .u8 0, .int .u8 0, .int .u8 0, .int .u8 0, .int .u8 0, .int .u8 0, .int .u8 0, .int .u8 0, .int .u8 0, .int .u8 0, .int .u8 0, .int .u8 0, .int .u8 0, .int .u8 0, .int .u8 0, .int .u8 0, .int .u8 0, .int .u8 0, .int .u8 0, .int .u8 0, .int .u8 0, .int .u8 0, .int .u8 0] at B4
  refine op_store (nxl rfl) sz57 rfl rfl rfl (by simp [u8s, hkl]) (all8x _) B4 (by simp [u8s, hkl]) sel0 (fun N4 B4 => ?_)
  rw [setL_whole (by simp [u8s, hkl])] at B4
  refine At.opsNil ?_
  refine At.norm (hk_3 ?_)
  refine At.seq fun K4 hk_4 => ?_
  refine At.region ?_
  have s4 := blk8 B4 hkl (by decide)
  refine op_sliceA (nxlf rfl) ae57 rfl .none .none .none (by omega) (by omega) (by omega) (by simp) rfl ?_
  refine op_callA (nxla rfl) (.cons rfl .nil) (FText_f s4 (by decide)) Tryz.func5 rfl rfl (by simp) rfl ?_
  rintro v16 L16 ⟨rfl, rfl⟩
  change At _ _ _ [N4, N13, N1, R] _
  have hTl := hexT_len k
  refine op_sliceStr (nxlf rfl) Tryz.underlying9 rfl (.some rfl (show _ = (((2 : Nat)) : Int) from by omega)) .none .none (by omega) (by omega) (by omega) (by simp) rfl ?_
  rw [show ((hexT k).drop 2).take ((hexT k).length - 2) = h from by rw [← hh]; exact List.take_of_length_le (by rw [List.length_drop]; exact Nat.le_refl _)]
  refine op_assign (nxlf rfl) rfl rfl ?_
  refine At.opsNil ?_
  refine At.norm (hk_4 ?_)
  refine At.seq fun K5 hk_5 => ?_
  refine At.region ?_
  refine op_lit (nxla rfl) Tryz.underlying59 ze21 sz21 (.cons rfl (.cons rfl .nil)) rfl rfl (by simp [Value.cells]) rfl rfl rfl (fun N18 a18 r18 => ?_)
  simp only [flatV, List.flatMap_cons, List.flatMap_nil, Value.cells, List.append_nil, List.cons_append, List.nil_append] at r18
  have s18 := r18.rsl
  change Row N18 _ 1 a18 2 2 (runesV [48, 120]) at r18
  refine op_assign (nxlf rfl) rfl rfl ?_
  refine At.opsNil ?_
  refine At.norm (hk_5 ?_)
  refine At.seq fun K6 hk_6 => ?_
  refine At.seq fun K7 hk_7 => ?_
  refine At.region ?_
  refine op_move (nxlf rfl) rfl rfl ?_
  refine op_rangeS (nxla rfl) Tryz.underlying9 rfl rfl (fun N20 b20 I20 => ?_)
  refine At.opsNil ?_
  refine At.norm (hk_7 ?_)
  refine At.block ?_
  refine At.sub (L' := [N20, N18, R]) (.cons_cons _ (.cons_cons _ (.cons _ (.cons _ (.cons _ (.cons_cons _ (.slnil))))))) ?_
  refine At.loop (fun fr_ hp_ ms_ => ∃ (q : Nat) (p : Option Addr) (m c : Nat) (Na N20 : Heaplet), fr_ = [(5, str h), (6, .slice p m c), (20, .pointer (some ⟨b20, 0, none⟩))] ∧ hp_ = [N20, Na, R] ∧ 40 - q = ms_ ∧ (q ≤ 40) ∧ (m = q + 2) ∧ (IterH N20 b20 t q) ∧ (Row Na 21 1 p m c (runesV (48 :: 120 :: mixU t h q)))) ?_ (.refl _) ⟨0, a18, 2, 2, N18, N20, rfl, rfl, rfl, Nat.zero_le _, rfl, I20, r18⟩ ?_
  · exact .cons (by first | exact lkI rfl (by omega) | rfl) (.cons (by first | exact lkI rfl (by omega) | rfl) (.cons (by first | exact lkI rfl (by omega) | rfl) .nil))
  rintro _ _ _ ⟨q, p, m, c, Na, N20, rfl, rfl, rfl, hq, hm, I20, ra⟩
  refine At.seq fun K8 hk_8 => ?_
  refine At.region ?_
  refine op_nextS (nxl rfl) rfl I20 sel0 rfl (fun N20 I20 => ?_)
  refine op_nx0 (nxlf rfl) rfl rfl ?_
  refine At.opsNil ?_
  refine At.norm (hk_8 ?_)
  refine At.seq fun K9 hk_9 => ?_
  refine At.condP rfl (fun c22 => ?_) (fun c22 => ?_)
  · have hlt : q < t.length := c22
    obtain ⟨hrn, hnp⟩ := rune_low hlt (hlow q)
    refine At.skip ?_
    refine At.norm (hk_9 ?_)
    refine At.block ?_
    refine At.seq fun K10 hk_10 => ?_
    refine At.region ?_
    refine op_nx1 (nxlf rfl) rfl (by omega) rfl ?_
    refine op_nx2 (nxlf rfl) rfl (by omega) rfl ?_
    rw [hrn]
    refine op_assign (nxlf rfl) rfl rfl ?_
    refine op_assign (nxlf rfl) rfl rfl ?_
    refine At.opsNil ?_
    refine At.norm (hk_10 ?_)
    refine At.seq fun K11 hk_11 => ?_
    refine At.meet (fun fr_ hp_ => ∃ (x : UInt8), fr_ = [(5, str h), (6, .slice p m c), (8, .int .i32 (x.toNat : Int)), (20, .pointer (some ⟨b20, 0, none⟩))] ∧ hp_ = [N20, Na, R] ∧ (x = mixC t h q)) ?_ (fun K11_ jk_11 => ?_)
    rotate_left
    · skip
      refine At.seq fun K12 hk_12 => ?_
      refine At.region ?_
      refine op_move (nxlf rfl) rfl rfl ?_
      refine op_move (nxlf rfl) rfl rfl ?_
      refine op_idxS (nxlf rfl) Tryz.underlying9 rfl rfl (show _ = (((q : Nat)) : Int) from by omega) (by omega) rfl ?_
      refine op_geq (nxlf rfl) rfl rfl rfl ?_
      refine At.opsNil ?_
      refine At.norm (hk_12 ?_)
      refine At.condP rfl (fun c28 => ?_) (fun c28 => ?_)
      · refine At.region ?_
        refine op_move (nxlf rfl) rfl rfl ?_
        refine op_callA (nxla rfl) (.cons rfl .nil) (FUp_f (hlow q)) Tryz.func30 rfl rfl (by simp) rfl ?_
        rintro v30 L30 ⟨rfl, rfl⟩
        change At _ _ _ [N20, Na, R] _
        refine op_assign (nxlf rfl) rfl rfl ?_
        refine At.opsNil ?_
        refine At.norm (jk_11 ?_ (.refl _) ⟨upB (t.getD q 0), rfl, rfl, by rw [mixC, if_pos (by omega)]⟩)
        exact .cons (by first | exact lkI rfl (by omega) | rfl) (.cons (by first | exact lkI rfl (by omega) | rfl) (.cons (by first | exact lkI rfl (by omega) | rfl) (.cons (by first | exact lkI rfl (by omega) | rfl) .nil)))
      · refine At.skip ?_
        refine At.norm (jk_11 ?_ (.refl _) ⟨t.getD q 0, rfl, rfl, by rw [mixC, if_neg (by omega)]⟩)
        exact .cons (by first | exact lkI rfl (by omega) | rfl) (.cons (by first | exact lkI rfl (by omega) | rfl) (.cons (by first | exact lkI rfl (by omega) | rfl) (.cons (by first | exact lkI rfl (by omega) | rfl) .nil)))
    rintro _ _ ⟨x, rfl, rfl, hx⟩
    refine hk_11 ?_
    refine At.region ?_
    subst hx
    refine op_move (nxlf rfl) rfl rfl ?_
    refine op_move (nxlf rfl) rfl rfl ?_
    refine op_lit (nxla rfl) Tryz.underlying59 ze21 sz21 (.cons rfl .nil) rfl rfl (by simp [Value.cells]) rfl rfl rfl (fun N33 a33 r33 => ?_)
    simp only [flatV, List.flatMap_cons, List.flatMap_nil, Value.cells, List.append_nil, List.cons_append, List.nil_append] at r33
    have s33 := r33.rsl
    change Row N33 _ 1 a33 1 1 (runesV [(mixC t h q).toNat]) at r33
    have s33 := r33.rsl
    refine op_append (nxl rfl) Tryz.underlying59 Tryz.underlying59 te21 rfl rfl ra s33 (by first | exact mem0 | exact mem1 | exact mem2 | exact mem3 | exact mem4 | exact mem5 | exact mem6 | exact mem7 | exact mem8 | exact mem9) (one_rs _) (by omega) (by omega) sel2 rfl (fun N34 a34 p34 r34 => ?_)
    have s34 := r34.rsl
    have r34 : Row N34 21 1 a34 (m + 1) p34 (runesV (48 :: 120 :: mixU t h (q + 1))) := by
      rw [mixU_succ, show runesV (48 :: 120 :: (mixU t h q ++ [(mixC t h q).toNat])) = runesV (48 :: 120 :: mixU t h q) ++ runesV [(mixC t h q).toNat] by simp [runesV]]
      exact r34
    refine op_assign (nxlf rfl) rfl rfl ?_
    refine At.opsNil ?_
    refine At.inNorm ?_
    refine At.norm ?_
    refine At.sub (L' := [N34, N20, R]) (.cons_cons _ (.cons _ (.cons_cons _ (.cons_cons _ (.slnil))))) ?_
    refine At.perm sel2 ?_
    refine At.perm sel1 ?_
    refine At.perm sel2 ?_
    refine At.back ?_ (.refl _) ⟨q + 1, a34, m + 1, p34, N34, N20, rfl, rfl, rfl, by omega, by omega, by rw [hnp] at I20; exact I20, r34⟩ ?_
    · exact .cons (by first | exact lkI rfl (by omega) | rfl) (.cons (by first | exact lkI rfl (by omega) | rfl) (.cons (by first | exact lkI rfl (by omega) | rfl) .nil))
    · omega
  · have hq40 : q = 40 := by omega
    subst hq40
    refine At.exit (At.thenExit (At.thenExit (At.inHit ?_)))
    refine At.norm (hk_6 ?_)
    refine At.seq fun K13 hk_13 => ?_
    refine At.region ?_
    refine op_move (nxlf rfl) rfl rfl ?_
    refine op_runesS (nxlf rfl) Tryz.underlying59 Tryz.underlying21 Tryz.underlying9 rfl ra.rsl hall (by simp) rfl ?_
    rw [hfin]
    refine op_assign (nxlf rfl) rfl rfl ?_
    refine At.opsNil ?_
    refine At.norm (hk_13 ?_)
    refine At.ret (?_)
    refine At.sub (L' := [R]) (.cons _ (.cons _ (.cons_cons _ (.slnil)))) ?_
    refine At.ret1 (L1 := []) rfl (.tmp rfl .nil) (.refl _) (.refl _) ?_
    exact ⟨rfl, rfl⟩
end Go.Proofs.YtnpcaplgkmlmoaaGreatDoor
/- hexa.Decimal. No condition. -/
namespace Go.Proofs.YtnpcaplgkmlmoaaGreatDoor
set_option linter.unusedVariables false
set_option linter.unusedSimpArgs false
open Go Go.RowKit
theorem dec_small {u : Nat} (h : u < 10) : Lib.decDigits u = [UInt8.ofNat (48 + u % 10)] := by rw [Lib.decDigits_one h, Nat.mod_eq_of_lt h]
theorem dec_step {u : Nat} (h : ¬ u < 10) : Lib.decDigits u = Lib.decDigits (u / 10) ++ [UInt8.ofNat (48 + u % 10)] := by
  conv => lhs; rw [Lib.decDigits, dif_neg h]
theorem dec_len : ∀ (k u : Nat), u < 10 ^ (k + 1) → (Lib.decDigits u).length ≤ k + 1 := by
  intro k
  induction k with
  | zero => intro u h; rw [dec_small (by simpa using h)]; exact Nat.le_refl _
  | succ k ih =>
    intro u h
    by_cases h10 : u < 10
    · rw [dec_small h10]; show 1 ≤ _; omega
    · rw [dec_step h10, List.length_append, List.length_singleton]
      have := ih (u / 10) (by rw [Nat.pow_succ] at h; omega)
      omega
theorem dec_word {x : Nat} (h : x < WW) : (Lib.decDigits x).length ≤ 78 := dec_len 77 x (Nat.lt_of_lt_of_le h (by decide))
theorem decDig_at : ∀ r, r < 10 → (hexD.drop r).take (r + 1 - r) = [UInt8.ofNat (48 + r)] := by decide +kernel
theorem modZ10 (X : Nat) : modZ X 10 = X % 10 := rfl
set_option maxRecDepth 100000 in
set_option maxHeartbeats 2000000 in
theorem FDecimal_f {x : Nat} (hx : x < WW) : Fn Tryz.prog 9 #[wo x] [] [] (fun v L => v = str (Lib.decDigits x) ∧ L = []) := by
  have hwl := dec_word hx
  have h10 : (10 : Nat) < WW := by decide
  refine Fn.enter (vs := [wo x]) Tryz.func9 rfl rfl rfl ?_
  intro E R hR
  change At _ _ E [R] _
  refine At.seq fun K1 hk_1 => ?_
  refine At.region ?_
  refine op_box (nxla rfl) rfl rfl rfl (fun N1 b1 B1 => ?_)
  change Blk N1 b1 _ (u64s (wl x)) at B1
  refine op_assign (nxlf rfl) rfl rfl ?_
  refine At.opsNil ?_
  refine At.norm (hk_1 ?_)
  refine At.seq fun K2 hk_2 => ?_
  refine At.region ?_
  refine op_callA (nxla rfl) (.cons rfl .nil) (WOf_f 10) Tryz.func22 rfl rfl (by simp) rfl ?_
  rintro v7 L7 ⟨rfl, rfl⟩
  change At _ _ _ [N1, R] _
  refine op_alloc (nxla rfl) ze25 rfl (fun N3 b3 B3 => ?_)
  change Blk N3 b3 _ [.int .u64 0, .int .u64 0, .int .u64 0, .int .u64 0] at B3
  refine op_store (nxl rfl) sz25 rfl rfl rfl rfl rfl B3 (by simp) sel0 (fun N3 B3 => ?_)
  rw [setL_whole (by simp)] at B3
  refine op_assign (nxlf rfl) rfl rfl ?_
  refine At.opsNil ?_
  refine At.norm (hk_2 ?_)
  refine At.block ?_
  refine At.loop (fun fr_ hp_ ms_ => ∃ (X : Nat) (acc : List UInt8) (N1 : Heaplet), fr_ = [(1, .pointer (some ⟨b1, 0, none⟩)), (3, .pointer (some ⟨b3, 0, none⟩)), (4, str acc)] ∧ hp_ = [N3, N1, R] ∧ X = ms_ ∧ (X < WW) ∧ (Lib.decDigits X ++ acc = Lib.decDigits x) ∧ (Blk N1 b1 25 (u64s (wl X)))) ?_ (.refl _) ⟨x, [], N1, rfl, rfl, rfl, hx, List.append_nil _, B1⟩ ?_
  · exact .cons (by first | exact lkI rfl (by omega) | rfl) (.cons (by first | exact lkI rfl (by omega) | rfl) (.cons (by first | exact lkI rfl (by omega) | rfl) .nil))
  rintro _ _ _ ⟨X, acc, N1, rfl, rfl, rfl, hX, hd, B1⟩
  obtain ⟨g, hg⟩ : ∃ g : UInt64, g.toNat = X % 10 := ⟨UInt64.ofNat (X % 10), by rw [UInt64.toNat_ofNat']; omega⟩
  have hg1 : (g + 1).toNat = X % 10 + 1 := by rw [UInt64.toNat_add, hg]; show (X % 10 + 1) % 18446744073709551616 = _; omega
  have hal : acc.length ≤ 78 := by
    have := congrArg List.length hd
    rw [List.length_append] at this
    omega
  have hdlen : ([48, 49, 50, 51, 52, 53, 54, 55, 56, 57, 97, 98, 99, 100, 101, 102] : List UInt8).length = 16 := rfl
  have hdiv : X / 10 < WW := Nat.lt_of_le_of_lt (Nat.div_le_self ..) hX
  refine At.block ?_
  refine At.seq fun K3 hk_3 => ?_
  refine At.region ?_
  refine op_loadAggB (ds := u64s (wl X)) (nxlf rfl) ag25 rfl B1 (by first | (rw [List.drop_zero, List.take_of_length_le (by first | (simp; done) | (simp; omega))]; done) | rfl) (by first | (simp; done) | (simp; omega)) mem1 rfl ?_
  refine op_loadAggB (ds := u64s (wl 10)) (nxlf rfl) ag25 rfl B3 (by first | (rw [List.drop_zero, List.take_of_length_le (by first | (simp; done) | (simp; omega))]; done) | rfl) (by first | (simp; done) | (simp; omega)) mem0 rfl ?_
  refine op_callA (nxla rfl) (.cons rfl (.cons rfl .nil)) (WMod_f hX h10) Tryz.func24 rfl rfl (by simp) rfl ?_
  rintro v11 L11 ⟨rfl, rfl⟩
  change At _ _ _ [N3, N1, R] _
  rw [modZ10]
  refine op_callA (nxla rfl) (.cons rfl .nil) (WSmall_f (x := X % 10) (by show _ < 2 ^ 256; omega) (by omega)) Tryz.func23 rfl rfl (by simp) rfl ?_
  rintro v12 L12 ⟨rfl, rfl⟩
  change At _ _ _ [N3, N1, R] _
  rw [← hg]
  refine op_move (nxlf rfl) rfl rfl ?_
  refine op_extract (nxlf rfl) rfl rfl rfl ?_
  refine op_extract (nxlf rfl) rfl rfl rfl ?_
  refine op_assign (nxlf rfl) rfl rfl ?_
  refine op_assign (nxlf rfl) rfl rfl ?_
  refine At.opsNil ?_
  refine At.norm (hk_3 ?_)
  refine At.seq fun K4 hk_4 => ?_
  refine At.region ?_
  refine op_move (nxlf rfl) rfl rfl ?_
  refine op_move (nxlf rfl) rfl rfl ?_
  refine op_addU (b := 1) (nxlf rfl) rfl rfl rfl ?_
  refine op_sliceStr (nxlf rfl) Tryz.underlying9 rfl (.some rfl (show _ = (((X % 10 : Nat)) : Int) from by omega)) (.some rfl (show _ = (((X % 10 + 1 : Nat)) : Int) from by omega)) .none (by omega) (by omega) (by omega) (by simp) rfl ?_
  rw [show (List.take (X % 10 + 1 - X % 10) (List.drop (X % 10) [48, 49, 50, 51, 52, 53, 54, 55, 56, 57, 97, 98, 99, 100, 101, 102]) : List UInt8) = [UInt8.ofNat (48 + X % 10)] from decDig_at _ (by omega)]
  refine op_move (nxlf rfl) rfl rfl ?_
  refine op_addS (nxlf rfl) rfl rfl (by (simp; omega)) rfl ?_
  refine op_assign (nxlf rfl) rfl rfl ?_
  refine At.opsNil ?_
  refine At.norm (hk_4 ?_)
  refine At.seq fun K5 hk_5 => ?_
  refine At.region ?_
  refine op_loadAggB (ds := u64s (wl X)) (nxlf rfl) ag25 rfl B1 (by first | (rw [List.drop_zero, List.take_of_length_le (by first | (simp; done) | (simp; omega))]; done) | rfl) (by first | (simp; done) | (simp; omega)) mem1 rfl ?_
  refine op_loadAggB (ds := u64s (wl 10)) (nxlf rfl) ag25 rfl B3 (by first | (rw [List.drop_zero, List.take_of_length_le (by first | (simp; done) | (simp; omega))]; done) | rfl) (by first | (simp; done) | (simp; omega)) mem0 rfl ?_
  refine op_callA (nxla rfl) (.cons rfl (.cons rfl .nil)) (WDiv_f hX h10) Tryz.func25 rfl rfl (by simp) rfl ?_
  rintro v23 L23 ⟨rfl, rfl⟩
  change At _ _ _ [N3, N1, R] _
  refine op_store (nxl rfl) sz25 rfl rfl rfl rfl rfl B1 (by simp) sel1 (fun N1 B1 => ?_)
  rw [setL_whole (by simp)] at B1
  refine At.opsNil ?_
  refine At.norm (hk_5 ?_)
  refine At.seq fun K6 hk_6 => ?_
  refine At.region ?_
  refine op_loadAggB (ds := u64s (wl (X / 10))) (nxlf rfl) ag25 rfl B1 (by first | (rw [List.drop_zero, List.take_of_length_le (by first | (simp; done) | (simp; omega))]; done) | rfl) (by first | (simp; done) | (simp; omega)) mem0 rfl ?_
  refine op_buildA (out := [.int .u64 0, .int .u64 0, .int .u64 0, .int .u64 0]) (nxlf rfl) ze25 ae25 .nil rfl rfl ?_
  refine op_eqW (a := wl (X / 10)) (b := wl 0) (nxlf rfl) ae25 Tryz.underlying23 (by kernel_rfl) rfl rfl rfl rfl rfl ?_
  refine At.opsNil ?_
  refine At.norm (hk_6 ?_)
  refine At.condP rfl (fun c26 => ?_) (fun c26 => ?_)
  · have h0 := wl_inj hdiv (by decide) c26
    have hlt : X < 10 := by omega
    refine At.seq fun K7 hk_7 => ?_
    refine At.region ?_
    refine op_move (nxlf rfl) rfl rfl ?_
    refine op_assign (nxlf rfl) rfl rfl ?_
    refine At.opsNil ?_
    refine At.norm (hk_7 ?_)
    refine At.ret (At.inRet (At.thenRet (At.inRet (?_))))
    refine At.sub (L' := [R]) (.cons _ (.cons _ (.cons_cons _ (.slnil)))) ?_
    refine At.ret1 (L1 := []) rfl (.tmp rfl .nil) (.refl _) (.refl _) ?_
    exact ⟨by rw [← hd, dec_small hlt], rfl⟩
  · have hge : ¬ X < 10 := fun h => c26 (by rw [show X / 10 = 0 by omega])
    refine At.skip ?_
    refine At.inNorm ?_
    refine At.norm ?_
    refine At.perm sel2 ?_
    refine At.perm sel1 ?_
    refine At.perm sel2 ?_
    refine At.back ?_ (.refl _) ⟨X / 10, UInt8.ofNat (48 + X % 10) :: acc, N1, rfl, rfl, rfl, Nat.lt_of_le_of_lt (Nat.div_le_self ..) hX, by rw [← hd, dec_step hge, List.append_assoc]; rfl, B1⟩ ?_
    · exact .cons (by first | exact lkI rfl (by omega) | rfl) (.cons (by first | exact lkI rfl (by omega) | rfl) (.cons (by first | exact lkI rfl (by omega) | rfl) .nil))
    · (exact Nat.div_lt_self (by omega) (by decide))
end Go.Proofs.YtnpcaplgkmlmoaaGreatDoor
/- The reference's Keccak-256. Condition: at most 2^40 bytes. -/
namespace Go.Proofs.YtnpcaplgkmlmoaaGreatDoor
set_option linter.unusedVariables false
set_option linter.unusedSimpArgs false
open Go Go.RowKit
theorem u8s_ap2 (a b : List UInt8) : u8s (a ++ b) = u8s a ++ u8s b := by simp [u8s]
set_option maxRecDepth 100000 in
set_option maxHeartbeats 4000000 in
theorem rKeccak_f {N : Heaplet} {ao : Option Addr} {n cap : Nat} {l : List UInt8} (hb : RSl N 1 ao n cap (u8s l)) (hn : n ≤ 1099511627776) : Fn Tryz.prog 31 #[.slice ao n cap] [] [N] (fun v L => v = .agg (u8s (kec l)).toArray ∧ L = []) := by
  have hlen := hb.len8
  have hcap := hb.cap63
  refine Fn.enter (vs := [.slice ao n cap]) Tryz.func31 rfl rfl rfl ?_
  intro E R hR
  have hb := hb.le (hR N (by simp))
  change At _ _ E [R] _
  refine At.seq fun K1 hk_1 => ?_
  refine At.region ?_
  refine op_alloc (nxla rfl) ze57 rfl (fun N2 b2 B2 => ?_)
  change Blk N2 b2 _ [.int .u8 0, .int .u8 0, .int .u8 0, .int .u8 0, .int .u8 0, .int .u8 0, .int .u8 0, .int .u8 0, .int .u8 0, .int .u8 0, .int .u8 0, .int .u8 0, .int .u8 0, .int .u8 0, .int .u8 0, .int .u8 0, .int .u8 0, .int .u8 0, .int .u8 0, .int .u8 0, .int .u8 0, .int .u8 0, .int .u8 0, .int .u8 0, .int .u8 0, .int .u8 0, .int .u8 0, .int .u8 0, .int .u8 0, .int .u8 0, .int .u8 0, .int .u8 0] at B2
  refine At.opsNil ?_
  refine At.norm (hk_1 ?_)
  refine At.seq fun K2 hk_2 => ?_
  refine At.region ?_
  refine op_lit (nxla rfl) Tryz.underlying22 ze5 sz5 .nil rfl rfl (by simp [Value.cells]) rfl rfl rfl (fun N9 a9 r9 => ?_)
  simp only [flatV, List.flatMap_cons, List.flatMap_nil, Value.cells, List.append_nil, List.cons_append, List.nil_append] at r9
  have s9 := r9.rsl
  refine op_move (nxlf rfl) rfl rfl ?_
  refine op_append (nxl rfl) Tryz.underlying22 Tryz.underlying22 te5 rfl rfl r9 hb (by first | exact mem0 | exact mem1 | exact mem2 | exact mem3 | exact mem4 | exact mem5 | exact mem6 | exact mem7 | exact mem8 | exact mem9) (by first | exact one_u8s _ | exact one_u64s _ | exact one_u32s _ | (intro u hu; simp at hu; subst hu; rfl)) (by omega) (by omega) sel0 rfl (fun N11 a11 p11 r11 => ?_)
  have s11 := r11.rsl
  rw [List.nil_append] at r11
  refine op_lit (nxla rfl) Tryz.underlying22 ze5 sz5 (.cons rfl .nil) rfl rfl (by simp [Value.cells]) rfl rfl rfl (fun N12 a12 r12 => ?_)
  simp only [flatV, List.flatMap_cons, List.flatMap_nil, Value.cells, List.append_nil, List.cons_append, List.nil_append] at r12
  have s12 := r12.rsl
  change Row N12 _ 1 a12 1 1 (u8s [1]) at r12
  have s12 := r12.rsl
  refine op_append (nxl rfl) Tryz.underlying22 Tryz.underlying22 te5 rfl rfl r11 s12 (by first | exact mem0 | exact mem1 | exact mem2 | exact mem3 | exact mem4 | exact mem5 | exact mem6 | exact mem7 | exact mem8 | exact mem9) (by first | exact one_u8s _ | exact one_u64s _ | exact one_u32s _ | (intro u hu; simp at hu; subst hu; rfl)) (by omega) (by omega) sel1 rfl (fun N13 a13 p13 r13 => ?_)
  have s13 := r13.rsl
  have hX0 : refX l 0 = l ++ [1] := rfl
  have r13 : Row N13 5 1 a13 (0 + n + 1) p13 (u8s (refX l 0)) := by
    rw [hX0, u8s_ap2]
    exact r13
  refine op_assign (nxlf rfl) rfl rfl ?_
  refine At.opsNil ?_
  refine At.norm (hk_2 ?_)
  refine At.seq fun K3 hk_3 => ?_
  refine At.block ?_
  refine At.sub (L' := [N13, N2, R]) (.cons_cons _ (.cons _ (.cons_cons _ (.cons_cons _ (.slnil))))) ?_
  refine At.loop (fun fr_ hp_ ms_ => ∃ (j : Nat) (pa : Option Addr) (na ca : Nat) (Na : Heaplet), fr_ = [(2, .pointer (some ⟨b2, 0, none⟩)), (3, .slice pa na ca)] ∧ hp_ = [Na, N2, R] ∧ 136 * (n / 136 + 1) - na = ms_ ∧ (na = n + 1 + j) ∧ (n + 1 + j ≤ 136 * (n / 136 + 1)) ∧ (Row Na 5 1 pa na ca (u8s (refX l j)))) ?_ (.refl _) ⟨0, a13, 0 + n + 1, p13, N13, rfl, rfl, rfl, by omega, by omega, r13⟩ ?_
  · exact .cons (by first | exact lkI rfl (by omega) | rfl) (.cons (by first | exact lkI rfl (by omega) | rfl) .nil)
  rintro _ _ _ ⟨j, pa, na, ca, Na, rfl, rfl, rfl, hna, hj, ra⟩
  have sa := ra.rsl
  have hca := sa.cap63
  have hxl := refX_len l j
  refine At.seq fun K4 hk_4 => ?_
  refine At.seq fun K5 hk_5 => ?_
  refine At.region ?_
  refine op_move (nxlf rfl) rfl rfl ?_
  refine op_lenS (nxlf rfl) se22 rfl rfl ?_
  refine op_rem (nxlf rfl) rfl rfl (by omega) (by omega) rfl ?_
  refine op_neq (nxlf rfl) rfl rfl rfl ?_
  refine At.opsNil ?_
  refine At.norm (hk_5 ?_)
  refine At.condP rfl (fun c17 => ?_) (fun c17 => ?_)
  · refine At.skip ?_
    refine At.norm (hk_4 ?_)
    refine At.block ?_
    refine At.region ?_
    refine op_move (nxlf rfl) rfl rfl ?_
    refine op_lit (nxla rfl) Tryz.underlying22 ze5 sz5 (.cons rfl .nil) rfl rfl (by simp [Value.cells]) rfl rfl rfl (fun N19 a19 r19 => ?_)
    simp only [flatV, List.flatMap_cons, List.flatMap_nil, Value.cells, List.append_nil, List.cons_append, List.nil_append] at r19
    have s19 := r19.rsl
    change Row N19 _ 1 a19 1 1 (u8s [0]) at r19
    have s19 := r19.rsl
    refine op_append (nxl rfl) Tryz.underlying22 Tryz.underlying22 te5 rfl rfl ra s19 (by first | exact mem0 | exact mem1 | exact mem2 | exact mem3 | exact mem4 | exact mem5 | exact mem6 | exact mem7 | exact mem8 | exact mem9) (by first | exact one_u8s _ | exact one_u64s _ | exact one_u32s _ | (intro u hu; simp at hu; subst hu; rfl)) (by omega) (by omega) sel1 rfl (fun N20 a20 p20 r20 => ?_)
    have s20 := r20.rsl
    have r20 : Row N20 5 1 a20 (na + 1) p20 (u8s (refX l (j + 1))) := by
      rw [← refX_more, u8s_ap2]
      exact r20
    refine op_assign (nxlf rfl) rfl rfl ?_
    refine At.opsNil ?_
    refine At.inNorm ?_
    refine At.norm ?_
    refine At.sub (L' := [N20, N2, R]) (.cons_cons _ (.cons _ (.cons_cons _ (.cons_cons _ (.slnil))))) ?_
    refine At.back ?_ (.refl _) ⟨j + 1, a20, na + 1, p20, N20, rfl, rfl, rfl, by omega, by omega, r20⟩ ?_
    · exact .cons (by first | exact lkI rfl (by omega) | rfl) (.cons (by first | exact lkI rfl (by omega) | rfl) .nil)
    · omega
  · refine At.exit (At.thenExit (At.thenExit (At.inHit ?_)))
    refine At.norm (hk_3 ?_)
    refine At.seq fun K6 hk_6 => ?_
    refine At.region ?_
    refine op_move (nxlf rfl) rfl rfl ?_
    refine op_move (nxlf rfl) rfl rfl ?_
    refine op_lenS (nxlf rfl) se22 rfl rfl ?_
    refine op_subI (nxlf rfl) rfl rfl (by omega) (by omega) rfl ?_
    refine op_move (nxlf rfl) rfl rfl ?_
    refine op_move (nxlf rfl) rfl rfl ?_
    refine op_lenS (nxlf rfl) se22 rfl rfl ?_
    refine op_subI (nxlf rfl) rfl rfl (by omega) (by omega) rfl ?_
    refine op_idx1 (nxlf rfl) se22 rfl rfl sa (show _ = (((na - 1 : Nat)) : Int) from by omega) (by omega) rfl ?_
    refine op_loadE (nxlf rfl) sc5 rfl sa (by first | exact get8 (by omega) | exact get64 (by omega) | exact get32 (by omega)) (by first | exact mem0 | exact mem1 | exact mem2 | exact mem3 | exact mem4 | exact mem5 | exact mem6 | exact mem7 | exact mem8 | exact mem9) rfl ?_
    refine op_bits (by simp) (nxlf rfl) rfl rfl rfl ?_
    rw [or128]
    refine op_idx1 (nxlf rfl) se22 rfl rfl sa (show _ = (((na - 1 : Nat)) : Int) from by omega) (by omega) rfl ?_
    refine op_storeE (nxl rfl) sz5 rfl rfl rfl rfl rfl ra (by rw [len8s (refX_len l j), List.length_singleton]; omega) (by simp) sel0 (fun Na ra => ?_)
    have hjm : l.length + 1 + j = 136 * (n / 136 + 1) := by omega
    have hm : n / 136 = l.length / 136 := by rw [hlen]
    simp only [setL] at ra
    rw [set_u8s, show na - 1 = l.length + j by omega] at ra
    change Row Na _ 1 pa na ca (u8s (refB l j)) at ra
    have sa := ra.rsl
    refine At.opsNil ?_
    refine At.norm (hk_6 ?_)
    refine At.seq fun K7 hk_7 => ?_
    refine At.region ?_
    refine op_alloc (nxla rfl) ze90 rfl (fun N4 b4 B4 => ?_)
    change Blk N4 b4 _ [.int .u64 0, .int .u64 0, .int .u64 0, .int .u64 0, .int .u64 0, .int .u64 0, .int .u64 0, .int .u64 0, .int .u64 0, .int .u64 0, .int .u64 0, .int .u64 0, .int .u64 0, .int .u64 0, .int .u64 0, .int .u64 0, .int .u64 0, .int .u64 0, .int .u64 0, .int .u64 0, .int .u64 0, .int .u64 0, .int .u64 0, .int .u64 0, .int .u64 0] at B4
    obtain ⟨B, hB⟩ : ∃ B, refB l j = B := ⟨_, rfl⟩
    have hBl : B.length = na := by rw [← hB, refB_len]; omega
    rw [hB] at ra
    have sa := ra.rsl
    change Blk N4 b4 _ (u64s (absN B 0)) at B4
    refine At.opsNil ?_
    refine At.norm (hk_7 ?_)
    refine At.seq fun K8 hk_8 => ?_
    refine At.seq fun K9 hk_9 => ?_
    refine At.region ?_
    refine op_assign (nxlf rfl) rfl rfl ?_
    refine At.opsNil ?_
    refine At.norm (hk_9 ?_)
    refine At.block ?_
    refine At.loop (fun fr_ hp_ ms_ => ∃ (k : Nat) (N4 : Heaplet), fr_ = [(2, .pointer (some ⟨b2, 0, none⟩)), (3, .slice pa na ca), (4, .pointer (some ⟨b4, 0, none⟩)), (5, .int .i64 (136 * (k : Int)))] ∧ hp_ = [N4, Na, N2, R] ∧ n / 136 + 1 - k = ms_ ∧ (k ≤ n / 136 + 1) ∧ (Blk N4 b4 90 (u64s (absN B k)))) ?_ (.refl _) ⟨0, N4, rfl, rfl, rfl, by omega, B4⟩ ?_
    · exact .cons (by first | exact lkI rfl (by omega) | rfl) (.cons (by first | exact lkI rfl (by omega) | rfl) (.cons (by first | exact lkI rfl (by omega) | rfl) (.cons (by first | exact lkI rfl (by omega) | rfl) .nil)))
    rintro _ _ _ ⟨k, N4, rfl, rfl, rfl, hk, B4⟩
    refine At.seq fun K10 hk_10 => ?_
    refine At.seq fun K11 hk_11 => ?_
    refine At.region ?_
    refine op_move (nxlf rfl) rfl rfl ?_
    refine op_move (nxlf rfl) rfl rfl ?_
    refine op_lenS (nxlf rfl) se22 rfl rfl ?_
    refine op_lss (nxlf rfl) rfl rfl rfl ?_
    refine At.opsNil ?_
    refine At.norm (hk_11 ?_)
    refine At.condP rfl (fun c36 => ?_) (fun c36 => ?_)
    · refine At.skip ?_
      refine At.norm (hk_10 ?_)
      refine At.seq fun K12 hk_12 => ?_
      refine At.block ?_
      refine At.seq fun K13 hk_13 => ?_
      refine At.seq fun K14 hk_14 => ?_
      refine At.region ?_
      refine op_assign (nxlf rfl) rfl rfl ?_
      refine At.opsNil ?_
      refine At.norm (hk_14 ?_)
      refine At.block ?_
      obtain ⟨blk, hblk⟩ : ∃ blk, (B.drop (136 * k)).take 136 = blk := ⟨_, rfl⟩
      change Blk N4 b4 _ (u64s (abI (absN B k) blk 0)) at B4
      have hNl := absN_len B k
      refine At.loop (fun fr_ hp_ ms_ => ∃ (i : Nat) (N4 : Heaplet), fr_ = [(2, .pointer (some ⟨b2, 0, none⟩)), (3, .slice pa na ca), (4, .pointer (some ⟨b4, 0, none⟩)), (5, .int .i64 (136 * (k : Int))), (6, .int .i64 (i : Int))] ∧ hp_ = [N4, Na, N2, R] ∧ 136 - i = ms_ ∧ (i ≤ 136) ∧ (Blk N4 b4 90 (u64s (abI (absN B k) blk i)))) ?_ (.refl _) ⟨0, N4, rfl, rfl, rfl, by omega, B4⟩ ?_
      · exact .cons (by first | exact lkI rfl (by omega) | rfl) (.cons (by first | exact lkI rfl (by omega) | rfl) (.cons (by first | exact lkI rfl (by omega) | rfl) (.cons (by first | exact lkI rfl (by omega) | rfl) (.cons (by first | exact lkI rfl (by omega) | rfl) .nil))))
      rintro _ _ _ ⟨i, N4, rfl, rfl, rfl, hi, B4⟩
      have hil := (abI_len (absN B k) blk i).trans hNl
      refine At.seq fun K15 hk_15 => ?_
      refine At.seq fun K16 hk_16 => ?_
      refine At.region ?_
      refine op_move (nxlf rfl) rfl rfl ?_
      refine op_lss (nxlf rfl) rfl rfl rfl ?_
      refine At.opsNil ?_
      refine At.norm (hk_16 ?_)
      refine At.condP rfl (fun c40 => ?_) (fun c40 => ?_)
      · refine At.skip ?_
        refine At.norm (hk_15 ?_)
        refine At.seq fun K17 hk_17 => ?_
        refine At.block ?_
        refine At.drawn [19] [0,1,2,3,4,5,6,7,8,9,10,11,12,13,14,15,16,17,18,19] (by kernel_rfl) (by kernel_rfl) ?_
        refine op_move (nxof rfl rfl rfl (by kernel_rfl)) rfl rfl ?_
        refine op_quoI (nxof rfl rfl rfl (by kernel_rfl)) rfl rfl (by omega) (by omega) (by omega) rfl ?_
        refine op_move (nxof rfl rfl rfl (by kernel_rfl)) rfl rfl ?_
        refine op_quoI (nxof rfl rfl rfl (by kernel_rfl)) rfl rfl (by omega) (by omega) (by omega) rfl ?_
        refine op_idxA (nxof rfl rfl rfl (by kernel_rfl)) ae90 rfl rfl (show _ = (((i / 8 : Nat)) : Int) from by omega) (by omega) rfl ?_
        -- an operation that writes, not last
        refine op_loadB (nxof rfl rfl rfl (by kernel_rfl)) sc23 rfl B4 (get64A (by omega)) (by first | exact mem0 | exact mem1 | exact mem2) rfl ?_
        refine op_move (nxof rfl rfl rfl (by kernel_rfl)) rfl rfl ?_
        refine op_move (nxof rfl rfl rfl (by kernel_rfl)) rfl rfl ?_
        refine op_move (nxof rfl rfl rfl (by kernel_rfl)) rfl rfl ?_
        refine op_addI (nxof rfl rfl rfl (by kernel_rfl)) rfl rfl (by omega) (by omega) rfl ?_
        refine op_idx1 (nxof rfl rfl rfl (by kernel_rfl)) se22 rfl rfl sa (show _ = (((136 * k + i : Nat)) : Int) from by omega) (by omega) rfl ?_
        refine op_loadE (nxof rfl rfl rfl (by kernel_rfl)) sc5 rfl sa (by first | exact get8 (by omega) | exact get64 (by omega) | exact get32 (by omega)) (by first | exact mem0 | exact mem1 | exact mem2 | exact mem3 | exact mem4 | exact mem5 | exact mem6 | exact mem7 | exact mem8 | exact mem9) rfl ?_
        rw [← blk_at (B := B) (k := k) (i := i) (by omega), hblk]
        refine op_conv64 (nxof rfl rfl rfl (by kernel_rfl)) (und_some Tryz.underlying5) Tryz.underlying23 rfl (show _ = ((((blk.getD i 0).toNat : Nat)) : Int) from by omega) rfl ?_
        refine op_move (nxof rfl rfl rfl (by kernel_rfl)) rfl rfl ?_
        refine op_rem (nxof rfl rfl rfl (by kernel_rfl)) rfl rfl (by omega) (by omega) rfl ?_
        refine op_mulI (nxof rfl rfl rfl (by kernel_rfl)) rfl rfl (by omega) (by omega) rfl ?_
        refine op_shlU (nxof rfl rfl rfl (by kernel_rfl)) rfl rfl (show _ = (((i % 8 * 8 : Nat)) : Int) from by omega) rfl ?_
        refine op_xorU (nxof rfl rfl rfl (by kernel_rfl)) rfl rfl rfl ?_
        refine op_idxA (nxof rfl rfl rfl (by kernel_rfl)) ae90 rfl rfl (show _ = (((i / 8 : Nat)) : Int) from by omega) (by omega) rfl ?_
        refine op_store (nxos rfl rfl rfl rfl) sz23 rfl rfl rfl rfl rfl B4 (by simp <;> omega) sel0 (fun N4 B4 => ?_)
        rw [set64A] at B4
        refine At.oneNil ?_
        refine At.inNorm ?_
        refine At.norm (hk_17 ?_)
        refine At.region ?_
        refine op_move (nxlf rfl) rfl rfl ?_
        refine op_addI (nxlf rfl) rfl rfl (by omega) (by omega) rfl ?_
        refine op_assign (nxlf rfl) rfl rfl ?_
        refine At.opsNil ?_
        refine At.norm ?_
        refine At.back ?_ (.refl _) ⟨i + 1, N4, rfl, rfl, rfl, by omega, B4⟩ ?_
        · exact .cons (by first | exact lkI rfl (by omega) | rfl) (.cons (by first | exact lkI rfl (by omega) | rfl) (.cons (by first | exact lkI rfl (by omega) | rfl) (.cons (by first | exact lkI rfl (by omega) | rfl) (.cons (by first | exact lkI rfl (by omega) | rfl) .nil))))
        · omega
      · refine At.exit (At.thenExit (At.thenExit (At.inHit ?_)))
        refine At.norm (hk_13 ?_)
        refine At.region ?_
        obtain rfl : i = 136 := by omega
        obtain ⟨A, hA⟩ : ∃ A, abI (absN B k) blk 136 = A := ⟨_, rfl⟩
        rw [hA] at B4 hil
        have hpl := (prm_len A 24).trans hil
        have hnx : absN B (k + 1) = prm A 24 := by rw [absN, absorb, hblk, hA]
        refine op_loadAggB (ds := u64s A) (nxlf rfl) ag90 rfl B4 (all_take (len64s hil)) (len64s hil) (by first | exact mem0 | exact mem1 | exact mem2) rfl ?_
        refine op_callA (nxla rfl) (.cons rfl .nil) (rPermute_f hil) Tryz.func56 rfl rfl (by simp) rfl ?_
        rintro v63 L63 ⟨rfl, rfl⟩
        change At _ _ _ [N4, Na, N2, R] _
        refine op_store (nxl rfl) sz90 rfl rfl rfl (len64s hpl) (all64 _) B4 (by rw [len64s hpl, len64s hil]; simp) sel0 (fun N4 B4 => ?_)
        rw [setL_whole (by rw [len64s hpl, len64s hil]), ← hnx] at B4
        refine At.opsNil ?_
        refine At.inNorm ?_
        refine At.norm (hk_12 ?_)
        refine At.region ?_
        refine op_move (nxlf rfl) rfl rfl ?_
        refine op_addI (nxlf rfl) rfl rfl (by omega) (by omega) rfl ?_
        refine op_assign (nxlf rfl) rfl rfl ?_
        refine At.opsNil ?_
        refine At.norm ?_
        refine At.back ?_ (.refl _) ⟨k + 1, N4, rfl, rfl, rfl, by omega, B4⟩ ?_
        · exact .cons (by first | exact lkI rfl (by omega) | rfl) (.cons (by first | exact lkI rfl (by omega) | rfl) (.cons (by first | exact lkI rfl (by omega) | rfl) (.cons (by first | exact lkI rfl (by omega) | rfl) .nil)))
        · omega
    · refine At.exit (At.thenExit (At.thenExit (At.inHit ?_)))
      refine At.norm (hk_8 ?_)
      refine At.seq fun K18 hk_18 => ?_
      refine At.region ?_
      refine op_alloc (nxla rfl) ze57 rfl (fun N7 b7 B7 => ?_)
      change Blk N7 b7 _ [.int .u8 0, .int .u8 0, .int .u8 0, .int .u8 0, .int .u8 0, .int .u8 0, .int .u8 0, .int .u8 0, .int .u8 0, .int .u8 0, .int .u8 0, .int .u8 0, .int .u8 0, .int .u8 0, .int .u8 0, .int .u8 0, .int .u8 0, .int .u8 0, .int .u8 0, .int .u8 0, .int .u8 0, .int .u8 0, .int .u8 0, .int .u8 0, .int .u8 0, .int .u8 0, .int .u8 0, .int .u8 0, .int .u8 0, .int .u8 0, .int .u8 0, .int .u8 0] at B7
      have hkm : k = n / 136 + 1 := by omega
      obtain ⟨A, hA⟩ : ∃ A, absN B k = A := ⟨_, rfl⟩
      have hAl : A.length = 25 := by rw [← hA]; exact absN_len B k
      have hfin : ouI A 32 = kec l := by rw [← hA, hkm, ← hB, ref_abs hm hjm]
      rw [hA] at B4
      change Blk N7 b7 _ (u8s (ouI A 0)) at B7
      refine At.opsNil ?_
      refine At.norm (hk_18 ?_)
      refine At.seq fun K19 hk_19 => ?_
      refine At.seq fun K20 hk_20 => ?_
      refine At.region ?_
      refine op_assign (nxlf rfl) rfl rfl ?_
      refine At.opsNil ?_
      refine At.norm (hk_20 ?_)
      refine At.block ?_
      refine At.sub (L' := [N7, N4, N2, R]) (.cons_cons _ (.cons_cons _ (.cons _ (.cons_cons _ (.cons_cons _ (.slnil)))))) ?_
      refine At.loop (fun fr_ hp_ ms_ => ∃ (i : Nat) (N7 : Heaplet), fr_ = [(2, .pointer (some ⟨b2, 0, none⟩)), (4, .pointer (some ⟨b4, 0, none⟩)), (7, .pointer (some ⟨b7, 0, none⟩)), (8, .int .i64 (i : Int))] ∧ hp_ = [N7, N4, N2, R] ∧ 32 - i = ms_ ∧ (i ≤ 32) ∧ (Blk N7 b7 57 (u8s (ouI A i)))) ?_ (.refl _) ⟨0, N7, rfl, rfl, rfl, by omega, B7⟩ ?_
      · exact .cons (by first | exact lkI rfl (by omega) | rfl) (.cons (by first | exact lkI rfl (by omega) | rfl) (.cons (by first | exact lkI rfl (by omega) | rfl) (.cons (by first | exact lkI rfl (by omega) | rfl) .nil)))
      rintro _ _ _ ⟨i, N7, rfl, rfl, rfl, hi, B7⟩
      have hol := ouI_len A i
      refine At.seq fun K21 hk_21 => ?_
      refine At.seq fun K22 hk_22 => ?_
      refine At.region ?_
      refine op_move (nxlf rfl) rfl rfl ?_
      refine op_lss (nxlf rfl) rfl rfl rfl ?_
      refine At.opsNil ?_
      refine At.norm (hk_22 ?_)
      refine At.condP rfl (fun c65 => ?_) (fun c65 => ?_)
      · refine At.skip ?_
        refine At.norm (hk_21 ?_)
        refine At.seq fun K23 hk_23 => ?_
        refine At.block ?_
        refine At.region ?_
        refine op_move (nxlf rfl) rfl rfl ?_
        refine op_move (nxlf rfl) rfl rfl ?_
        refine op_quoI (nxlf rfl) rfl rfl (by omega) (by omega) (by omega) rfl ?_
        refine op_idxA (nxlf rfl) ae90 rfl rfl (show _ = (((i / 8 : Nat)) : Int) from by omega) (by omega) rfl ?_
        refine op_loadB (nxlf rfl) sc23 rfl B4 (get64A (by omega)) (by first | exact mem0 | exact mem1 | exact mem2) rfl ?_
        refine op_move (nxlf rfl) rfl rfl ?_
        refine op_rem (nxlf rfl) rfl rfl (by omega) (by omega) rfl ?_
        refine op_mulI (nxlf rfl) rfl rfl (by omega) (by omega) rfl ?_
        refine op_shrU (nxlf rfl) rfl rfl (show _ = (((i % 8 * 8 : Nat)) : Int) from by omega) rfl ?_
        refine op_conv8 (nxlf rfl) (und_some Tryz.underlying23) Tryz.underlying5 rfl (show _ = ((((shr64 (A.getD (i / 8) 0) (i % 8 * 8)).toNat : Nat)) : Int) from by omega) rfl ?_
        refine op_idxA (nxlf rfl) ae57 rfl rfl (show _ = (((i : Nat)) : Int) from by omega) (by omega) rfl ?_
        refine op_store (nxl rfl) sz5 rfl rfl rfl rfl rfl B7 (by simp <;> omega) sel0 (fun N7 B7 => ?_)
        rw [set8A] at B7
        refine At.opsNil ?_
        refine At.inNorm ?_
        refine At.norm (hk_23 ?_)
        refine At.region ?_
        refine op_move (nxlf rfl) rfl rfl ?_
        refine op_addI (nxlf rfl) rfl rfl (by omega) (by omega) rfl ?_
        refine op_assign (nxlf rfl) rfl rfl ?_
        refine At.opsNil ?_
        refine At.norm ?_
        refine At.back ?_ (.refl _) ⟨i + 1, N7, rfl, rfl, rfl, by omega, B7⟩ ?_
        · exact .cons (by first | exact lkI rfl (by omega) | rfl) (.cons (by first | exact lkI rfl (by omega) | rfl) (.cons (by first | exact lkI rfl (by omega) | rfl) (.cons (by first | exact lkI rfl (by omega) | rfl) .nil)))
        · omega
      · refine At.exit (At.thenExit (At.thenExit (At.inHit ?_)))
        refine At.norm (hk_19 ?_)
        refine At.seq fun K24 hk_24 => ?_
        refine At.region ?_
        obtain rfl : i = 32 := by omega
        rw [hfin] at B7 hol
        refine op_loadAggB (ds := u8s (kec l)) (nxlf rfl) ag57 rfl B7 (all_take (len8s hol)) (len8s hol) (by first | exact mem0 | exact mem1 | exact mem2) rfl ?_
        refine op_store (nxl rfl) sz57 rfl rfl rfl (len8s hol) (all8 _) B2 (by rw [len8s hol]; simp) sel2 (fun N2 B2 => ?_)
        rw [setL_whole (by rw [len8s hol]; simp)] at B2
        refine At.opsNil ?_
        refine At.norm (hk_24 ?_)
        refine At.ret (?_)
        refine At.sub (L' := [N2, R]) (.cons_cons _ (.cons _ (.cons _ (.cons_cons _ (.slnil))))) ?_
        refine At.ret1 (L1 := []) rfl (.cell rfl (res_agg (ds := u8s (kec l)) ag57 B2 (all_take (len8s hol)) (len8s hol) mem0) .nil) (.cons _ (.refl _)) (.refl _) ?_
        exact ⟨rfl, rfl⟩
end Go.Proofs.YtnpcaplgkmlmoaaGreatDoor
/- quarryref04: Quantity, Decimal, Mixed. No condition. -/
namespace Go.Proofs.YtnpcaplgkmlmoaaGreatDoor
set_option linter.unusedVariables false
set_option linter.unusedSimpArgs false
open Go Go.RowKit
theorem hexB_zero {x : UInt8} (h : x.toNat ≠ 0) : ∃ t, dropB 48 (hexB x) = t ∧ 0 < t.length ∧ t = if (hexD.getD (x.toNat / 16) 0) = 48 then [hexD.getD (x.toNat % 16) 0] else hexB x := by
  have key : ∀ n, n < 256 → n ≠ 0 → dropB 48 [hexD.getD (n / 16) 0, hexD.getD (n % 16) 0] = (if hexD.getD (n / 16) 0 = 48 then [hexD.getD (n % 16) 0] else [hexD.getD (n / 16) 0, hexD.getD (n % 16) 0]) := by decide +kernel
  refine ⟨_, rfl, ?_, key x.toNat x.toNat_lt h⟩
  rw [show dropB 48 (hexB x) = _ from key x.toNat x.toNat_lt h]
  split <;> simp
theorem dropB_app {c : UInt8} {a b : List UInt8} (h : 0 < (dropB c a).length) : dropB c (a ++ b) = dropB c a ++ b := by
  induction a with
  | nil => exact absurd h (Nat.lt_irrefl 0)
  | cons x t ih =>
    unfold dropB at h ih ⊢
    rw [List.cons_append, List.dropWhile_cons, List.dropWhile_cons]
    split
    · rename_i hx
      rw [List.dropWhile_cons, if_pos hx] at h
      exact ih h
    · rfl
theorem bytesOf_nez {n : Nat} (h : n ≠ 0) : ∃ x t, bytesOf n = x :: t ∧ x.toNat ≠ 0 := by
  have h1 := head_bytesOf n
  cases hb : bytesOf n with
  | nil =>
    have e := be_bytesOf n
    rw [hb, be_nil] at e
    exact absurd e.symm h
  | cons x t =>
    rw [hb] at h1
    exact ⟨x, t, rfl, fun e => h1 (by simp only [List.head?_cons, Option.some.injEq]; rw [← UInt8.toNat_inj]; exact e)⟩
/-- The first item of head, payload and rest. -/
theorem quant_ne {n : Nat} (h : n ≠ 0) : hexL (bytesOf n) ≠ [] ∧ quantT n = 48 :: 120 :: (if ((hexL (bytesOf n)).getD 0 0).toNat = 48 then (hexL (bytesOf n)).drop 1 else hexL (bytesOf n)) := by
  obtain ⟨x, t, e, hx⟩ := bytesOf_nez h
  obtain ⟨d, hd, h0, hdd⟩ := hexB_zero hx
  have el : hexL (bytesOf n) = hexB x ++ hexL t := by rw [e]; rfl
  have ed : dropB 48 (hexL (bytesOf n)) = d ++ hexL t := by rw [el, dropB_app (by rw [hd]; exact h0), hd]
  have hne : dropB 48 (hexL (bytesOf n)) ≠ [] := by
    rw [ed]; intro e0
    have := congrArg List.length e0
    rw [List.length_append, List.length_nil] at this
    omega
  refine ⟨by rw [el]; simp [hexB], ?_⟩
  rw [quantT, if_neg hne, ed, hdd, el]
  have e48 : ((hexB x ++ hexL t).getD 0 0).toNat = 48 ↔ hexD.getD (x.toNat / 16) 0 = 48 := by
    show (hexD.getD (x.toNat / 16) 0).toNat = (48 : UInt8).toNat ↔ _
    exact UInt8.toNat_inj
  by_cases h48 : hexD.getD (x.toNat / 16) 0 = 48
  · rw [if_pos h48, if_pos (e48.2 h48)]; rfl
  · rw [if_neg h48, if_neg (fun e => h48 (e48.1 e))]
theorem quant_0 : hexL (bytesOf 0) = [] ∧ quantT 0 = [48, 120, 48] := by
  rw [bytesOf_zero]; exact ⟨rfl, by rw [quantT, bytesOf_zero]; rfl⟩
theorem rQuant_f {x : Nat} (hx : x < WW) : Fn Tryz.prog 8 #[wo x] [] [] (fun v L => v = str (quantT x) ∧ L = []) := by
  have hb : (bytesOf x).length ≤ 32 := by
    rw [length_bytesOf]
    have := bitLen_le.2 hx
    omega
  have hq : x ≠ 0 → _ := fun h => quant_ne h
  have hl := hexL_len (bytesOf x)
  obtain ⟨t, ht⟩ : ∃ t, hexL (bytesOf x) = t := ⟨_, rfl⟩
  rw [ht] at hl
  have hz : t = [] → quantT x = [48, 120, 48] := fun h0 => by
    rcases Nat.eq_zero_or_pos x with h | h
    · rw [h]; exact quant_0.2
    · exact absurd (ht.trans h0) (quant_ne (by omega)).1
  have hnz : t ≠ [] → quantT x = 48 :: 120 :: (if (t.getD 0 0).toNat = 48 then t.drop 1 else t) := fun h0 => by
    rcases Nat.eq_zero_or_pos x with h | h
    · subst h; exact absurd (ht.symm.trans quant_0.1) h0
    · rw [← ht]; exact (quant_ne (by omega)).2
  refine Fn.enter (vs := [wo x]) Tryz.func8 rfl rfl rfl ?_
  intro E R hR
  change At _ _ E [R] _
  refine At.seq fun K1 hk_1 => ?_
  refine At.region ?_
  refine op_box (nxla rfl) rfl rfl rfl (fun N1 b1 B1 => ?_)
  change Blk N1 b1 _ (u64s (wl x)) at B1
  refine op_assign (nxlf rfl) rfl rfl ?_
  refine At.opsNil ?_
  refine At.norm (hk_1 ?_)
  refine At.seq fun K2 hk_2 => ?_
  refine At.region ?_
  refine op_loadAggB (ds := u64s (wl x)) (nxlf rfl) ag25 rfl B1 (by first | (rw [List.drop_zero, List.take_of_length_le (by first | (simp; done) | (simp; omega))]; done) | rfl) (by first | (simp; done) | (simp; omega)) mem0 rfl ?_
  refine op_callA (nxla rfl) (.cons rfl .nil) (rShort_w hx) Tryz.func21 rfl rfl (by simp) rfl ?_
  rintro v5 L5 ⟨N5, a5, c5, rfl, rfl, r5⟩
  change At _ _ _ [N5, N1, R] _
  refine op_callA (nxla rfl) (.cons rfl .nil) (rHexes_f r5.rsl (by omega)) Tryz.func17 rfl rfl (by simp) rfl ?_
  rintro v6 L6 ⟨rfl, rfl⟩
  change At _ _ _ [N5, N1, R] _
  rw [ht]
  refine op_assign (nxlf rfl) rfl rfl ?_
  refine At.opsNil ?_
  refine At.norm (hk_2 ?_)
  refine At.seq fun K3 hk_3 => ?_
  refine At.seq fun K4 hk_4 => ?_
  refine At.region ?_
  refine op_move (nxlf rfl) rfl rfl ?_
  refine op_eqS (b := []) (nxlf rfl) rfl rfl rfl ?_
  refine At.opsNil ?_
  refine At.norm (hk_4 ?_)
  refine At.condP rfl (fun c8 => ?_) (fun c8 => ?_)
  · refine At.seq fun K5 hk_5 => ?_
    refine At.region ?_
    refine op_assign (nxlf rfl) rfl rfl ?_
    refine At.opsNil ?_
    refine At.norm (hk_5 ?_)
    refine At.ret (At.thenRet (?_))
    refine At.sub (L' := [R]) (.cons _ (.cons _ (.cons_cons _ (.slnil)))) ?_
    refine At.ret1 (L1 := []) rfl (.tmp rfl .nil) (.refl _) (.refl _) ?_
    exact ⟨by rw [hz c8]; rfl, rfl⟩
  · have hpos : 0 < t.length := List.length_pos_iff.2 c8
    have hnt := hnz c8
    refine At.skip ?_
    refine At.norm (hk_3 ?_)
    refine At.seq fun K6 hk_6 => ?_
    refine At.seq fun K7 hk_7 => ?_
    refine At.region ?_
    refine op_move (nxlf rfl) rfl rfl ?_
    refine op_idxS (nxlf rfl) Tryz.underlying9 rfl rfl (show _ = (((0 : Nat)) : Int) from by omega) (by omega) rfl ?_
    refine op_eql (nxlf rfl) rfl rfl rfl ?_
    refine At.opsNil ?_
    refine At.norm (hk_7 ?_)
    refine At.condP rfl (fun c11 => ?_) (fun c11 => ?_)
    · rw [if_pos (by omega)] at hnt
      refine At.region ?_
      refine op_move (nxlf rfl) rfl rfl ?_
      refine op_sliceStr (nxlf rfl) Tryz.underlying9 rfl (.some rfl (show _ = (((1 : Nat)) : Int) from by omega)) .none .none (by omega) (by omega) (by omega) (by simp) rfl ?_
      rw [show (t.drop 1).take (t.length - 1) = t.drop 1 from List.take_of_length_le (by rw [List.length_drop]; exact Nat.le_refl _)]
      refine op_assign (nxlf rfl) rfl rfl ?_
      refine At.opsNil ?_
      refine At.norm (hk_6 ?_)
      refine At.seq fun K8 hk_8 => ?_
      refine At.region ?_
      refine op_move (nxlf rfl) rfl rfl ?_
      refine op_addS (a := [48, 120]) (nxlf rfl) rfl rfl (by first | (simp; done) | (simp; omega)) rfl ?_
      refine op_assign (nxlf rfl) rfl rfl ?_
      refine At.opsNil ?_
      refine At.norm (hk_8 ?_)
      refine At.ret (?_)
      refine At.sub (L' := [R]) (.cons _ (.cons _ (.cons_cons _ (.slnil)))) ?_
      refine At.ret1 (L1 := []) rfl (.tmp rfl .nil) (.refl _) (.refl _) ?_
      exact ⟨by rw [hnt]; rfl, rfl⟩
    · rw [if_neg (by omega)] at hnt
      refine At.skip ?_
      refine At.norm (hk_6 ?_)
      refine At.seq fun K9 hk_9 => ?_
      refine At.region ?_
      refine op_move (nxlf rfl) rfl rfl ?_
      refine op_addS (a := [48, 120]) (nxlf rfl) rfl rfl (by first | (simp; done) | (simp; omega)) rfl ?_
      refine op_assign (nxlf rfl) rfl rfl ?_
      refine At.opsNil ?_
      refine At.norm (hk_9 ?_)
      refine At.ret (?_)
      refine At.sub (L' := [R]) (.cons _ (.cons _ (.cons_cons _ (.slnil)))) ?_
      refine At.ret1 (L1 := []) rfl (.tmp rfl .nil) (.refl _) (.refl _) ?_
      exact ⟨by rw [hnt]; rfl, rfl⟩
theorem digs_one : ∀ r, r < 10 → digsOf r = (if r = 0 then [] else [UInt32.ofNat r]) := by decide +kernel
theorem wrap48a : ∀ r : Nat, r < 10 → IntKind.u8.wrap (48 + (r : Int)) = ((UInt8.ofNat (48 + r)).toNat : Int) := by decide +kernel
theorem digs_pos {X : Nat} (h : 0 < (digsOf X).length) : X ≠ 0 := fun e => by subst e; exact absurd h (by decide)
theorem digs_nil {X : Nat} (h : ¬ 0 < (digsOf X).length) : X = 0 := by
  have e : digsOf X = [] := List.eq_nil_of_length_eq_zero (by omega)
  rw [← v32_digsOf X, e]; rfl
theorem dec_meas {X : Nat} {acc : List UInt8} {u : UInt8} (h : X ≠ 0 ∨ acc = []) : X / 10 + (if u :: acc = [] then 1 else 0) < X + (if acc = [] then 1 else 0) := by
  rw [if_neg (by simp)]
  have := Nat.div_le_self X 10
  rcases Nat.eq_zero_or_pos X with h0 | h0
  · rw [if_pos (h.resolve_left (by omega))]; omega
  · have := Nat.div_lt_self h0 (by decide : 1 < 10)
    omega
set_option maxRecDepth 100000 in
set_option maxHeartbeats 2000000 in
theorem rDecimal_f {x : Nat} (hx : x < WW) : Fn Tryz.prog 10 #[wo x] [] [] (fun v L => v = str (Lib.decDigits x) ∧ L = []) := by
  have hwl := dec_word hx
  have hdw : ∀ X, X < WW → (digsOf X).length ≤ 8 := fun X h => dig_w h
  refine Fn.enter (vs := [wo x]) Tryz.func10 rfl rfl rfl ?_
  intro E R hR
  change At _ _ E [R] _
  refine At.seq fun K1 hk_1 => ?_
  refine At.region ?_
  refine op_box (nxla rfl) rfl rfl rfl (fun N1 b1 B1 => ?_)
  change Blk N1 b1 _ (u64s (wl x)) at B1
  refine op_assign (nxlf rfl) rfl rfl ?_
  refine At.opsNil ?_
  refine At.norm (hk_1 ?_)
  refine At.seq fun K2 hk_2 => ?_
  refine At.region ?_
  refine op_loadAggB (ds := u64s (wl x)) (nxlf rfl) ag25 rfl B1 (by first | (rw [List.drop_zero, List.take_of_length_le (by first | (simp; done) | (simp; omega))]; done) | rfl) (by first | (simp; done) | (simp; omega)) mem0 rfl ?_
  refine op_callA (nxla rfl) (.cons rfl .nil) (rN_w hx) Tryz.func26 rfl rfl (by simp) rfl ?_
  rintro v9 L9 ⟨N9, a9, c9, rfl, rfl, s9⟩
  change At _ _ _ [N9, N1, R] _
  refine op_assign (nxlf rfl) rfl rfl ?_
  refine At.opsNil ?_
  refine At.norm (hk_2 ?_)
  refine At.seq fun K3 hk_3 => ?_
  refine At.region ?_
  refine op_assign (nxlf rfl) rfl rfl ?_
  refine At.opsNil ?_
  refine At.norm (hk_3 ?_)
  refine At.seq fun K4 hk_4 => ?_
  refine At.block ?_
  refine At.sub (L' := [N9, R]) (.cons_cons _ (.cons _ (.cons_cons _ (.slnil)))) ?_
  refine At.loop (fun fr_ hp_ ms_ => ∃ (X : Nat) (acc : List UInt8) (a : Option Addr) (c : Nat) (Na : Heaplet), fr_ = [(3, .slice a (digsOf X).length c), (4, str acc)] ∧ hp_ = [Na, R] ∧ X + (if acc = [] then 1 else 0) = ms_ ∧ (X < WW) ∧ ((if X = 0 ∧ acc ≠ [] then acc else Lib.decDigits X ++ acc) = Lib.decDigits x) ∧ (RSl Na 1 a (digsOf X).length c (u32s (digsOf X)))) ?_ (.refl _) ⟨x, [], a9, c9, N9, rfl, rfl, rfl, hx, by rw [if_neg (fun h => h.2 rfl), List.append_nil], s9⟩ ?_
  · exact .cons (by first | exact lkI rfl (by omega) | rfl) (.cons (by first | exact lkI rfl (by omega) | rfl) .nil)
  rintro _ _ _ ⟨X, acc, a, c, Na, rfl, rfl, rfl, hX, hd, sa⟩
  refine At.seq fun K5 hk_5 => ?_
  refine At.meet (fun fr_ hp_ => fr_ = [(3, .slice a (digsOf X).length c), (4, str acc)] ∧ hp_ = [Na, R] ∧ (X ≠ 0 ∨ acc = [])) ?_ (fun K5_ jk_5 => ?_)
  rotate_left
  · skip
    refine At.seq fun K6 hk_6 => ?_
    refine At.region ?_
    refine op_move (nxlf rfl) rfl rfl ?_
    refine op_lenS (nxlf rfl) se51 rfl rfl ?_
    refine op_gtr (nxlf rfl) rfl rfl rfl ?_
    refine op_move (nxlf rfl) rfl rfl ?_
    refine At.partP (d := 13) rfl (fun g13 => ?_) (fun g13 => ?_)
    · refine op_skip rfl rfl rfl rfl rfl rfl rfl ?_
      refine op_skip rfl rfl rfl rfl rfl rfl rfl ?_
      refine op_pickT (nxlf rfl) rfl rfl rfl ?_
      refine At.opsNil ?_
      refine At.norm (hk_6 ?_)
      refine At.condT rfl ?_
      refine At.skip ?_
      refine At.norm (jk_5 ?_ (.refl _) ⟨rfl, rfl, .inl (digs_pos (by omega))⟩)
      exact .cons (by first | exact lkI rfl (by omega) | rfl) (.cons (by first | exact lkI rfl (by omega) | rfl) .nil)
    · have hX0 := digs_nil (X := X) (by omega)
      refine op_move (nxgf rfl rfl rfl rfl) rfl rfl ?_
      refine op_eqS (b := []) (nxgf rfl rfl rfl rfl) rfl rfl rfl ?_
      refine op_pickF (nxlf rfl) rfl rfl rfl ?_
      refine At.opsNil ?_
      refine At.norm (hk_6 ?_)
      refine At.condP rfl (fun c16 => ?_) (fun c16 => ?_)
      · refine At.skip ?_
        refine At.norm (jk_5 ?_ (.refl _) ⟨rfl, rfl, .inr c16⟩)
        exact .cons (by first | exact lkI rfl (by omega) | rfl) (.cons (by first | exact lkI rfl (by omega) | rfl) .nil)
      · rw [if_pos ⟨hX0, c16⟩] at hd
        refine At.exit (At.thenExit (At.thenExit (At.inHit ?_)))
        refine At.norm (hk_4 ?_)
        refine At.seq fun K7 hk_7 => ?_
        refine At.region ?_
        refine op_move (nxlf rfl) rfl rfl ?_
        refine op_assign (nxlf rfl) rfl rfl ?_
        refine At.opsNil ?_
        refine At.norm (hk_7 ?_)
        refine At.ret (?_)
        refine At.sub (L' := [R]) (.cons _ (.cons_cons _ (.slnil))) ?_
        refine At.ret1 (L1 := []) rfl (.tmp rfl .nil) (.refl _) (.refl _) ?_
        exact ⟨by rw [hd], rfl⟩
  rintro _ _ ⟨rfl, rfl, hacc⟩
  refine hk_5 ?_
  refine At.block ?_
  refine At.seq fun K8 hk_8 => ?_
  refine At.region ?_
  refine op_move (nxlf rfl) rfl rfl ?_
  have hdX := hdw X hX
  have hnn : ¬ (X = 0 ∧ acc ≠ []) := fun h => by rcases hacc with hp | hp; exact hp h.1; exact h.2 hp
  rw [if_neg hnn] at hd
  have hal : acc.length ≤ 78 := by
    have := congrArg List.length hd
    rw [List.length_append] at this
    omega
  have hdn : (if X / 10 = 0 ∧ UInt8.ofNat (48 + X % 10) :: acc ≠ [] then UInt8.ofNat (48 + X % 10) :: acc else Lib.decDigits (X / 10) ++ UInt8.ofNat (48 + X % 10) :: acc) = Lib.decDigits x := by
    rw [← hd]
    by_cases h10 : X < 10
    · rw [if_pos ⟨by omega, by simp⟩, dec_small h10]; rfl
    · rw [if_neg (fun h => by omega), dec_step h10, List.append_assoc]; rfl
  have hr10 := digs_one (X % 10) (by omega)
  refine op_callA (nxla rfl) (.cons rfl .nil) (Of32_f 10) Tryz.func28 rfl rfl (by simp) rfl ?_
  rintro v19 L19 ⟨N19, a19, c19, rfl, rfl, s19⟩
  change At _ _ _ [N19, Na, R] _
  rw [show (10 : UInt64).toNat = 10 from rfl] at s19 ⊢
  refine op_callA (nxla rfl) (.cons rfl (.cons rfl .nil)) (rDivMod_f (A := X) (B := 10) sa s19 (by omega) (by decide) (by decide)) Tryz.func27 rfl rfl (by simp) rfl ?_
  rintro v20 L20 ⟨Mq, aq, cq, Mr, ar, cr, rfl, rfl, sq, sr⟩
  change At _ _ _ [Mq, Mr, N19, Na, R] _
  refine op_move (nxlf rfl) rfl rfl ?_
  refine op_extract (nxlf rfl) rfl rfl rfl ?_
  refine op_extract (nxlf rfl) rfl rfl rfl ?_
  refine op_assign (nxlf rfl) rfl rfl ?_
  refine op_assign (nxlf rfl) rfl rfl ?_
  refine At.opsNil ?_
  refine At.norm (hk_8 ?_)
  refine At.seq fun K9 hk_9 => ?_
  refine At.region ?_
  refine op_assign (nxlf rfl) rfl rfl ?_
  refine At.opsNil ?_
  refine At.norm (hk_9 ?_)
  refine At.seq fun K10 hk_10 => ?_
  refine At.meet (fun fr_ hp_ => fr_ = [(4, str acc), (5, .slice aq (digsOf (X / 10)).length cq), (7, .int .u8 ((X % 10 : Nat) : Int))] ∧ hp_ = [Mq, R] ∧ (True)) ?_ (fun K10_ jk_10 => ?_)
  rotate_left
  · skip
    refine At.seq fun K11 hk_11 => ?_
    refine At.region ?_
    refine op_move (nxlf rfl) rfl rfl ?_
    refine op_lenS (nxlf rfl) se51 rfl rfl ?_
    refine op_gtr (nxlf rfl) rfl rfl rfl ?_
    refine At.opsNil ?_
    refine At.norm (hk_11 ?_)
    refine At.condP rfl (fun c25 => ?_) (fun c25 => ?_)
    · refine At.region ?_
      refine op_move (nxlf rfl) rfl rfl ?_
      refine At.perm sel4 ?_
      refine At.perm sel3 ?_
      refine At.perm sel2 ?_
      refine At.perm sel4 ?_
      refine At.perm sel4 ?_
      refine At.mergeN (fun J J1 J2 => ?_)
      have sr := sr.elim (fun h => h.le J1) (fun h => h.le J2)
      have hne : X % 10 ≠ 0 := digs_pos (by omega)
      rw [if_neg hne] at hr10
      refine op_idx1 (nxlf rfl) se51 rfl rfl sr (show _ = (((0 : Nat)) : Int) from by omega) (by omega) rfl ?_
      refine op_loadE (nxlf rfl) sc56 rfl sr (by first | exact get8 (by omega) | exact get64 (by omega) | exact get32 (by omega)) (by first | exact mem0 | exact mem1 | exact mem2 | exact mem3 | exact mem4 | exact mem5 | exact mem6 | exact mem7 | exact mem8 | exact mem9) rfl ?_
      refine op_conv8 (nxlf rfl) (und_some Tryz.underlying56) Tryz.underlying5 rfl (by first | rfl | exact (Int.toNat_of_nonneg (by omega)).symm) rfl ?_
      rw [hr10]
      rw [show ((UInt8.ofNat (([UInt32.ofNat (X % 10)] : List UInt32).getD 0 0).toNat).toNat : Int) = ((X % 10 : Nat) : Int) from congrArg Nat.cast (by show (UInt8.ofNat (UInt32.ofNat (X % 10)).toNat).toNat = _; rw [UInt32.toNat_ofNat', UInt8.toNat_ofNat']; omega)]
      refine op_assign (nxlf rfl) rfl rfl ?_
      refine At.opsNil ?_
      refine At.sub (L' := [Mq, R]) (.cons _ (.cons_cons _ (.cons _ (.cons_cons _ (.slnil))))) ?_
      refine At.norm (jk_10 ?_ (.refl _) ⟨rfl, rfl, trivial⟩)
      exact .cons (by first | exact lkI rfl (by omega) | rfl) (.cons (by first | exact lkI rfl (by omega) | rfl) (.cons (by first | exact lkI rfl (by omega) | rfl) .nil))
    · refine At.skip ?_
      have hr0 := digs_nil (X := X % 10) (by omega); rw [hr0]
      refine At.sub (L' := [Mq, R]) (.cons_cons _ (.cons _ (.cons _ (.cons _ (.cons_cons _ (.slnil)))))) ?_
      refine At.norm (jk_10 ?_ (.refl _) ⟨rfl, rfl, trivial⟩)
      exact .cons (by first | exact lkI rfl (by omega) | rfl) (.cons (by first | exact lkI rfl (by omega) | rfl) (.cons (by first | exact lkI rfl (by omega) | rfl) .nil))
  rintro _ _ ⟨rfl, rfl, hu⟩
  refine hk_10 ?_
  refine At.seq fun K12 hk_12 => ?_
  refine At.region ?_
  refine op_move (nxlf rfl) rfl rfl ?_
  refine op_addW (nxlf rfl) rfl rfl rfl ?_
  rw [wrap48a _ (by omega)]
  change At _ ((31, .int .u8 ((UInt8.ofNat (48 + X % 10)).toNat : Int)) :: _) _ _ _
  refine op_lit (nxla rfl) Tryz.underlying22 ze5 sz5 (.cons rfl .nil) rfl rfl (by simp [Value.cells]) rfl rfl rfl (fun N32 a32 r32 => ?_)
  simp only [flatV, List.flatMap_cons, List.flatMap_nil, Value.cells, List.append_nil, List.cons_append, List.nil_append] at r32
  have s32 := r32.rsl
  change Row N32 _ 1 a32 1 1 (u8s [UInt8.ofNat (48 + X % 10)]) at r32
  have s32 := r32.rsl
  refine op_str (nxlf rfl) Tryz.underlying22 Tryz.underlying5 Tryz.underlying9 rfl (by assumption) (by first | exact mem0 | exact mem1 | exact mem2 | exact mem3 | exact mem4 | exact mem5 | exact mem6 | exact mem7 | exact mem8 | exact mem9) rfl ?_
  refine op_move (nxlf rfl) rfl rfl ?_
  refine op_addS (nxlf rfl) rfl rfl (by first | (simp; done) | (simp; omega)) rfl ?_
  refine op_assign (nxlf rfl) rfl rfl ?_
  refine At.opsNil ?_
  refine At.norm (hk_12 ?_)
  refine At.region ?_
  refine op_move (nxlf rfl) rfl rfl ?_
  refine op_assign (nxlf rfl) rfl rfl ?_
  refine At.opsNil ?_
  refine At.inNorm ?_
  refine At.norm ?_
  refine At.sub (L' := [Mq, R]) (.cons _ (.cons_cons _ (.cons_cons _ (.slnil)))) ?_
  refine At.back ?_ (.refl _) ⟨X / 10, UInt8.ofNat (48 + X % 10) :: acc, aq, cq, Mq, rfl, rfl, rfl, Nat.lt_of_le_of_lt (Nat.div_le_self ..) hX, hdn, sq⟩ ?_
  · exact .cons (by first | exact lkI rfl (by omega) | rfl) (.cons (by first | exact lkI rfl (by omega) | rfl) .nil)
  · exact dec_meas hacc
theorem nib8 : ∀ n, n < 16 → (8 ≤ n ↔ 56 ≤ (hexD.getD n 0).toNat) := by decide
theorem low_up : ∀ n, n < 16 → 97 ≤ (hexD.getD n 0).toNat → (hexD.getD n 0).toNat ≤ 122 := by decide
end Go.Proofs.YtnpcaplgkmlmoaaGreatDoor
/- The engine: structs of two ints compared. For whatever program. No condition. -/
namespace Go.Proofs.YtnpcaplgkmlmoaaGreatDoor
set_option linter.unusedVariables false
set_option linter.unusedSimpArgs false
open Go Go.RowKit
/-- A struct of two ints with names of their own. -/
def pairInts (P : Program) (t : TypeId) : Bool := !P.eqGuardType P.depth t && !P.stoodInHeld t && match (P.fieldsOf t).toList with
  | [f, g] => (match P.underlying f.type with | some (.int .i64) => true | _ => false) && (match P.underlying g.type with | some (.int .i64) => true | _ => false) && decide (f.offset = 0) && decide (g.offset = 1) && decide (f.name ≠ "_") && decide (g.name ≠ "_")
  | _ => false
theorem i64_of {P : Program} {t : TypeId} (h : (match P.underlying t with | some (.int .i64) => true | _ => false) = true) : P.underlying t = some (.int .i64) := by
  split at h
  · assumption
  · cases h
theorem pairInts_spec {P : Program} {t : TypeId} (h : pairInts P t = true) : P.eqGuardType P.depth t = false ∧ P.stoodInHeld t = false ∧ ∃ f g, (P.fieldsOf t).toList = [f, g] ∧ P.underlying f.type = some (.int .i64) ∧ P.underlying g.type = some (.int .i64) ∧ f.offset = 0 ∧ g.offset = 1 ∧ f.name ≠ "_" ∧ g.name ≠ "_" := by
  unfold pairInts at h
  split at h
  · rename_i f g e
    simp only [Bool.and_eq_true, Bool.not_eq_true', decide_eq_true_eq] at h
    exact ⟨h.1.1, h.1.2, f, g, e, i64_of h.2.1.1.1.1.1, i64_of h.2.1.1.1.1.2, h.2.1.1.1.2, h.2.1.1.2, h.2.1.2, h.2.2⟩
  · simp at h
theorem pair_eq {P : Program} {t : TypeId} (h : pairInts P t = true) (ht : P.underlying t = some (.struct (P.fieldsOf t))) (a b c e : Int) (w : World) : (Op.equalIn 10000 t (.agg #[.int .i64 a, .int .i64 b]) (.agg #[.int .i64 c, .int .i64 e])).run P w = .ok (decide (a = c ∧ b = e)) w := by
  obtain ⟨_, h2, f, g, hf, u1, u2, o1, o2, n1, n2⟩ := pairInts_spec h
  rw [run_equalIn_struct w 9999 t _ _ ht h2, hf]
  have p : ∀ (t' : TypeId) (u : P.underlying t' = some (.int .i64)) (x y : Int), (Op.equalIn 9999 t' (.int .i64 x) (.int .i64 y)).run P w = .ok (x == y) w := fun t' u x y => run_equalIn_int w 9998 t' .i64 .i64 x y u
  have q : ∀ (t' : TypeId) (u : P.underlying t' = some (.int .i64)) (x y : Int) (o : Nat) (z : Int) (ho : (#[Value.int .i64 x, Value.int .i64 y] : Array Value)[o]? = some (.int .i64 z)), (part t' #[.int .i64 x, .int .i64 y] o).run P w = .ok (.int .i64 z) w := fun t' u x y o z ho => by
    simp [part, isAgg, Go.run_underlying u, ho]
  have q1 := q _ u1 a b 0 a rfl
  have q2 := q _ u1 c e 0 c rfl
  have q3 := q _ u2 a b 1 b rfl
  have q4 := q _ u2 c e 1 e rfl
  simp only [Op.eqFields, if_pos n1, if_pos n2, Sem.run_bind, o1, o2, q1, q2, Result.andThen_ok, p _ u1]
  by_cases e1 : a = c
  · subst e1
    by_cases e2 : b = e
    · subst e2; simp [q3, p _ u2]
    · simp [e2, q3, q4, p _ u2]
  · simp [e1]
section
variable {P : Program} {n : Nat} {l : List (Nat × Value)} {E : World} {L Ls : List Heaplet} {X Y : Act → World → Prop} {d : Nat} {t t' ty : TypeId} {x y : Operand} {a b c e : Int}
theorem op_eqP {pos : _} {aft : _} {g : _} (s : NxF P n l E L Ls ⟨some d, .binOp .eql t x y t', ty, pos, aft, g⟩ X Y) (hp : pairInts P t = true) (ht : P.underlying t = some (.struct (P.fieldsOf t))) (hx : ev l x = some (.agg #[.int .i64 a, .int .i64 b])) (hy : ev l y = some (.agg #[.int .i64 c, .int .i64 e])) (hn : Nat.ble (d + 1) n = true)
    (h : At n ((d, .bool (decide (a = c ∧ b = e))) :: l) E L Y) : At n l E L X :=
  op_bin s hx hy (fun w => eqGuard_agg (pairInts_spec hp).1 w) (fun w => by
    rw [run_eql_struct, pair_eq hp ht]; rfl) hn h
theorem op_neP {pos : _} {aft : _} {g : _} (s : NxF P n l E L Ls ⟨some d, .binOp .neq t x y t', ty, pos, aft, g⟩ X Y) (hp : pairInts P t = true) (ht : P.underlying t = some (.struct (P.fieldsOf t))) (hx : ev l x = some (.agg #[.int .i64 a, .int .i64 b])) (hy : ev l y = some (.agg #[.int .i64 c, .int .i64 e])) (hn : Nat.ble (d + 1) n = true)
    (h : At n ((d, .bool (!decide (a = c ∧ b = e))) :: l) E L Y) : At n l E L X :=
  op_bin s hx hy (fun w => eqGuard_agg (pairInts_spec hp).1 w) (fun w => by
    rw [run_neq_struct, pair_eq hp ht]; rfl) hn h
end
end Go.Proofs.YtnpcaplgkmlmoaaGreatDoor
/- quarrylaw04.wakes. No condition. -/
namespace Go.Proofs.YtnpcaplgkmlmoaaGreatDoor
set_option linter.unusedVariables false
set_option linter.unusedSimpArgs false
open Go Go.RowKit
theorem WkBytes_f : Fn Tryz.prog 32 #[str [48, 120, 48, 48, 102, 70]] [] [] (fun v L => ∃ M a c, v = .tuple #[.slice a 2 c, faultV 0 0] ∧ L = [M] ∧ Row M 5 1 a 2 c (u8s [0, 255])) := by
  have h := FBytes_f [48, 120, 48, 48, 102, 70] (by decide)
  rw [show bytesR [48, 120, 48, 48, 102, 70] = ([0, 255], 0, 0) by decide +kernel] at h
  exact h
theorem WkNumber_f : Fn Tryz.prog 33 #[str [48, 120, 49, 102]] [] [] (fun v L => v = .tuple #[wo 31, faultV 0 0] ∧ L = []) := by
  have h := FNumber_f [48, 120, 49, 102] (by decide)
  rw [show numR [48, 120, 49, 102] = (31, 0, 0) by decide +kernel] at h
  exact h
theorem WkText_f {N : Heaplet} {a : Option Addr} {c : Nat} (h : RSl N 1 a 2 c (u8s [0, 255])) : Fn Tryz.prog 5 #[.slice a 2 c] [] [N] (fun v L => v = str [48, 120, 48, 48, 102, 102] ∧ L = []) := by
  have := FText_f h (by decide)
  rw [show hexT [0, 255] = [48, 120, 48, 48, 102, 102] by decide +kernel] at this
  exact this
theorem WkQuant_f : Fn Tryz.prog 7 #[.agg #[.int .u64 255, .int .u64 0, .int .u64 0, .int .u64 0]] [] [] (fun v L => v = str [48, 120, 102, 102] ∧ L = []) := by
  have h := FQuant_f (x := (255 : UInt64).toNat) (by decide)
  rw [wo_small, show quantT (255 : UInt64).toNat = [48, 120, 102, 102] by decide +kernel] at h
  exact h
set_option maxRecDepth 100000 in
theorem HWakes_f : Fn Tryz.prog 13 #[] [] [] (fun v L => v = .bool true ∧ L = []) := by
  refine Fn.enter (vs := []) Tryz.func13 rfl rfl rfl ?_
  intro E R hR
  change At _ _ E [R] _
  refine At.seq fun K1 hk_1 => ?_
  refine At.region ?_
  refine op_assign (nxlf rfl) rfl rfl ?_
  refine At.opsNil ?_
  refine At.norm (hk_1 ?_)
  refine At.seq fun K2 hk_2 => ?_
  refine At.region ?_
  refine op_callA (nxla rfl) (.cons rfl .nil) (WkBytes_f) Tryz.func32 rfl rfl (by simp) rfl ?_
  rintro v6 L6 ⟨N6, a6, c6, rfl, rfl, r6⟩
  change At _ _ _ [N6, R] _
  refine op_move (nxlf rfl) rfl rfl ?_
  refine op_extract (nxlf rfl) rfl rfl rfl ?_
  refine op_extract (nxlf rfl) rfl rfl rfl ?_
  refine op_alloc (nxla rfl) ze63 rfl (fun N2 b2 B2 => ?_)
  change Blk N2 b2 _ [.int .i64 0, .int .i64 0] at B2
  refine op_assign (nxlf rfl) rfl rfl ?_
  refine op_store (nxl rfl) sz63 rfl rfl rfl rfl rfl B2 (by simp) sel0 (fun N2 B2 => ?_)
  simp only [setL, List.set] at B2
  refine At.opsNil ?_
  refine At.norm (hk_2 ?_)
  refine At.seq fun K3 hk_3 => ?_
  refine At.region ?_
  refine op_callA (nxla rfl) (.cons rfl .nil) (WkNumber_f) Tryz.func33 rfl rfl (by simp) rfl ?_
  rintro v10 L10 ⟨rfl, rfl⟩
  change At _ _ _ [N2, N6, R] _
  refine op_move (nxlf rfl) rfl rfl ?_
  refine op_extract (nxlf rfl) rfl rfl rfl ?_
  refine op_extract (nxlf rfl) rfl rfl rfl ?_
  refine op_alloc (nxla rfl) ze25 rfl (fun N3 b3 B3 => ?_)
  change Blk N3 b3 _ [.int .u64 0, .int .u64 0, .int .u64 0, .int .u64 0] at B3
  refine op_alloc (nxla rfl) ze63 rfl (fun N4 b4 B4 => ?_)
  change Blk N4 b4 _ [.int .i64 0, .int .i64 0] at B4
  refine op_store (nxl rfl) sz25 rfl rfl rfl rfl rfl B3 (by simp) sel1 (fun N3 B3 => ?_)
  rw [setL_whole (by simp)] at B3
  refine op_store (nxl rfl) sz63 rfl rfl rfl rfl rfl B4 (by simp) sel1 (fun N4 B4 => ?_)
  simp only [setL, List.set] at B4
  refine At.opsNil ?_
  refine At.norm (hk_3 ?_)
  refine At.seq fun K4 hk_4 => ?_
  refine At.region ?_
  refine op_loadAggB (ds := [_, _]) (nxlf rfl) ag63 rfl B2 rfl rfl mem2 rfl ?_
  refine op_build (out := [.int .i64 0, .int .i64 0]) (nxlf rfl) ze63 pl63 .nil rfl rfl ?_
  refine op_eqP (nxlf rfl) (by kernel_rfl) (by kernel_rfl) rfl rfl rfl ?_
  change At _ ((15, .bool true) :: _) _ _ _
  refine op_move (nxlf rfl) rfl rfl ?_
  refine op_move (nxgf rfl rfl rfl rfl) rfl rfl ?_
  have s6 := r6.rsl
  refine op_str (nxgf rfl rfl rfl rfl) Tryz.underlying22 Tryz.underlying5 Tryz.underlying9 rfl (by assumption) (by first | exact mem0 | exact mem1 | exact mem2 | exact mem3 | exact mem4 | exact mem5 | exact mem6 | exact mem7 | exact mem8 | exact mem9) rfl ?_
  refine op_eqS (b := [0, 255]) (nxgf rfl rfl rfl rfl) rfl rfl rfl ?_
  change At _ ((19, .bool true) :: _) _ _ _
  refine op_pickT (nxlf rfl) rfl rfl rfl ?_
  refine op_move (nxlf rfl) rfl rfl ?_
  refine op_loadAggB (ds := [_, _]) (nxgf rfl rfl rfl rfl) ag63 rfl B4 rfl rfl mem0 rfl ?_
  refine op_loadAggB (ds := [_, _]) (nxgf rfl rfl rfl rfl) ag63 rfl B2 rfl rfl mem2 rfl ?_
  refine op_eqP (nxgf rfl rfl rfl rfl) (by kernel_rfl) (by kernel_rfl) rfl rfl rfl ?_
  change At _ ((24, .bool true) :: _) _ _ _
  refine op_pickT (nxlf rfl) rfl rfl rfl ?_
  refine op_move (nxlf rfl) rfl rfl ?_
  refine op_loadAggB (ds := u64s (wl 31)) (nxgf rfl rfl rfl rfl) ag25 rfl B3 (by first | (rw [List.drop_zero, List.take_of_length_le (by first | (simp; done) | (simp; omega))]; done) | rfl) (by first | (simp; done) | (simp; omega)) mem1 rfl ?_
  refine op_buildA (out := [_, .int .u64 0, .int .u64 0, .int .u64 0]) (nxgf rfl rfl rfl rfl) ze25 ae25 (.cons rfl .nil) rfl rfl ?_
  refine op_eqW (a := wl 31) (b := [31, 0, 0, 0]) (nxgf rfl rfl rfl rfl) ae25 Tryz.underlying23 (by kernel_rfl) rfl rfl rfl rfl rfl ?_
  change At _ ((29, .bool true) :: _) _ _ _
  refine op_pickT (nxlf rfl) rfl rfl rfl ?_
  refine op_move (nxlf rfl) rfl rfl ?_
  refine op_lit (nxga rfl rfl rfl rfl) Tryz.underlying22 ze5 sz5 (.cons rfl (.cons rfl .nil)) rfl rfl (by simp [Value.cells]) rfl rfl rfl (fun N32 a32 r32 => ?_)
  simp only [flatV, List.flatMap_cons, List.flatMap_nil, Value.cells, List.append_nil, List.cons_append, List.nil_append] at r32
  have s32 := r32.rsl
  change Row N32 _ 1 a32 2 2 (u8s [0, 255]) at r32
  have s32 := r32.rsl
  refine op_callA (nxga rfl rfl rfl rfl) (.cons rfl .nil) (WkText_f s32) Tryz.func5 rfl rfl (by simp) rfl ?_
  rintro v33 L33 ⟨rfl, rfl⟩
  change At _ _ _ [N32, N4, N3, N2, N6, R] _
  refine op_eqS (b := [48, 120, 48, 48, 102, 102]) (nxgf rfl rfl rfl rfl) rfl rfl rfl ?_
  change At _ ((34, .bool true) :: _) _ _ _
  refine op_pickT (nxlf rfl) rfl rfl rfl ?_
  refine op_move (nxlf rfl) rfl rfl ?_
  refine op_buildA (out := [_, .int .u64 0, .int .u64 0, .int .u64 0]) (nxgf rfl rfl rfl rfl) ze25 ae25 (.cons rfl .nil) rfl rfl ?_
  refine op_callA (nxga rfl rfl rfl rfl) (.cons rfl .nil) (WkQuant_f) Tryz.func7 rfl rfl (by simp) rfl ?_
  rintro v38 L38 ⟨rfl, rfl⟩
  change At _ _ _ [N32, N4, N3, N2, N6, R] _
  refine op_eqS (b := [48, 120, 102, 102]) (nxgf rfl rfl rfl rfl) rfl rfl rfl ?_
  change At _ ((39, .bool true) :: _) _ _ _
  refine op_pickT (nxlf rfl) rfl rfl rfl ?_
  refine op_assign (nxlf rfl) rfl rfl ?_
  refine At.opsNil ?_
  refine At.norm (hk_4 ?_)
  refine At.ret (?_)
  refine At.sub (L' := [R]) (.cons _ (.cons _ (.cons _ (.cons _ (.cons _ (.cons_cons _ (.slnil))))))) ?_
  refine At.ret1 (L1 := []) rfl (.tmp rfl .nil) (.refl _) (.refl _) ?_
  exact ⟨rfl, rfl⟩
end Go.Proofs.YtnpcaplgkmlmoaaGreatDoor
/- The engine, words told apart. For whatever program. No condition. -/
namespace Go.Proofs.YtnpcaplgkmlmoaaGreatDoor
set_option linter.unusedVariables false
set_option linter.unusedSimpArgs false
open Go Go.RowKit
section
variable {P : Program} {n : Nat} {l : List (Nat × Value)} {E : World} {L Ls : List Heaplet} {X Y : Act → World → Prop} {d : Nat} {t t' ty e : TypeId} {x y : Operand}
theorem op_neW {a b : List UInt64} {k : Nat} {pos : _} {aft : _} {g : _} (s : NxF P n l E L Ls ⟨some d, .binOp .neq t x y t', ty, pos, aft, g⟩ X Y) (ht : aelt P t = some (k, e, 1)) (he : P.underlying e = some (.int .u64)) (hg : P.eqGuardType P.depth t = false) (hx : ev l x = some (.agg (u64s a).toArray)) (hy : ev l y = some (.agg (u64s b).toArray)) (ha : a.length = k) (hb : b.length = k) (hn : Nat.ble (d + 1) n = true) (h : At n ((d, .bool (decide (a ≠ b))) :: l) E L Y) : At n l E L X := by
  obtain ⟨hu, i, hi, hsz⟩ := aelt_spec ht
  exact op_bin s hx hy (fun w => eqGuard_agg hg w) (fun w => by
    rw [run_neq_struct, run_equalIn_words w 9998 t e k hu he (fun w => by rw [run_sizeOf hi, hsz]) a b ha hb]
    simp only [Result.andThen_ok, show (!(a == b)) = decide (a ≠ b) from by rw [Bool.eq_iff_iff]; simp]) hn h
end
end Go.Proofs.YtnpcaplgkmlmoaaGreatDoor
/- The engine, arrays of bytes compared. For whatever program. No condition. -/
namespace Go.Proofs.YtnpcaplgkmlmoaaGreatDoor
set_option linter.unusedVariables false
set_option linter.unusedSimpArgs false
open Go Go.RowKit
theorem all_range8 : ∀ (xs ys : List UInt8), xs.length = ys.length → ((List.range xs.length).all fun i => xs.getD i 0 == ys.getD i 0) = (xs == ys)
  | [], [], _ => rfl
  | x :: xs, y :: ys, h => by
    have ih := all_range8 xs ys (by simpa using h)
    rw [List.length_cons, List.range_succ_eq_map, List.all_cons, List.all_map]
    simp only [List.getD_cons_zero, Function.comp_def, List.getD_cons_succ, ih]
    simp [List.cons_beq_cons]
  | [], _ :: _, h => by simp at h
  | _ :: _, [], h => by simp at h
section
variable {P : Program}
theorem run_equalIn_bytes8 (w : World) (d : Nat) (t e : TypeId) (n : Nat) (ht : P.underlying t = some (.array n e)) (he : P.underlying e = some (.int .u8)) (hsz : ∀ w, (sizeOf e).run P w = .ok 1 w)
    (xs ys : List UInt8) (hx : xs.length = n) (hy : ys.length = n) :
    (Op.equalIn (d + 2) t (.agg (u8s xs).toArray) (.agg (u8s ys).toArray)).run P w = .ok (xs == ys) w := by
  rw [← all_range8 xs ys (hx.trans hy.symm), hx, List.range_eq_range', Op.equalIn]
  simp only [Sem.run_bind, Go.run_underlying ht, Result.andThen_ok, hsz, Std.Legacy.Range.forIn_eq_forIn_range', Std.Legacy.Range.size, Nat.sub_zero, Nat.add_sub_cancel, Nat.div_one]
  have hl : ∀ i ∈ List.range' 0 n 1, i < n := fun i hi => by simpa using (List.mem_range'_1.1 hi).2
  generalize List.range' 0 n 1 = l at hl ⊢
  induction l with
  | nil => simp
  | cons i l ih =>
    have hi : i < n := hl i (by simp)
    have px : (part e (u8s xs).toArray (i * 1)).run P w = .ok (.int .u8 ((xs.getD i 0).toNat : Int)) w := by
      simp [part, isAgg, Go.run_underlying he, u8s, vb, List.getD, List.getElem?_eq_getElem (show i < xs.length by omega)]
    have py : (part e (u8s ys).toArray (i * 1)).run P w = .ok (.int .u8 ((ys.getD i 0).toNat : Int)) w := by
      simp [part, isAgg, Go.run_underlying he, u8s, vb, List.getD, List.getElem?_eq_getElem (show i < ys.length by omega)]
    have pe : (Op.equalIn (d + 1) e (.int .u8 ((xs.getD i 0).toNat : Int)) (.int .u8 ((ys.getD i 0).toNat : Int))).run P w = .ok (xs.getD i 0 == ys.getD i 0) w := by
      rw [run_equalIn_int w d e .u8 .u8 _ _ he]
      congr 1
      rw [Bool.eq_iff_iff]
      simp [← UInt8.toNat_inj]
      omega
    simp only [List.forIn_cons, Sem.run_bind, px, py, pe, Result.andThen_ok, List.all_cons]
    cases hb : (xs.getD i 0 == ys.getD i 0)
    · simp
    · simp only [Bool.not_true, Bool.false_eq_true, if_false, Sem.run_pure, Result.andThen_ok, Bool.true_and]
      exact ih fun j hj => hl j (by simp [hj])
variable {n : Nat} {l : List (Nat × Value)} {E : World} {L Ls : List Heaplet} {X Y : Act → World → Prop} {d : Nat} {t t' ty e : TypeId} {x y : Operand}
theorem op_eqW8 {a b : List UInt8} {k : Nat} {pos : _} {aft : _} {g : _} (s : NxF P n l E L Ls ⟨some d, .binOp .eql t x y t', ty, pos, aft, g⟩ X Y) (ht : aelt P t = some (k, e, 1)) (he : P.underlying e = some (.int .u8)) (hg : P.eqGuardType P.depth t = false) (hx : ev l x = some (.agg (u8s a).toArray)) (hy : ev l y = some (.agg (u8s b).toArray)) (ha : a.length = k) (hb : b.length = k) (hn : Nat.ble (d + 1) n = true) (h : At n ((d, .bool (decide (a = b))) :: l) E L Y) : At n l E L X := by
  obtain ⟨hu, i, hi, hsz⟩ := aelt_spec ht
  exact op_bin s hx hy (fun w => eqGuard_agg hg w) (fun w => by
    rw [run_eql_struct, run_equalIn_bytes8 w 9998 t e k hu he (fun w => by rw [run_sizeOf hi, hsz]) a b ha hb]
    simp only [Result.andThen_ok, show (a == b) = decide (a = b) from by rw [Bool.eq_iff_iff]; simp]) hn h
end
end Go.Proofs.YtnpcaplgkmlmoaaGreatDoor
/- The engine, arrays of bytes told apart. For whatever program. No condition. -/
namespace Go.Proofs.YtnpcaplgkmlmoaaGreatDoor
set_option linter.unusedVariables false
set_option linter.unusedSimpArgs false
open Go Go.RowKit
section
variable {P : Program} {n : Nat} {l : List (Nat × Value)} {E : World} {L Ls : List Heaplet} {X Y : Act → World → Prop} {d : Nat} {t t' ty e : TypeId} {x y : Operand}
theorem op_neW8 {a b : List UInt8} {k : Nat} {pos : _} {aft : _} {g : _} (s : NxF P n l E L Ls ⟨some d, .binOp .neq t x y t', ty, pos, aft, g⟩ X Y) (ht : aelt P t = some (k, e, 1)) (he : P.underlying e = some (.int .u8)) (hg : P.eqGuardType P.depth t = false) (hx : ev l x = some (.agg (u8s a).toArray)) (hy : ev l y = some (.agg (u8s b).toArray)) (ha : a.length = k) (hb : b.length = k) (hn : Nat.ble (d + 1) n = true) (h : At n ((d, .bool (decide (a ≠ b))) :: l) E L Y) : At n l E L X := by
  obtain ⟨hu, i, hi, hsz⟩ := aelt_spec ht
  exact op_bin s hx hy (fun w => eqGuard_agg hg w) (fun w => by
    rw [run_neq_struct, run_equalIn_bytes8 w 9998 t e k hu he (fun w => by rw [run_sizeOf hi, hsz]) a b ha hb]
    simp only [Result.andThen_ok, show (!(a == b)) = decide (a ≠ b) from by rw [Bool.eq_iff_iff]; simp]) hn h
end
end Go.Proofs.YtnpcaplgkmlmoaaGreatDoor
/- quarryref04.Mixed; quarrylaw04.HexaWrites answers true. No condition. -/
namespace Go.Proofs.YtnpcaplgkmlmoaaGreatDoor
set_option linter.unusedVariables false
set_option linter.unusedSimpArgs false
open Go Go.RowKit
/-- A digit of a hash. -/
def nibO (h : List UInt8) (i : Nat) : Nat := if i % 2 = 1 then (h.getD (i / 2) 0).toNat % 16 else (h.getD (i / 2) 0).toNat / 16
theorem nibO_lt (h : List UInt8) (i : Nat) : nibO h i < 16 := by
  have := (h.getD (i / 2) 0).toNat_lt
  unfold nibO
  split <;> omega
theorem hexL_cons (b : UInt8) (l : List UInt8) : hexL (b :: l) = hexD.getD (b.toNat / 16) 0 :: hexD.getD (b.toNat % 16) 0 :: hexL l := rfl
theorem hexL_at : ∀ (h : List UInt8) (i : Nat), i < 2 * h.length → (hexL h).getD i 0 = hexD.getD (nibO h i) 0
  | [], i, hi => by simp at hi
  | b :: t, 0, _ => by rw [hexL_cons]; rfl
  | b :: t, 1, _ => by rw [hexL_cons]; rfl
  | b :: t, i + 2, hi => by
    have ih := hexL_at t i (by rw [List.length_cons] at hi; omega)
    rw [hexL_cons]
    show (hexL t).getD i 0 = _
    rw [ih]
    unfold nibO
    rw [show (i + 2) % 2 = i % 2 by omega, show (i + 2) / 2 = i / 2 + 1 by omega]
    rfl
theorem up_d : ∀ n, n < 16 → upB (hexD.getD n 0) = if 97 ≤ (hexD.getD n 0).toNat then hexD.getD n 0 - 32 else hexD.getD n 0 := by decide
theorem up_v : ∀ n, n < 16 → 97 ≤ (hexD.getD n 0).toNat → IntKind.u8.wrap (IntKind.u8.wrap (((hexD.getD n 0).toNat : Int) - 97) + 65) = ((hexD.getD n 0 - 32).toNat : Int) := by decide +kernel
theorem mix_y {t h : List UInt8} {i j : Nat} (ht : t.getD i 0 = hexD.getD j 0) (hj : j < 16) (h1 : 97 ≤ (t.getD i 0).toNat) (h2 : 56 ≤ (h.getD i 0).toNat) : mixC t h i = hexD.getD j 0 - 32 := by
  rw [mixC, if_pos h2, ht, up_d j hj, if_pos (by rw [← ht]; exact h1)]
theorem mix_n {t h : List UInt8} {i j : Nat} (ht : t.getD i 0 = hexD.getD j 0) (hj : j < 16) (h1 : ¬ (97 ≤ (t.getD i 0).toNat ∧ 56 ≤ (h.getD i 0).toNat)) : mixC t h i = t.getD i 0 := by
  unfold mixC
  split
  · rename_i h2
    rw [ht, up_d j hj, if_neg (by rw [← ht]; exact fun h => h1 ⟨h, h2⟩)]
  · rfl
theorem mixL_take (f : Nat → UInt8) (q : Nat) : ((List.range (q + 1)).map f) = (List.range q).map f ++ [f q] := by simp [List.range_succ]
set_option maxRecDepth 100000 in
set_option maxHeartbeats 2000000 in
theorem rMixed_f {a : List UInt8} (ha : a.length = 20) : Fn Tryz.prog 12 #[.agg (u8s a).toArray] [] [] (fun v L => v = str (48 :: 120 :: mixL a) ∧ L = []) := by
  unfold mixL
  have htd := hexL_at a
  have hkd := hexL_at (kec (hexL a))
  obtain ⟨t, ht⟩ : ∃ t, hexL a = t := ⟨_, rfl⟩
  rw [ht] at htd hkd
  obtain ⟨k, hk⟩ : ∃ k, kec t = k := ⟨_, rfl⟩
  rw [hk] at hkd
  obtain ⟨h, hh⟩ : ∃ h, hexL k = h := ⟨_, rfl⟩
  rw [hh] at hkd
  rw [ht, hk, hh]
  have htl : t.length = 40 := by rw [← ht, hexL_len, ha]
  have hkl : k.length = 32 := by rw [← hk]; exact kec_len _
  have hhl : h.length = 64 := by rw [← hh, hexL_len, hkl]
  refine Fn.enter (vs := [.agg (u8s a).toArray]) Tryz.func12 rfl rfl rfl ?_
  intro E R hR
  change At _ _ E [R] _
  refine At.seq fun K1 hk_1 => ?_
  refine At.region ?_
  refine op_box (nxla rfl) rfl rfl rfl (fun N1 b1 B1 => ?_)
  refine op_assign (nxlf rfl) rfl rfl ?_
  refine At.opsNil ?_
  refine At.norm (hk_1 ?_)
  refine At.seq fun K2 hk_2 => ?_
  refine At.region ?_
  have s1 := blk8 B1 ha (by decide)
  refine op_sliceA (nxlf rfl) ae27 rfl .none .none .none (by omega) (by omega) (by omega) (by simp) rfl ?_
  refine op_callA (nxla rfl) (.cons rfl .nil) (rHexes_f s1 (by decide)) Tryz.func17 rfl rfl (by simp) rfl ?_
  rintro v10 L10 ⟨rfl, rfl⟩
  change At _ _ _ [N1, R] _
  rw [ht]
  refine op_assign (nxlf rfl) rfl rfl ?_
  refine At.opsNil ?_
  refine At.norm (hk_2 ?_)
  refine At.seq fun K3 hk_3 => ?_
  refine At.region ?_
  refine op_move (nxlf rfl) rfl rfl ?_
  refine op_strB (nxla rfl) Tryz.underlying9 Tryz.underlying22 Tryz.underlying5 rfl (by omega) rfl (fun N12 b12 p12 m12 => ?_)
  have s12 := m12.rsl
  refine op_callA (nxla rfl) (.cons rfl .nil) (rKeccak_f s12 (by omega)) Tryz.func31 rfl rfl (by simp) rfl ?_
  rintro v13 L13 ⟨rfl, rfl⟩
  change At _ _ _ [N12, N1, R] _
  rw [hk]
  refine op_alloc (nxla rfl) ze57 rfl (fun N4 b4 B4 => ?_)
  change Blk N4 b4 _ [.int .u8 0, .int .u8 0, .int .u8 0, .int .u8 0, .int .u8 0, .int .u8 0, .int .u8 0, .int .u8 0, .int .u8 0, .int .u8 0, .int .u8 0, .int .u8 0, .int .u8 0, .int .u8 0, .int .u8 0, .int .u8 0, .int .u8 0, .int .u8 0, .int .u8 0, .int .u8 0, .int .u8 0, .int .u8 0, .int .u8 0, .int .u8 0, .int .u8 0, .int .u8 0, .int .u8 0, .int .u8 0, .int .u8 0, .int .u8 0, .int .u8 0, .int .u8 0] at B4
  refine op_store (nxl rfl) sz57 rfl rfl rfl (by simp [u8s, hkl]) (all8x _) B4 (by simp [u8s, hkl]) sel0 (fun N4 B4 => ?_)
  rw [setL_whole (by simp [u8s, hkl])] at B4
  refine At.opsNil ?_
  refine At.norm (hk_3 ?_)
  refine At.seq fun K4 hk_4 => ?_
  refine At.region ?_
  refine op_assign (nxlf rfl) rfl rfl ?_
  refine At.opsNil ?_
  refine At.norm (hk_4 ?_)
  refine At.seq fun K5 hk_5 => ?_
  refine At.seq fun K6 hk_6 => ?_
  refine At.region ?_
  refine op_assign (nxlf rfl) rfl rfl ?_
  refine At.opsNil ?_
  refine At.norm (hk_6 ?_)
  refine At.block ?_
  refine At.empty ?_
  refine At.sub (L' := [nilH, N4, R]) (.cons_cons _ (.cons_cons _ (.cons _ (.cons _ (.cons_cons _ (.slnil)))))) ?_
  refine At.perm sel2 ?_
  refine At.perm sel1 ?_
  refine At.perm sel2 ?_
  refine At.loop (fun fr_ hp_ ms_ => ∃ (q : Nat) (p : Option Addr) (m c : Nat) (Na : Heaplet), fr_ = [(3, str t), (4, .pointer (some ⟨b4, 0, none⟩)), (5, .slice p m c), (6, .int .i64 (q : Int))] ∧ hp_ = [N4, Na, R] ∧ 40 - q = ms_ ∧ (q ≤ 40) ∧ (m = q) ∧ (Row Na 5 1 p m c (u8s ((List.range q).map (mixC t h))))) ?_ (.refl _) ⟨0, none, 0, 0, nilH, rfl, rfl, rfl, Nat.zero_le _, rfl, Row.nil _ _ _⟩ ?_
  · exact .cons (by first | exact lkI rfl (by omega) | rfl) (.cons (by first | exact lkI rfl (by omega) | rfl) (.cons (by first | exact lkI rfl (by omega) | rfl) (.cons (by first | exact lkI rfl (by omega) | rfl) .nil)))
  rintro _ _ _ ⟨q, p, m, c, Na, rfl, rfl, rfl, hq, hm, ra⟩
  refine At.seq fun K7 hk_7 => ?_
  refine At.seq fun K8 hk_8 => ?_
  refine At.region ?_
  refine op_move (nxlf rfl) rfl rfl ?_
  refine op_lss (nxlf rfl) rfl rfl rfl ?_
  refine At.opsNil ?_
  refine At.norm (hk_8 ?_)
  refine At.condP rfl (fun c15 => ?_) (fun c15 => ?_)
  · refine At.knowT (d := 15) rfl c15 ?_
    have hlt : q < 40 := by omega
    have hnl := nibO_lt k q
    have hkq := hkd q (by omega)
    have htq := htd q (by omega)
    have hna := nibO_lt a q
    have hn8 := nib8 (nibO k q) hnl
    have hy : 97 ≤ (t.getD q 0).toNat → 56 ≤ (h.getD q 0).toNat → mixC t h q = hexD.getD (nibO a q) 0 - 32 := mix_y htq hna
    have hno : ¬ (97 ≤ (t.getD q 0).toNat ∧ 56 ≤ (h.getD q 0).toNat) → mixC t h q = t.getD q 0 := mix_n htq hna
    have huv := up_v (nibO a q) hna
    rw [← hkq] at hn8
    rw [← htq] at huv hy
    have hkx := (k.getD (q / 2) 0).toNat_lt
    refine At.skip ?_
    refine At.norm (hk_7 ?_)
    refine At.seq fun K9 hk_9 => ?_
    refine At.block ?_
    refine At.seq fun K10 hk_10 => ?_
    refine At.region ?_
    refine op_move (nxlf rfl) rfl rfl ?_
    refine op_move (nxlf rfl) rfl rfl ?_
    refine op_idxS (nxlf rfl) Tryz.underlying9 rfl rfl (show _ = (((q : Nat)) : Int) from by omega) (by omega) rfl ?_
    refine op_assign (nxlf rfl) rfl rfl ?_
    refine At.opsNil ?_
    refine At.norm (hk_10 ?_)
    refine At.seq fun K11 hk_11 => ?_
    refine At.meet (fun fr_ hp_ => fr_ = [(3, str t), (4, .pointer (some ⟨b4, 0, none⟩)), (5, .slice p m c), (6, .int .i64 (q : Int)), (7, .int .u8 ((t.getD q 0).toNat : Int)), (8, .int .u8 (((k.getD (q / 2) 0).toNat / 16 : Nat) : Int))] ∧ hp_ = [N4, Na, R] ∧ (True)) ?_ (fun K11_ jk_11 => ?_)
    rotate_left
    · skip
      refine At.region ?_
      refine op_move (nxlf rfl) rfl rfl ?_
      refine op_quoI (nxlf rfl) rfl rfl (by omega) (by omega) (by omega) rfl ?_
      refine op_idxA (nxlf rfl) ae57 rfl rfl (show _ = (((q / 2 : Nat)) : Int) from by omega) (by omega) rfl ?_
      refine op_loadB (nxlf rfl) sc5 rfl B4 (by first | rfl | exact get8 (by omega)) mem0 rfl ?_
      rw [show 0 + q / 2 * 1 = q / 2 by omega]
      refine op_quo8 (nxlf rfl) rfl rfl (by omega) (by omega) (by omega) rfl ?_
      rw [show ((k.getD (q / 2) 0).toNat : Int) / 16 = (((k.getD (q / 2) 0).toNat / 16 : Nat) : Int) by omega]
      refine op_assign (nxlf rfl) rfl rfl ?_
      refine At.opsNil ?_
      refine At.norm (jk_11 ?_ (.refl _) ⟨rfl, rfl, trivial⟩)
      exact .cons (by first | exact lkI rfl (by omega) | rfl) (.cons (by first | exact lkI rfl (by omega) | rfl) (.cons (by first | exact lkI rfl (by omega) | rfl) (.cons (by first | exact lkI rfl (by omega) | rfl) (.cons (by first | exact lkI rfl (by omega) | rfl) (.cons (by first | exact lkI rfl (by omega) | rfl) .nil)))))
    rintro _ _ ⟨rfl, rfl, hu⟩
    refine hk_11 ?_
    refine At.seq fun K12 hk_12 => ?_
    refine At.meet (fun fr_ hp_ => ∃ (x : Nat), fr_ = [(3, str t), (4, .pointer (some ⟨b4, 0, none⟩)), (5, .slice p m c), (6, .int .i64 (q : Int)), (7, .int .u8 ((t.getD q 0).toNat : Int)), (8, .int .u8 (x : Int))] ∧ hp_ = [N4, Na, R] ∧ (x = nibO k q)) ?_ (fun K12_ jk_12 => ?_)
    rotate_left
    · skip
      refine At.seq fun K13 hk_13 => ?_
      refine At.region ?_
      refine op_move (nxlf rfl) rfl rfl ?_
      refine op_rem (nxlf rfl) rfl rfl (by omega) (by omega) rfl ?_
      refine op_eql (nxlf rfl) rfl rfl rfl ?_
      refine At.opsNil ?_
      refine At.norm (hk_13 ?_)
      refine At.condP rfl (fun c28 => ?_) (fun c28 => ?_)
      · refine At.knowT (d := 28) rfl c28 ?_
        refine At.region ?_
        refine op_move (nxlf rfl) rfl rfl ?_
        refine op_quoI (nxlf rfl) rfl rfl (by omega) (by omega) (by omega) rfl ?_
        refine op_idxA (nxlf rfl) ae57 rfl rfl (show _ = (((q / 2 : Nat)) : Int) from by omega) (by omega) rfl ?_
        refine op_loadB (nxlf rfl) sc5 rfl B4 (by first | rfl | exact get8 (by omega)) mem0 rfl ?_
        rw [show 0 + q / 2 * 1 = q / 2 by omega]
        refine op_rem (nxlf rfl) rfl rfl (by omega) (by omega) rfl ?_
        rw [show ((k.getD (q / 2) 0).toNat : Int) % 16 = (((k.getD (q / 2) 0).toNat % 16 : Nat) : Int) by omega]
        refine op_assign (nxlf rfl) rfl rfl ?_
        refine At.opsNil ?_
        refine At.norm (jk_12 ?_ (.refl _) ⟨(k.getD (q / 2) 0).toNat % 16, rfl, rfl, by rw [nibO, if_pos (by omega)]⟩)
        exact .cons (by first | exact lkI rfl (by omega) | rfl) (.cons (by first | exact lkI rfl (by omega) | rfl) (.cons (by first | exact lkI rfl (by omega) | rfl) (.cons (by first | exact lkI rfl (by omega) | rfl) (.cons (by first | exact lkI rfl (by omega) | rfl) (.cons (by first | exact lkI rfl (by omega) | rfl) .nil)))))
      · refine At.knowF (d := 28) rfl c28 ?_
        refine At.skip ?_
        refine At.norm (jk_12 ?_ (.refl _) ⟨(k.getD (q / 2) 0).toNat / 16, rfl, rfl, by rw [nibO, if_neg (by omega)]⟩)
        exact .cons (by first | exact lkI rfl (by omega) | rfl) (.cons (by first | exact lkI rfl (by omega) | rfl) (.cons (by first | exact lkI rfl (by omega) | rfl) (.cons (by first | exact lkI rfl (by omega) | rfl) (.cons (by first | exact lkI rfl (by omega) | rfl) (.cons (by first | exact lkI rfl (by omega) | rfl) .nil)))))
    rintro _ _ ⟨x, rfl, rfl, hx⟩
    refine hk_12 ?_
    refine At.seq fun K14 hk_14 => ?_
    refine At.meet (fun fr_ hp_ => ∃ (x : UInt8), fr_ = [(3, str t), (4, .pointer (some ⟨b4, 0, none⟩)), (5, .slice p m c), (6, .int .i64 (q : Int)), (7, .int .u8 (x.toNat : Int))] ∧ hp_ = [N4, Na, R] ∧ (x = mixC t h q)) ?_ (fun K14_ jk_14 => ?_)
    rotate_left
    · skip
      refine At.seq fun K15 hk_15 => ?_
      refine At.region ?_
      refine op_move (nxlf rfl) rfl rfl ?_
      refine op_geq (nxlf rfl) rfl rfl rfl ?_
      refine op_move (nxlf rfl) rfl rfl ?_
      refine At.partP (d := 36) rfl (fun g36 => ?_) (fun g36 => ?_)
      · refine op_move (nxgf rfl rfl rfl rfl) rfl rfl ?_
        refine op_geq (nxgf rfl rfl rfl rfl) rfl rfl rfl ?_
        refine op_pickT (nxlf rfl) rfl rfl rfl ?_
        refine At.opsNil ?_
        refine At.norm (hk_15 ?_)
        refine At.condP rfl (fun c39 => ?_) (fun c39 => ?_)
        · refine At.knowT (d := 39) rfl c39 ?_
          refine At.region ?_
          refine op_move (nxlf rfl) rfl rfl ?_
          refine op_subW (nxlf rfl) rfl rfl rfl ?_
          refine op_addW (nxlf rfl) rfl rfl rfl ?_
          rw [huv (by omega)]
          refine op_assign (nxlf rfl) rfl rfl ?_
          refine At.opsNil ?_
          refine At.norm (jk_14 ?_ (.refl _) ⟨t.getD q 0 - 32, rfl, rfl, by rw [hy (by omega) (by omega)]⟩)
          exact .cons (by first | exact lkI rfl (by omega) | rfl) (.cons (by first | exact lkI rfl (by omega) | rfl) (.cons (by first | exact lkI rfl (by omega) | rfl) (.cons (by first | exact lkI rfl (by omega) | rfl) (.cons (by first | exact lkI rfl (by omega) | rfl) .nil))))
        · refine At.knowF (d := 39) rfl c39 ?_
          refine At.skip ?_
          refine At.norm (jk_14 ?_ (.refl _) ⟨t.getD q 0, rfl, rfl, by rw [hno (by omega)]⟩)
          exact .cons (by first | exact lkI rfl (by omega) | rfl) (.cons (by first | exact lkI rfl (by omega) | rfl) (.cons (by first | exact lkI rfl (by omega) | rfl) (.cons (by first | exact lkI rfl (by omega) | rfl) (.cons (by first | exact lkI rfl (by omega) | rfl) .nil))))
      · refine op_skip rfl rfl rfl rfl rfl rfl rfl ?_
        refine op_skip rfl rfl rfl rfl rfl rfl rfl ?_
        refine op_pickF (nxlf rfl) rfl rfl rfl ?_
        refine At.opsNil ?_
        refine At.norm (hk_15 ?_)
        refine At.condF rfl ?_
        refine At.skip ?_
        refine At.norm (jk_14 ?_ (.refl _) ⟨t.getD q 0, rfl, rfl, by rw [hno (by omega)]⟩)
        exact .cons (by first | exact lkI rfl (by omega) | rfl) (.cons (by first | exact lkI rfl (by omega) | rfl) (.cons (by first | exact lkI rfl (by omega) | rfl) (.cons (by first | exact lkI rfl (by omega) | rfl) (.cons (by first | exact lkI rfl (by omega) | rfl) .nil))))
    rintro _ _ ⟨x, rfl, rfl, hx2⟩
    refine hk_14 ?_
    refine At.region ?_
    refine op_move (nxlf rfl) rfl rfl ?_
    refine op_move (nxlf rfl) rfl rfl ?_
    refine op_lit (nxla rfl) Tryz.underlying22 ze5 sz5 (.cons rfl .nil) rfl rfl (by simp [Value.cells]) rfl rfl rfl (fun N45 a45 r45 => ?_)
    simp only [flatV, List.flatMap_cons, List.flatMap_nil, Value.cells, List.append_nil, List.cons_append, List.nil_append] at r45
    have s45 := r45.rsl
    subst hx2
    change Row N45 _ 1 a45 1 1 (u8s [mixC t h q]) at r45
    have s45 := r45.rsl
    refine op_append (nxl rfl) Tryz.underlying22 Tryz.underlying22 te5 rfl rfl ra s45 (by first | exact mem0 | exact mem1 | exact mem2 | exact mem3 | exact mem4 | exact mem5 | exact mem6 | exact mem7 | exact mem8 | exact mem9) (by first | exact one_u8s _ | exact one_u64s _ | exact one_u32s _ | (intro u hu; simp at hu; subst hu; rfl)) (by omega) (by omega) sel2 rfl (fun N46 a46 p46 r46 => ?_)
    have s46 := r46.rsl
    have r46 : Row N46 5 1 a46 (m + 1) p46 (u8s ((List.range (q + 1)).map (mixC t h))) := by
      rw [mixL_take, show u8s (((List.range q).map (mixC t h)) ++ [mixC t h q]) = u8s ((List.range q).map (mixC t h)) ++ u8s [mixC t h q] by simp [u8s]]
      exact r46
    refine op_assign (nxlf rfl) rfl rfl ?_
    refine At.opsNil ?_
    refine At.inNorm ?_
    refine At.norm (hk_9 ?_)
    refine At.region ?_
    refine op_move (nxlf rfl) rfl rfl ?_
    refine op_addI (nxlf rfl) rfl rfl (by omega) (by omega) rfl ?_
    refine op_assign (nxlf rfl) rfl rfl ?_
    refine At.opsNil ?_
    refine At.norm ?_
    refine At.sub (L' := [N46, N4, R]) (.cons_cons _ (.cons _ (.cons_cons _ (.cons_cons _ (.slnil))))) ?_
    refine At.perm sel2 ?_
    refine At.perm sel1 ?_
    refine At.perm sel2 ?_
    refine At.back ?_ (.refl _) ⟨q + 1, a46, m + 1, p46, N46, rfl, rfl, rfl, by omega, by omega, r46⟩ ?_
    · exact .cons (by first | exact lkI rfl (by omega) | rfl) (.cons (by first | exact lkI rfl (by omega) | rfl) (.cons (by first | exact lkI rfl (by omega) | rfl) (.cons (by first | exact lkI rfl (by omega) | rfl) .nil)))
    · omega
  · refine At.knowF (d := 15) rfl c15 ?_
    have hq40 : q = 40 := by omega
    subst hq40
    refine At.exit (At.thenExit (At.thenExit (At.inHit ?_)))
    refine At.norm (hk_5 ?_)
    refine At.seq fun K16 hk_16 => ?_
    refine At.region ?_
    refine op_move (nxlf rfl) rfl rfl ?_
    have s48 := ra.rsl
    refine op_str (nxlf rfl) Tryz.underlying22 Tryz.underlying5 Tryz.underlying9 rfl (by assumption) (by first | exact mem0 | exact mem1 | exact mem2 | exact mem3 | exact mem4 | exact mem5 | exact mem6 | exact mem7 | exact mem8 | exact mem9) rfl ?_
    refine op_addS (a := [48, 120]) (nxlf rfl) rfl rfl (by (simp)) rfl ?_
    refine op_assign (nxlf rfl) rfl rfl ?_
    refine At.opsNil ?_
    refine At.norm (hk_16 ?_)
    refine At.ret (?_)
    refine At.sub (L' := [R]) (.cons _ (.cons _ (.cons_cons _ (.slnil)))) ?_
    refine At.ret1 (L1 := []) rfl (.tmp rfl .nil) (.refl _) (.refl _) ?_
    exact ⟨rfl, rfl⟩
end Go.Proofs.YtnpcaplgkmlmoaaGreatDoor
