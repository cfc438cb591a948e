/- Contracts of the machine's own at a fork, in the program and in the reference. No condition. -/
import Derived.Test.YtoabimaidpbkiaaDoorFK1
import Derived.Test.YtoabimaidpbkiaaDoorA10
namespace Go.Proofs.YtoabimaidpbkiaaDoor
set_option linter.unusedVariables false
set_option linter.unusedSimpArgs false
open Go Go.RowKit
theorem Row.block' {N : Heaplet} {e : TypeId} {size : Nat} {ao : Option Addr} {n cap : Nat} {xs : List Value} (h : Row N e size ao n cap xs) : (ao = none ∧ n = 0) ∨ ∃ b, ao = some ⟨b, 0, none⟩ := by
  obtain ⟨_, _, _, h4⟩ := h
  rcases h4 with ⟨h1, h2, _⟩ | ⟨b, cur, ha, _⟩
  · exact .inl ⟨h1, h2⟩
  · exact .inr ⟨b, ha⟩
theorem steps_row {N : Heaplet} {w : World} (hN : N.le (whole w)) {e : TypeId} {k1 k2 : IntKind} {b : Nat} {n cap : Nat} {l : List (Nat × Nat)} (h : Row N e 2 (some ⟨b, 0, none⟩) n cap (pairs k1 k2 l)) : Steps w k1 k2 b l := by
  intro i hi
  have hx := pairs_at k1 k2 l i hi
  obtain ⟨_, _, _, h4⟩ := h
  rcases h4 with ⟨h4, _⟩ | ⟨b', cur, hb, hc, _, ht⟩
  · cases h4
  · cases hb
    have cell : ∀ (j : Nat) (v : Value), (pairs k1 k2 l)[j]? = some v → w.cell? ⟨b, j, none⟩ = some v := fun j v hv => by
      have h5 := hN _ _ hc
      unfold whole at h5
      unfold World.cell?
      rw [h5]
      rw [← ht, List.getElem?_take] at hv
      split at hv
      · simpa using hv
      · cases hv
    exact ⟨cell _ _ hx.1, cell _ _ hx.2⟩
theorem FPick_f {N : Heaplet} {e : TypeId} {ao : Option Addr} {cap n : Nat} {l : List (Nat × Nat)} (f : Int) (h : Row N e 2 ao n cap (pairs .i64 .u64 l)) (hn : n = l.length) (hl : l.length ≤ 100) (h0 : 0 < l.length) : Fn Tryd.prog 24 #[.int .i64 f, .slice ao n cap] [] [N] (fun v L => v = .int .u64 (pickM f 0 l : Nat) ∧ L = []) := by
  subst hn
  rcases h.block' with ⟨_, h1⟩ | ⟨b, rfl⟩
  · omega
  · exact Fn.of_val fun w hr => pick_c w f b l cap hl h0 (steps_row (hr N (by simp)) h)
theorem rFrom_f {N : Heaplet} {e : TypeId} {ao : Option Addr} {cap n : Nat} {l : List (Nat × Nat)} (f : Int) (v : Nat) (h : Row N e 2 ao n cap (pairs .u64 .u64 l)) (hn : n = l.length) (hl : l.length ≤ 100) (h0 : 0 < l.length) (hb : ∀ i (h : i < l.length), l[i].1 ≤ 100) : Fn Tryd.prog 25 #[.int .i64 f, .int .u64 (v : Int), .slice ao n cap] [] [N] (fun u L => u = .int .u64 (pickM f v l : Nat) ∧ L = []) := by
  subst hn
  rcases h.block' with ⟨_, h1⟩ | ⟨b, rfl⟩
  · omega
  · exact Fn.of_val fun w hr => from_c w f v b l cap hl h0 hb (steps_row (hr N (by simp)) h)
/-- The number of a contract of the machine's own; 0: there is none. -/
def mostM (f : Int) : Nat := pickM f 4 [(4, 8), (7, 9), (15, 10)]
def natM (f : Int) (a : List UInt8) : Int := if a = List.replicate 19 0 ++ [UInt8.ofNat (a.getD 19 0).toNat] ∧ 0 ≤ f ∧ f ≤ 15 ∧ (a.getD 19 0).toNat ≤ mostM f then ((a.getD 19 0).toNat : Int) else 0
theorem mostM_lt (f : Int) : mostM f < 11 := pickM_lt f 11 _ _ (by decide) (by decide)
theorem mostM_pick {f : Int} (h : 0 ≤ f) : pickM f 0 [(0, 4), (4, 8), (7, 9), (15, 10)] = mostM f := by
  show pickM f (if ((0 : Nat) : Int) ≤ f then 4 else 0) [(4, 8), (7, 9), (15, 10)] = _
  rw [if_pos (by simpa using h)]; rfl
theorem low_zero {a : List UInt8} (h : a.length = 20) : (∀ i, i < 19 → (a.getD i 0).toNat = 0) ↔ a = List.replicate 19 0 ++ [UInt8.ofNat (a.getD 19 0).toNat] := by
  rw [UInt8.ofNat_toNat]
  constructor
  · intro hz
    apply List.ext_getElem (by simp [h])
    intro i h1 h2
    rcases Nat.lt_or_ge i 19 with hi | hi
    · rw [List.getElem_append_left (by simpa using hi), List.getElem_replicate]
      have := hz i hi
      rw [List.getD_eq_getElem?_getD, List.getElem?_eq_getElem h1, Option.getD_some] at this
      exact UInt8.toNat_inj.1 this
    · have hi19 : i = 19 := by omega
      subst hi19
      rw [List.getElem_append_right (by simp)]
      simp [List.getD_eq_getElem?_getD, List.getElem?_eq_getElem h1]
  · intro e i hi
    rw [e, List.getD_eq_getElem?_getD, List.getElem?_append_left (by simpa using hi), List.getElem?_replicate_of_lt hi]
    rfl
set_option maxRecDepth 100000 in
theorem FNative_f (f : Int) {a : List UInt8} (ha : a.length = 20) : Fn Tryd.prog 15 #[.int .i64 f, .agg (u8s a).toArray] [] [] (fun v L => v = .int .i64 (natM f a) ∧ L = []) := by
  have hz := low_zero ha
  have hlt := (a.getD 19 0).toNat_lt
  have hm := mostM_lt f
  refine Fn.enter (vs := [.int .i64 f, .agg (u8s a).toArray]) Tryd.func15 rfl rfl rfl ?_
  intro E R hR
  change At _ _ E [R] _
  refine At.seq fun K1 hk_1 => ?_
  refine At.region ?_
  refine op_box (nxla rfl) rfl rfl rfl (fun N3 b3 B3 => ?_)
  change Blk N3 b3 _ (u8s a) at B3
  refine op_assign (nxlf rfl) rfl rfl ?_
  refine At.opsNil ?_
  refine At.norm (hk_1 ?_)
  refine At.seq fun K2 hk_2 => ?_
  refine At.region ?_
  refine op_idxA (nxlf rfl) ae34 rfl rfl (show _ = (((19 : Nat)) : Int) from by omega) (by omega) rfl ?_
  refine op_loadB (nxlf rfl) sc5 rfl B3 (by first | exact get8A (by omega) | rfl) mem0 rfl ?_
  refine op_convI (nxlf rfl) (und_some Tryd.underlying5) Tryd.underlying3 rfl (by omega) (by omega) rfl ?_
  refine op_assign (nxlf rfl) rfl rfl ?_
  refine At.opsNil ?_
  refine At.norm (hk_2 ?_)
  refine At.seq fun K3 hk_3 => ?_
  refine At.seq fun K4 hk_4 => ?_
  refine At.region ?_
  refine op_loadAggB (ds := u8s a) (nxlf rfl) ag34 rfl B3 (by first | (rw [List.drop_zero, List.take_of_length_le (by first | (simp; done) | (simp; omega))]; done) | rfl) (by first | (simp; done) | (simp; omega)) mem0 rfl ?_
  refine op_move (nxlf rfl) rfl rfl ?_
  refine op_conv8 (nxlf rfl) (und_some Tryd.underlying3) Tryd.underlying5 rfl (show _ = ((((a.getD 19 0).toNat : Nat)) : Int) from by omega) rfl ?_
  refine op_buildA (out := [.int .u8 0, .int .u8 0, .int .u8 0, .int .u8 0, .int .u8 0, .int .u8 0, .int .u8 0, .int .u8 0, .int .u8 0, .int .u8 0, .int .u8 0, .int .u8 0, .int .u8 0, .int .u8 0, .int .u8 0, .int .u8 0, .int .u8 0, .int .u8 0, .int .u8 0, _]) (nxlf rfl) ze34 ae34 (.cons rfl .nil) rfl rfl ?_
  refine op_neW8 (a := a) (b := List.replicate 19 0 ++ [UInt8.ofNat (a.getD 19 0).toNat]) (nxlf rfl) ae34 Tryd.underlying5 (by kernel_rfl) rfl rfl ha rfl rfl ?_
  refine op_move (nxlf rfl) rfl rfl ?_
  refine At.partP (d := 14) rfl (fun g14 => ?_) (fun g14 => ?_)
  · refine op_skip rfl rfl rfl rfl rfl rfl rfl ?_
    refine op_skip rfl rfl rfl rfl rfl rfl rfl ?_
    refine op_pickT (nxlf rfl) rfl rfl rfl ?_
    refine op_move (nxlf rfl) rfl rfl ?_
    refine op_skip rfl rfl rfl rfl rfl rfl rfl ?_
    refine op_skip rfl rfl rfl rfl rfl rfl rfl ?_
    refine op_pickT (nxlf rfl) rfl rfl rfl ?_
    refine At.opsNil ?_
    refine At.norm (hk_4 ?_)
    refine At.condT rfl ?_
    refine At.seq fun K5 hk_5 => ?_
    refine At.region ?_
    refine op_assign (nxlf rfl) rfl rfl ?_
    refine At.opsNil ?_
    refine At.norm (hk_5 ?_)
    refine At.ret (At.thenRet (?_))
    refine At.sub (L' := [R]) (.cons _ (.cons_cons _ (.slnil))) ?_
    refine At.ret1 (L1 := []) rfl (.tmp rfl .nil) (.refl _) (.refl _) ?_
    refine ⟨?_, rfl⟩
    unfold natM
    first | (rw [if_pos ⟨Decidable.not_not.1 g14, by omega, by omega, by omega⟩]; done) | (rw [if_neg (fun h => g14 h.1)]; done) | (rw [if_neg (fun h => by omega)]; done)
  · refine op_move (nxgf rfl rfl rfl rfl) rfl rfl ?_
    refine op_lss (nxgf rfl rfl rfl rfl) rfl rfl rfl ?_
    refine op_pickF (nxlf rfl) rfl rfl rfl ?_
    refine op_move (nxlf rfl) rfl rfl ?_
    refine At.partP (d := 18) rfl (fun g18 => ?_) (fun g18 => ?_)
    · refine op_skip rfl rfl rfl rfl rfl rfl rfl ?_
      refine op_skip rfl rfl rfl rfl rfl rfl rfl ?_
      refine op_pickT (nxlf rfl) rfl rfl rfl ?_
      refine At.opsNil ?_
      refine At.norm (hk_4 ?_)
      refine At.condT rfl ?_
      refine At.seq fun K6 hk_6 => ?_
      refine At.region ?_
      refine op_assign (nxlf rfl) rfl rfl ?_
      refine At.opsNil ?_
      refine At.norm (hk_6 ?_)
      refine At.ret (At.thenRet (?_))
      refine At.sub (L' := [R]) (.cons _ (.cons_cons _ (.slnil))) ?_
      refine At.ret1 (L1 := []) rfl (.tmp rfl .nil) (.refl _) (.refl _) ?_
      refine ⟨?_, rfl⟩
      unfold natM
      first | (rw [if_pos ⟨Decidable.not_not.1 g14, by omega, by omega, by omega⟩]; done) | (rw [if_neg (fun h => g14 h.1)]; done) | (rw [if_neg (fun h => by omega)]; done)
    · refine op_move (nxgf rfl rfl rfl rfl) rfl rfl ?_
      refine op_gtr (nxgf rfl rfl rfl rfl) rfl rfl rfl ?_
      refine op_pickF (nxlf rfl) rfl rfl rfl ?_
      refine At.opsNil ?_
      refine At.norm (hk_4 ?_)
      refine At.condP rfl (fun c21 => ?_) (fun c21 => ?_)
      · refine At.seq fun K7 hk_7 => ?_
        refine At.region ?_
        refine op_assign (nxlf rfl) rfl rfl ?_
        refine At.opsNil ?_
        refine At.norm (hk_7 ?_)
        refine At.ret (At.thenRet (?_))
        refine At.sub (L' := [R]) (.cons _ (.cons_cons _ (.slnil))) ?_
        refine At.ret1 (L1 := []) rfl (.tmp rfl .nil) (.refl _) (.refl _) ?_
        refine ⟨?_, rfl⟩
        unfold natM
        first | (rw [if_pos ⟨Decidable.not_not.1 g14, by omega, by omega, by omega⟩]; done) | (rw [if_neg (fun h => g14 h.1)]; done) | (rw [if_neg (fun h => by omega)]; done)
      · refine At.skip ?_
        refine At.norm (hk_3 ?_)
        refine At.seq fun K8 hk_8 => ?_
        refine At.seq fun K9 hk_9 => ?_
        refine At.region ?_
        refine op_move (nxlf rfl) rfl rfl ?_
        refine op_move (nxlf rfl) rfl rfl ?_
        refine op_build (out := [_, _]) (nxlf rfl) ze61 pl61 (.cons rfl (.cons rfl .nil)) rfl rfl ?_
        refine op_build (out := [_, _]) (nxlf rfl) ze61 pl61 (.cons rfl (.cons rfl .nil)) rfl rfl ?_
        refine op_build (out := [_, _]) (nxlf rfl) ze61 pl61 (.cons rfl (.cons rfl .nil)) rfl rfl ?_
        refine op_build (out := [_, _]) (nxlf rfl) ze61 pl61 (.cons rfl (.cons rfl .nil)) rfl rfl ?_
        refine op_lit (nxla rfl) Tryd.underlying75 ze61 sz61 (.cons rfl (.cons rfl (.cons rfl (.cons rfl .nil)))) rfl rfl (by simp [Value.cells]) rfl rfl rfl (fun N28 a28 r28 => ?_)
        simp only [flatV, List.flatMap_cons, List.flatMap_nil, Value.cells, List.append_nil, List.cons_append, List.nil_append] at r28
        have s28 := r28.rsl
        change Row N28 _ 2 a28 4 4 (pairs .i64 .u64 [(0, 4), (4, 8), (7, 9), (15, 10)]) at r28
        refine op_callA (nxla rfl) (.cons rfl (.cons rfl .nil)) (FPick_f f r28 rfl (by decide) (by decide)) Tryd.func24 rfl rfl (by simp) rfl ?_
        rintro v29 L29 ⟨rfl, rfl⟩
        change At _ _ _ [N28, N3, R] _
        rw [mostM_pick (by omega)]
        refine op_convI (nxlf rfl) (und_some Tryd.underlying22) Tryd.underlying3 rfl (by omega) (by omega) rfl ?_
        refine op_leq (nxlf rfl) rfl rfl rfl ?_
        refine At.opsNil ?_
        refine At.norm (hk_9 ?_)
        refine At.condP rfl (fun c31 => ?_) (fun c31 => ?_)
        · refine At.seq fun K10 hk_10 => ?_
          refine At.region ?_
          refine op_move (nxlf rfl) rfl rfl ?_
          refine op_assign (nxlf rfl) rfl rfl ?_
          refine At.opsNil ?_
          refine At.norm (hk_10 ?_)
          refine At.ret (At.thenRet (?_))
          refine At.sub (L' := [R]) (.cons _ (.cons _ (.cons_cons _ (.slnil)))) ?_
          refine At.ret1 (L1 := []) rfl (.tmp rfl .nil) (.refl _) (.refl _) ?_
          refine ⟨?_, rfl⟩
          unfold natM
          first | (rw [if_pos ⟨Decidable.not_not.1 g14, by omega, by omega, by omega⟩]; done) | (rw [if_neg (fun h => g14 h.1)]; done) | (rw [if_neg (fun h => by omega)]; done)
        · refine At.skip ?_
          refine At.norm (hk_8 ?_)
          refine At.seq fun K11 hk_11 => ?_
          refine At.region ?_
          refine op_assign (nxlf rfl) rfl rfl ?_
          refine At.opsNil ?_
          refine At.norm (hk_11 ?_)
          refine At.ret (?_)
          refine At.sub (L' := [R]) (.cons _ (.cons _ (.cons_cons _ (.slnil)))) ?_
          refine At.ret1 (L1 := []) rfl (.tmp rfl .nil) (.refl _) (.refl _) ?_
          refine ⟨?_, rfl⟩
          unfold natM
          first | (rw [if_pos ⟨Decidable.not_not.1 g14, by omega, by omega, by omega⟩]; done) | (rw [if_neg (fun h => g14 h.1)]; done) | (rw [if_neg (fun h => by omega)]; done)
theorem zero_more {a : List UInt8} {i : Nat} (h : ∀ j, j < i → (a.getD j 0).toNat = 0) (h2 : (a.getD i 0).toNat = 0) : ∀ j, j < i + 1 → (a.getD j 0).toNat = 0 := by
  intro j hj
  rcases Nat.lt_or_ge j i with hji | hji
  · exact h j hji
  · obtain rfl : j = i := by omega
    exact h2
set_option maxRecDepth 100000 in
theorem rNative_f (f : Int) {a : List UInt8} (ha : a.length = 20) : Fn Tryd.prog 16 #[.int .i64 f, .agg (u8s a).toArray] [] [] (fun v L => v = .int .i64 (natM f a) ∧ L = []) := by
  have hzz := low_zero ha
  have hlt := (a.getD 19 0).toNat_lt
  have hm := mostM_lt f
  refine Fn.enter (vs := [.int .i64 f, .agg (u8s a).toArray]) Tryd.func16 rfl rfl rfl ?_
  intro E R hR
  change At _ _ E [R] _
  refine At.seq fun K1 hk_1 => ?_
  refine At.region ?_
  refine op_box (nxla rfl) rfl rfl rfl (fun N3 b3 B3 => ?_)
  change Blk N3 b3 _ (u8s a) at B3
  refine op_assign (nxlf rfl) rfl rfl ?_
  refine At.opsNil ?_
  refine At.norm (hk_1 ?_)
  refine At.seq fun K2 hk_2 => ?_
  refine At.seq fun K3 hk_3 => ?_
  refine At.region ?_
  refine op_assign (nxlf rfl) rfl rfl ?_
  refine At.opsNil ?_
  refine At.norm (hk_3 ?_)
  refine At.block ?_
  refine At.loop (fun fr_ hp_ ms_ => ∃ (i : Nat), fr_ = [(0, .int .i64 f), (3, .pointer (some ⟨b3, 0, none⟩)), (4, .int .i64 0), (5, .int .i64 (i : Int))] ∧ hp_ = [N3, R] ∧ 19 - i = ms_ ∧ (i ≤ 19) ∧ (∀ j, j < i → (a.getD j 0).toNat = 0)) ?_ (.refl _) ⟨0, rfl, rfl, rfl, by omega, fun j hj => absurd hj (Nat.not_lt_zero j)⟩ ?_
  · exact .cons (by first | exact lkI rfl (by omega) | rfl) (.cons (by first | exact lkI rfl (by omega) | rfl) (.cons (by first | exact lkI rfl (by omega) | rfl) (.cons (by first | exact lkI rfl (by omega) | rfl) .nil)))
  rintro _ _ _ ⟨i, rfl, rfl, rfl, hi, hz⟩
  refine At.seq fun K4 hk_4 => ?_
  refine At.seq fun K5 hk_5 => ?_
  refine At.region ?_
  refine op_move (nxlf rfl) rfl rfl ?_
  refine op_lss (nxlf rfl) rfl rfl rfl ?_
  refine At.opsNil ?_
  refine At.norm (hk_5 ?_)
  refine At.condP rfl (fun c9 => ?_) (fun c9 => ?_)
  · refine At.skip ?_
    refine At.norm (hk_4 ?_)
    refine At.seq fun K6 hk_6 => ?_
    refine At.block ?_
    refine At.seq fun K7 hk_7 => ?_
    refine At.region ?_
    refine op_move (nxlf rfl) rfl rfl ?_
    refine op_idxA (nxlf rfl) ae34 rfl rfl (show _ = (((i : Nat)) : Int) from by omega) (by omega) rfl ?_
    refine op_loadB (nxlf rfl) sc5 rfl B3 (by first | exact get8A (by omega) | rfl) mem0 rfl ?_
    refine op_neq (nxlf rfl) rfl rfl rfl ?_
    refine At.opsNil ?_
    refine At.norm (hk_7 ?_)
    refine At.condP rfl (fun c15 => ?_) (fun c15 => ?_)
    · refine At.seq fun K8 hk_8 => ?_
      refine At.region ?_
      refine op_assign (nxlf rfl) rfl rfl ?_
      refine At.opsNil ?_
      refine At.norm (hk_8 ?_)
      refine At.ret (At.inRet (At.thenRet (At.thenRet (At.inRet (At.thenRet (?_))))))
      refine At.sub (L' := [R]) (.cons _ (.cons_cons _ (.slnil))) ?_
      refine At.ret1 (L1 := []) rfl (.tmp rfl .nil) (.refl _) (.refl _) ?_
      refine ⟨?_, rfl⟩
      unfold natM
      first | (rw [if_pos ⟨hzz.1 hz, by omega, by omega, by omega⟩]; done) | (rw [if_neg (fun h => by have := hzz.2 h.1 i (by omega); omega)]; done) | (rw [if_neg (fun h => by omega)]; done)
    · refine At.skip ?_
      refine At.inNorm ?_
      refine At.norm (hk_6 ?_)
      refine At.region ?_
      refine op_move (nxlf rfl) rfl rfl ?_
      refine op_addI (nxlf rfl) rfl rfl (by omega) (by omega) rfl ?_
      refine op_assign (nxlf rfl) rfl rfl ?_
      refine At.opsNil ?_
      refine At.norm ?_
      refine At.back ?_ (.refl _) ⟨i + 1, rfl, rfl, rfl, by omega, zero_more hz (by omega)⟩ ?_
      · exact .cons (by first | exact lkI rfl (by omega) | rfl) (.cons (by first | exact lkI rfl (by omega) | rfl) (.cons (by first | exact lkI rfl (by omega) | rfl) (.cons (by first | exact lkI rfl (by omega) | rfl) .nil)))
      · omega
  · refine At.exit (At.thenExit (At.thenExit (At.inHit ?_)))
    refine At.norm (hk_2 ?_)
    refine At.seq fun K9 hk_9 => ?_
    refine At.region ?_
    have hi19 : i = 19 := by omega
    subst hi19
    refine op_idxA (nxlf rfl) ae34 rfl rfl (show _ = (((19 : Nat)) : Int) from by omega) (by omega) rfl ?_
    refine op_loadB (nxlf rfl) sc5 rfl B3 (by first | exact get8A (by omega) | rfl) mem0 rfl ?_
    refine op_convI (nxlf rfl) (und_some Tryd.underlying5) Tryd.underlying3 rfl (by omega) (by omega) rfl ?_
    refine op_assign (nxlf rfl) rfl rfl ?_
    refine At.opsNil ?_
    refine At.norm (hk_9 ?_)
    refine At.seq fun K10 hk_10 => ?_
    refine At.region ?_
    refine op_move (nxlf rfl) rfl rfl ?_
    refine op_buildA (out := [_, _]) (nxlf rfl) ze39 ae39 (.cons rfl (.cons rfl .nil)) rfl rfl ?_
    refine op_buildA (out := [_, _]) (nxlf rfl) ze39 ae39 (.cons rfl (.cons rfl .nil)) rfl rfl ?_
    refine op_buildA (out := [_, _]) (nxlf rfl) ze39 ae39 (.cons rfl (.cons rfl .nil)) rfl rfl ?_
    refine op_lit (nxla rfl) Tryd.underlying63 ze39 sz39 (.cons rfl (.cons rfl (.cons rfl .nil))) rfl rfl (by simp [Value.cells]) rfl rfl rfl (fun N23 a23 r23 => ?_)
    simp only [flatV, List.flatMap_cons, List.flatMap_nil, Value.cells, List.append_nil, List.cons_append, List.nil_append] at r23
    have s23 := r23.rsl
    change Row N23 _ 2 a23 3 3 (pairs .u64 .u64 [(4, 8), (7, 9), (15, 10)]) at r23
    refine op_callA (nxla rfl) (.cons rfl (.cons rfl (.cons rfl .nil))) (rFrom_f f 4 r23 rfl (by decide) (by decide) (by decide)) Tryd.func25 rfl rfl (by simp) rfl ?_
    rintro v24 L24 ⟨rfl, rfl⟩
    change At _ _ _ [N23, N3, R] _
    rw [show pickM f 4 [(4, 8), (7, 9), (15, 10)] = mostM f from rfl]
    refine op_convI (nxlf rfl) (und_some Tryd.underlying22) Tryd.underlying3 rfl (by omega) (by omega) rfl ?_
    refine op_assign (nxlf rfl) rfl rfl ?_
    refine At.opsNil ?_
    refine At.norm (hk_10 ?_)
    refine At.seq fun K11 hk_11 => ?_
    refine At.seq fun K12 hk_12 => ?_
    refine At.region ?_
    refine op_move (nxlf rfl) rfl rfl ?_
    refine op_lss (nxlf rfl) rfl rfl rfl ?_
    refine op_move (nxlf rfl) rfl rfl ?_
    refine At.partP (d := 28) rfl (fun g28 => ?_) (fun g28 => ?_)
    · refine op_skip rfl rfl rfl rfl rfl rfl rfl ?_
      refine op_skip rfl rfl rfl rfl rfl rfl rfl ?_
      refine op_pickT (nxlf rfl) rfl rfl rfl ?_
      refine op_move (nxlf rfl) rfl rfl ?_
      refine op_skip rfl rfl rfl rfl rfl rfl rfl ?_
      refine op_skip rfl rfl rfl rfl rfl rfl rfl ?_
      refine op_skip rfl rfl rfl rfl rfl rfl rfl ?_
      refine op_pickT (nxlf rfl) rfl rfl rfl ?_
      refine At.opsNil ?_
      refine At.norm (hk_12 ?_)
      refine At.condT rfl ?_
      refine At.seq fun K13 hk_13 => ?_
      refine At.region ?_
      refine op_assign (nxlf rfl) rfl rfl ?_
      refine At.opsNil ?_
      refine At.norm (hk_13 ?_)
      refine At.ret (At.thenRet (?_))
      refine At.sub (L' := [R]) (.cons _ (.cons _ (.cons_cons _ (.slnil)))) ?_
      refine At.ret1 (L1 := []) rfl (.tmp rfl .nil) (.refl _) (.refl _) ?_
      refine ⟨?_, rfl⟩
      unfold natM
      first | (rw [if_pos ⟨hzz.1 hz, by omega, by omega, by omega⟩]; done) | (rw [if_neg (fun h => by have := hzz.2 h.1 i (by omega); omega)]; done) | (rw [if_neg (fun h => by omega)]; done)
    · refine op_move (nxgf rfl rfl rfl rfl) rfl rfl ?_
      refine op_gtr (nxgf rfl rfl rfl rfl) rfl rfl rfl ?_
      refine op_pickF (nxlf rfl) rfl rfl rfl ?_
      refine op_move (nxlf rfl) rfl rfl ?_
      refine At.partP (d := 32) rfl (fun g32 => ?_) (fun g32 => ?_)
      · refine op_skip rfl rfl rfl rfl rfl rfl rfl ?_
        refine op_skip rfl rfl rfl rfl rfl rfl rfl ?_
        refine op_skip rfl rfl rfl rfl rfl rfl rfl ?_
        refine op_pickT (nxlf rfl) rfl rfl rfl ?_
        refine At.opsNil ?_
        refine At.norm (hk_12 ?_)
        refine At.condT rfl ?_
        refine At.seq fun K14 hk_14 => ?_
        refine At.region ?_
        refine op_assign (nxlf rfl) rfl rfl ?_
        refine At.opsNil ?_
        refine At.norm (hk_14 ?_)
        refine At.ret (At.thenRet (?_))
        refine At.sub (L' := [R]) (.cons _ (.cons _ (.cons_cons _ (.slnil)))) ?_
        refine At.ret1 (L1 := []) rfl (.tmp rfl .nil) (.refl _) (.refl _) ?_
        refine ⟨?_, rfl⟩
        unfold natM
        first | (rw [if_pos ⟨hzz.1 hz, by omega, by omega, by omega⟩]; done) | (rw [if_neg (fun h => by have := hzz.2 h.1 i (by omega); omega)]; done) | (rw [if_neg (fun h => by omega)]; done)
      · refine op_move (nxgf rfl rfl rfl rfl) rfl rfl ?_
        refine op_move (nxgf rfl rfl rfl rfl) rfl rfl ?_
        refine op_gtr (nxgf rfl rfl rfl rfl) rfl rfl rfl ?_
        refine op_pickF (nxlf rfl) rfl rfl rfl ?_
        refine At.opsNil ?_
        refine At.norm (hk_12 ?_)
        refine At.condP rfl (fun c36 => ?_) (fun c36 => ?_)
        · refine At.seq fun K15 hk_15 => ?_
          refine At.region ?_
          refine op_assign (nxlf rfl) rfl rfl ?_
          refine At.opsNil ?_
          refine At.norm (hk_15 ?_)
          refine At.ret (At.thenRet (?_))
          refine At.sub (L' := [R]) (.cons _ (.cons _ (.cons_cons _ (.slnil)))) ?_
          refine At.ret1 (L1 := []) rfl (.tmp rfl .nil) (.refl _) (.refl _) ?_
          refine ⟨?_, rfl⟩
          unfold natM
          first | (rw [if_pos ⟨hzz.1 hz, by omega, by omega, by omega⟩]; done) | (rw [if_neg (fun h => by have := hzz.2 h.1 i (by omega); omega)]; done) | (rw [if_neg (fun h => by omega)]; done)
        · refine At.skip ?_
          refine At.norm (hk_11 ?_)
          refine At.seq fun K16 hk_16 => ?_
          refine At.region ?_
          refine op_move (nxlf rfl) rfl rfl ?_
          refine op_assign (nxlf rfl) rfl rfl ?_
          refine At.opsNil ?_
          refine At.norm (hk_16 ?_)
          refine At.ret (?_)
          refine At.sub (L' := [R]) (.cons _ (.cons _ (.cons_cons _ (.slnil)))) ?_
          refine At.ret1 (L1 := []) rfl (.tmp rfl .nil) (.refl _) (.refl _) ?_
          refine ⟨?_, rfl⟩
          unfold natM
          first | (rw [if_pos ⟨hzz.1 hz, by omega, by omega, by omega⟩]; done) | (rw [if_neg (fun h => by have := hzz.2 h.1 i (by omega); omega)]; done) | (rw [if_neg (fun h => by omega)]; done)
end Go.Proofs.YtoabimaidpbkiaaDoor
