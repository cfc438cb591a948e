/- Codes: may be jumped there, by the program and by the reference. Condition: at most 2^40 bytes. -/
import Derived.Test.YtdplcfineaikjaaDoorCN1
namespace Go.Proofs.YtdplcfineaikjaaDoor
set_option linter.unusedVariables false
set_option linter.unusedSimpArgs false
open Go Go.RowKit
def jumpV (l : List UInt8) (s : UInt64 × Bool) : Bool := decide (s.2 = true ∧ s.1.toNat ∈ jumpsOf l)
section
variable {N : Heaplet} {ao : Option Addr} {n cap : Nat} {l : List UInt8}
theorem jv_no {l : List UInt8} {s : UInt64 × Bool} (h : s.2 = true → s.1.toNat ∉ jumpsOf l) : jumpV l s = false := decide_eq_false fun e => h e.1 e.2
theorem jv_eq {l : List UInt8} {s : UInt64 × Bool} (h : s.2 = true) : jumpV l s = decide (s.1.toNat ∈ jumpsOf l) := by
  unfold jumpV
  exact decide_eq_decide.2 ⟨fun e => e.2, fun e => ⟨h, e⟩⟩
set_option maxRecDepth 100000 in
theorem FJump_f (h : RSl N 1 ao n cap (u8s l)) (hn : n ≤ 1099511627776) (a b c d : UInt64) : Fn Tryd.prog 11 #[.slice ao n cap, w4 a b c d] [] [N] (fun v L => v = .bool (jumpV l (small4 a b c d)) ∧ L = []) := by
  have hlen := h.len8
  have hS := WSmall4_f a b c d
  have hjl := jumps_len l
  generalize small4 a b c d = z at hS ⊢
  obtain ⟨s, ok⟩ := z
  simp only at hS
  have hs64 := s.toNat_lt
  have hnn : (UInt64.ofNat n).toNat = n := by rw [UInt64.toNat_ofNat']; omega
  refine Fn.enter (vs := [.slice ao n cap, w4 a b c d]) Tryd.func11 rfl rfl rfl ?_
  intro E R hR
  have h := h.le (hR N (by simp))
  change At _ _ E [R] _
  refine At.seq fun K1 hk_1 => ?_
  refine At.region ?_
  refine op_box (nxla rfl) rfl rfl rfl (fun N3 b3 B3 => ?_)
  refine op_assign (nxlf rfl) rfl rfl ?_
  refine At.opsNil ?_
  refine At.norm (hk_1 ?_)
  refine At.seq fun K2 hk_2 => ?_
  refine At.region ?_
  refine op_loadAggB (ds := [_, _, _, _]) (nxlf rfl) ag25 rfl B3 rfl rfl mem0 rfl ?_
  refine op_callA (nxla rfl) (.cons rfl .nil) (hS) Tryd.func28 rfl rfl (by simp) rfl ?_
  rintro v11 L11 ⟨rfl, rfl⟩
  change At _ _ _ [N3, R] _
  refine op_move (nxlf rfl) rfl rfl ?_
  refine op_extract (nxlf rfl) rfl rfl rfl ?_
  refine op_extract (nxlf rfl) rfl rfl rfl ?_
  refine op_assign (nxlf rfl) rfl rfl ?_
  refine op_assign (nxlf rfl) rfl rfl ?_
  refine At.opsNil ?_
  refine At.norm (hk_2 ?_)
  refine At.seq fun K3 hk_3 => ?_
  refine At.seq fun K4 hk_4 => ?_
  refine At.region ?_
  refine op_move (nxlf rfl) rfl rfl ?_
  refine op_not (nxlf rfl) rfl rfl ?_
  refine op_move (nxlf rfl) rfl rfl ?_
  refine At.part (d := 16) rfl (fun g16 => ?_) (fun g16 => ?_)
  · have hv : jumpV l (s, ok) = false := jv_no fun e => by rw [show ok = true from e] at g16; cases g16
    refine op_skip rfl rfl rfl rfl rfl rfl rfl ?_
    refine op_skip rfl rfl rfl rfl rfl rfl rfl ?_
    refine op_skip rfl rfl rfl rfl rfl rfl rfl ?_
    refine op_skip rfl rfl rfl rfl rfl rfl rfl ?_
    refine op_skip rfl rfl rfl rfl rfl rfl rfl ?_
    refine op_pickT (nxlf rfl) rfl rfl rfl ?_
    refine At.opsNil ?_
    refine At.norm (hk_4 ?_)
    refine At.condT rfl ?_
    refine At.seq fun K5 hk_5 => ?_
    refine At.region ?_
    refine op_assign (nxlf rfl) rfl rfl ?_
    refine At.opsNil ?_
    refine At.norm (hk_5 ?_)
    refine At.ret (At.thenRet (?_))
    refine At.sub (L' := [R]) (.cons _ (.cons_cons _ (.slnil))) ?_
    refine At.ret1 (L1 := []) rfl (.tmp rfl .nil) (.refl _) (.refl _) ?_
    exact ⟨by rw [hv], rfl⟩
  · have hok : ok = true := by cases ok <;> simp_all
    refine op_move (nxgf rfl rfl rfl rfl) rfl rfl ?_
    refine op_move (nxgf rfl rfl rfl rfl) rfl rfl ?_
    refine op_lenS (nxgf rfl rfl rfl rfl) se22 rfl rfl ?_
    refine op_conv64 (nxgf rfl rfl rfl rfl) (und_some Tryd.underlying3) Tryd.underlying23 rfl (show _ = (((n : Nat)) : Int) from by omega) rfl ?_
    refine op_geq (nxgf rfl rfl rfl rfl) rfl rfl rfl ?_
    refine op_pickF (nxlf rfl) rfl rfl rfl ?_
    refine At.opsNil ?_
    refine At.norm (hk_4 ?_)
    refine At.condP rfl (fun c22 => ?_) (fun c22 => ?_)
    · have hv : jumpV l (s, ok) = false := jv_no fun _ hm => by have e1 : s.toNat < l.length := (jumps_mem hm).1; omega
      refine At.seq fun K6 hk_6 => ?_
      refine At.region ?_
      refine op_assign (nxlf rfl) rfl rfl ?_
      refine At.opsNil ?_
      refine At.norm (hk_6 ?_)
      refine At.ret (At.thenRet (?_))
      refine At.sub (L' := [R]) (.cons _ (.cons_cons _ (.slnil))) ?_
      refine At.ret1 (L1 := []) rfl (.tmp rfl .nil) (.refl _) (.refl _) ?_
      exact ⟨by rw [hv], rfl⟩
    · refine At.skip ?_
      refine At.norm (hk_3 ?_)
      refine At.seq fun K7 hk_7 => ?_
      refine At.region ?_
      refine op_move (nxlf rfl) rfl rfl ?_
      refine op_callA (nxla rfl) (.cons rfl .nil) (FJumps_f h hn) Tryd.func9 rfl rfl (by simp) rfl ?_
      rintro v25 L25 ⟨N25, a25, k25, rfl, rfl, r25⟩
      change At _ _ _ [N25, N3, R] _
      refine op_move (nxlf rfl) rfl rfl ?_
      refine op_convI (nxlf rfl) (und_some Tryd.underlying23) Tryd.underlying3 rfl (by omega) (by omega) rfl ?_
      refine op_callA (nxla rfl) (.cons rfl (.cons rfl .nil)) (BinS_f r25.rsl (jumps_sorted l) (by omega) s.toNat) Tryd.func29 rfl rfl (by simp) rfl ?_
      rintro v28 L28 ⟨⟨k28, rfl⟩, rfl⟩
      change At _ _ _ [N25, N3, R] _
      refine op_move (nxlf rfl) rfl rfl ?_
      refine op_extract (nxlf rfl) rfl rfl rfl ?_
      refine op_extract (nxlf rfl) rfl rfl rfl ?_
      refine op_assign (nxlf rfl) rfl rfl ?_
      refine op_assign (nxlf rfl) rfl rfl ?_
      refine At.opsNil ?_
      refine At.norm (hk_7 ?_)
      refine At.seq fun K8 hk_8 => ?_
      refine At.region ?_
      refine op_move (nxlf rfl) rfl rfl ?_
      refine op_assign (nxlf rfl) rfl rfl ?_
      refine At.opsNil ?_
      refine At.norm (hk_8 ?_)
      refine At.ret (?_)
      refine At.sub (L' := [R]) (.cons _ (.cons _ (.cons_cons _ (.slnil)))) ?_
      refine At.ret1 (L1 := []) rfl (.tmp rfl .nil) (.refl _) (.refl _) ?_
      exact ⟨by rw [jv_eq hok], rfl⟩
set_option maxRecDepth 100000 in
theorem rJump_f (h : RSl N 1 ao n cap (u8s l)) (hn : n ≤ 1099511627776) (a b c d : UInt64) : Fn Tryd.prog 12 #[.slice ao n cap, w4 a b c d] [] [N] (fun v L => v = .bool (jumpV l (small4 a b c d)) ∧ L = []) := by
  have hlen := h.len8
  have hS := rSmall4_f a b c d
  have hjl := jumps_len l
  generalize small4 a b c d = z at hS ⊢
  obtain ⟨s, ok⟩ := z
  simp only at hS
  have hs64 := s.toNat_lt
  refine Fn.enter (vs := [.slice ao n cap, w4 a b c d]) Tryd.func12 rfl rfl rfl ?_
  intro E R hR
  have h := h.le (hR N (by simp))
  change At _ _ E [R] _
  refine At.seq fun K1 hk_1 => ?_
  refine At.region ?_
  refine op_box (nxla rfl) rfl rfl rfl (fun N3 b3 B3 => ?_)
  refine op_assign (nxlf rfl) rfl rfl ?_
  refine At.opsNil ?_
  refine At.norm (hk_1 ?_)
  refine At.seq fun K2 hk_2 => ?_
  refine At.region ?_
  refine op_loadAggB (ds := [_, _, _, _]) (nxlf rfl) ag25 rfl B3 rfl rfl mem0 rfl ?_
  refine op_callA (nxla rfl) (.cons rfl .nil) (hS) Tryd.func30 rfl rfl (by simp) rfl ?_
  rintro v11 L11 ⟨rfl, rfl⟩
  change At _ _ _ [N3, R] _
  refine op_move (nxlf rfl) rfl rfl ?_
  refine op_extract (nxlf rfl) rfl rfl rfl ?_
  refine op_extract (nxlf rfl) rfl rfl rfl ?_
  refine op_assign (nxlf rfl) rfl rfl ?_
  refine op_assign (nxlf rfl) rfl rfl ?_
  refine At.opsNil ?_
  refine At.norm (hk_2 ?_)
  refine At.seq fun K3 hk_3 => ?_
  refine At.region ?_
  refine op_move (nxlf rfl) rfl rfl ?_
  refine op_callA (nxla rfl) (.cons rfl .nil) (rJumps_f h hn) Tryd.func10 rfl rfl (by simp) rfl ?_
  rintro v15 L15 ⟨N15, a15, k15, rfl, rfl, r15⟩
  change At _ _ _ [N15, N3, R] _
  have s15 := r15.rsl
  refine op_assign (nxlf rfl) rfl rfl ?_
  refine At.opsNil ?_
  refine At.norm (hk_3 ?_)
  refine At.seq fun K4 hk_4 => ?_
  refine At.seq fun K5 hk_5 => ?_
  refine At.region ?_
  refine op_assign (nxlf rfl) rfl rfl ?_
  refine At.opsNil ?_
  refine At.norm (hk_5 ?_)
  refine At.block ?_
  refine At.sub (L' := [N15, R]) (.cons_cons _ (.cons _ (.cons_cons _ (.slnil)))) ?_
  refine At.loop (fun fr_ hp_ ms_ => ∃ (i : Nat), fr_ = [(5, .int .u64 (s.toNat : Int)), (6, .bool ok), (7, .slice a15 (jumpsOf l).length k15), (8, .int .i64 (i : Int))] ∧ hp_ = [N15, R] ∧ (jumpsOf l).length - i = ms_ ∧ (i ≤ (jumpsOf l).length) ∧ (ok = true → ∀ j, j < i → (jumpsOf l).getD j 0 ≠ s.toNat)) ?_ (.refl _) ⟨0, rfl, rfl, rfl, Nat.zero_le _, fun _ j hj => absurd hj (Nat.not_lt_zero _)⟩ ?_
  · exact .cons (by first | exact lkI rfl (by omega) | rfl) (.cons (by first | exact lkI rfl (by omega) | rfl) (.cons (by first | exact lkI rfl (by omega) | rfl) (.cons (by first | exact lkI rfl (by omega) | rfl) .nil)))
  rintro _ _ _ ⟨i, rfl, rfl, rfl, hi, hno⟩
  refine At.seq fun K6 hk_6 => ?_
  refine At.seq fun K7 hk_7 => ?_
  refine At.region ?_
  refine op_move (nxlf rfl) rfl rfl ?_
  refine op_move (nxlf rfl) rfl rfl ?_
  refine op_lenS (nxlf rfl) se27 rfl rfl ?_
  refine op_lss (nxlf rfl) rfl rfl rfl ?_
  refine At.opsNil ?_
  refine At.norm (hk_7 ?_)
  refine At.condP rfl (fun c19 => ?_) (fun c19 => ?_)
  · have hx : (jumpsOf l).getD i 0 < n := by have := (jumps_mem (getD_mem (show i < (jumpsOf l).length by omega))).1; omega
    have hxx : (UInt64.ofNat ((jumpsOf l).getD i 0)).toNat = (jumpsOf l).getD i 0 := by rw [UInt64.toNat_ofNat']; omega
    refine At.skip ?_
    refine At.norm (hk_6 ?_)
    refine At.seq fun K8 hk_8 => ?_
    refine At.block ?_
    refine At.seq fun K9 hk_9 => ?_
    refine At.region ?_
    refine op_move (nxlf rfl) rfl rfl ?_
    refine op_move (nxlf rfl) rfl rfl ?_
    refine At.part (d := 23) rfl (fun g23 => ?_) (fun g23 => ?_)
    · refine op_move (nxgf rfl rfl rfl rfl) rfl rfl ?_
      refine op_move (nxgf rfl rfl rfl rfl) rfl rfl ?_
      refine op_idx1 (nxgf rfl rfl rfl rfl) se27 rfl rfl s15 (show _ = (((i : Nat)) : Int) from by omega) (by omega) rfl ?_
      refine op_loadE (nxgf rfl rfl rfl rfl) sc3 rfl s15 (by first | exact get8 (by omega) | exact get64 (by omega) | exact get32 (by omega) | exact ints_get (by omega)) (by first | exact mem0 | exact mem1 | exact mem2 | exact mem3 | exact mem4 | exact mem5 | exact mem6 | exact mem7 | exact mem8 | exact mem9) rfl ?_
      refine op_conv64 (nxgf rfl rfl rfl rfl) (und_some Tryd.underlying3) Tryd.underlying23 rfl (show _ = ((((jumpsOf l).getD i 0 : Nat)) : Int) from by omega) rfl ?_
      refine op_move (nxgf rfl rfl rfl rfl) rfl rfl ?_
      refine op_eql (nxgf rfl rfl rfl rfl) rfl rfl rfl ?_
      refine op_pickT (nxlf rfl) rfl rfl rfl ?_
      refine At.opsNil ?_
      refine At.norm (hk_9 ?_)
      refine At.condP rfl (fun c31 => ?_) (fun c31 => ?_)
      · refine At.seq fun K10 hk_10 => ?_
        refine At.region ?_
        refine op_assign (nxlf rfl) rfl rfl ?_
        refine At.opsNil ?_
        refine At.norm (hk_10 ?_)
        refine At.ret (At.inRet (At.thenRet (At.thenRet (At.inRet (At.thenRet (?_))))))
        refine At.sub (L' := [R]) (.cons _ (.cons_cons _ (.slnil))) ?_
        refine At.ret1 (L1 := []) rfl (.tmp rfl .nil) (.refl _) (.refl _) ?_
        have hm : s.toNat ∈ jumpsOf l := by
          have e : (jumpsOf l).getD i 0 = s.toNat := by omega
          rw [← e]
          exact getD_mem (by omega)
        exact ⟨by rw [jv_eq g23, decide_eq_true hm], rfl⟩
      · refine At.skip ?_
        refine At.inNorm ?_
        refine At.norm (hk_8 ?_)
        refine At.region ?_
        refine op_move (nxlf rfl) rfl rfl ?_
        refine op_addI (nxlf rfl) rfl rfl (by omega) (by omega) rfl ?_
        refine op_assign (nxlf rfl) rfl rfl ?_
        refine At.opsNil ?_
        refine At.norm ?_
        refine At.back ?_ (.refl _) ⟨i + 1, rfl, rfl, rfl, by omega, fun e j hj => by
          rcases Nat.lt_or_ge j i with hlt | hge
          · exact hno e j hlt
          · obtain rfl : j = i := by omega
            intro he
            first | (rw [e] at g23; cases g23; done) | (rw [hxx, he] at c31; exact c31 rfl)⟩ ?_
        · exact .cons (by first | exact lkI rfl (by omega) | rfl) (.cons (by first | exact lkI rfl (by omega) | rfl) (.cons (by first | exact lkI rfl (by omega) | rfl) (.cons (by first | exact lkI rfl (by omega) | rfl) .nil)))
        · omega
    · refine op_skip rfl rfl rfl rfl rfl rfl rfl ?_
      refine op_skip rfl rfl rfl rfl rfl rfl rfl ?_
      refine op_skip rfl rfl rfl rfl rfl rfl rfl ?_
      refine op_skip rfl rfl rfl rfl rfl rfl rfl ?_
      refine op_skip rfl rfl rfl rfl rfl rfl rfl ?_
      refine op_skip rfl rfl rfl rfl rfl rfl rfl ?_
      refine op_skip rfl rfl rfl rfl rfl rfl rfl ?_
      refine op_pickF (nxlf rfl) rfl rfl rfl ?_
      refine At.opsNil ?_
      refine At.norm (hk_9 ?_)
      refine At.condF rfl ?_
      refine At.skip ?_
      refine At.inNorm ?_
      refine At.norm (hk_8 ?_)
      refine At.region ?_
      refine op_move (nxlf rfl) rfl rfl ?_
      refine op_addI (nxlf rfl) rfl rfl (by omega) (by omega) rfl ?_
      refine op_assign (nxlf rfl) rfl rfl ?_
      refine At.opsNil ?_
      refine At.norm ?_
      refine At.back ?_ (.refl _) ⟨i + 1, rfl, rfl, rfl, by omega, fun e j hj => by
        rcases Nat.lt_or_ge j i with hlt | hge
        · exact hno e j hlt
        · obtain rfl : j = i := by omega
          intro he
          first | (rw [e] at g23; cases g23; done) | (rw [hxx, he] at c31; exact c31 rfl)⟩ ?_
      · exact .cons (by first | exact lkI rfl (by omega) | rfl) (.cons (by first | exact lkI rfl (by omega) | rfl) (.cons (by first | exact lkI rfl (by omega) | rfl) (.cons (by first | exact lkI rfl (by omega) | rfl) .nil)))
      · omega
  · have hv : jumpV l (s, ok) = false := jv_no fun e hm => by
      obtain ⟨j, hj, he⟩ := List.mem_iff_getElem.1 hm
      refine hno e j (by omega) ?_
      rw [List.getD_eq_getElem?_getD, List.getElem?_eq_getElem hj]
      exact he
    refine At.exit (At.thenExit (At.thenExit (At.inHit ?_)))
    refine At.norm (hk_4 ?_)
    refine At.seq fun K11 hk_11 => ?_
    refine At.region ?_
    refine op_assign (nxlf rfl) rfl rfl ?_
    refine At.opsNil ?_
    refine At.norm (hk_11 ?_)
    refine At.ret (?_)
    refine At.sub (L' := [R]) (.cons _ (.cons_cons _ (.slnil))) ?_
    refine At.ret1 (L1 := []) rfl (.tmp rfl .nil) (.refl _) (.refl _) ?_
    exact ⟨by rw [hv], rfl⟩
end
end Go.Proofs.YtdplcfineaikjaaDoor
