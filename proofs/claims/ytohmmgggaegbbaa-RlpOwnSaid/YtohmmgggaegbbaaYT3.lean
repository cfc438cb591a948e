/- limb.Bits, limb.Bytes: how many bits a number has, and its bytes; rlp.head: a payload's head. No condition. -/
import Derived.Test.YtohmmgggaegbbaaYT2
import Derived.Test.YtohmmgggaegbbaaYM1
import Derived.Test.YtohmmgggaegbbaaYLen64
namespace Go.Proofs.Ytohmmgggaegbbaa
set_option linter.unusedVariables false
set_option linter.unusedSimpArgs false
open Go Go.RowKit
theorem Fn.of_same {P : Program} {f : FuncId} {args : Array Value} {v : Value} (h : ∀ w, Calls P f args w fun e w' => e = .returned v ∧ w' = w) : Fn P f args [] [] (fun u L => u = v ∧ L = []) := fun E w R hw _ =>
  (h w).mono fun _ _ ⟨he, hw'⟩ => ⟨v, [], he, ⟨rfl, rfl⟩, by rw [hw']; exact hw⟩
theorem Len64_f (x : UInt64) : Fn Try.prog 61 #[.int .u64 (x.toNat : Int)] [] [] (fun u L => u = .int .i64 (bitLen x.toNat : Nat) ∧ L = []) := by
  have h := x.toNat_lt
  have e : Lib.bitLen x.toNat = bitLen x.toNat := libBitLen_eq (by omega)
  refine Fn.of_same fun w => (Len64_i (x.toNat : Int) w (by omega) (by omega)).mono ?_
  rintro e1 w' ⟨rfl, rfl⟩
  rw [Int.toNat_natCast, e]
  exact ⟨rfl, rfl⟩
theorem bitLen64 (x : UInt64) : bitLen x.toNat ≤ 64 := bitLen_le.2 x.toNat_lt
theorem Bits_f {N : Heaplet} {ao : Option Addr} {n cap : Nat} {l : List UInt64} (h : RSl N 1 ao n cap (u64s l)) (hn : n ≤ 17592186044416) :
    Fn Try.prog 62 #[.slice ao n cap] [] [N] (fun v L => v = .int .i64 (bitLen (v64 l) : Nat) ∧ L = []) := by
  have hlen := h.len64
  have hcap := h.cap63
  refine Fn.enter (vs := [.slice ao n cap]) Try.func62 rfl rfl rfl ?_
  intro E R hR
  have h := h.le (hR N (by simp))
  have e0 : (limbsOf (v64 l)).length = (bitLen (v64 l) + 63) / 64 := length_limbsOf _
  change At _ _ E [R] _
  refine At.seq fun K1 hk_1 => ?_
  refine At.region ?_
  refine op_assign (nxlf rfl) rfl rfl ?_
  refine At.opsNil ?_
  refine At.norm (hk_1 ?_)
  refine At.seq fun K2 hk_2 => ?_
  refine At.region ?_
  refine op_move (nxlf rfl) rfl rfl ?_
  refine op_callA (nxla rfl) (.cons rfl .nil) (Trim_f h) Try.func60 rfl rfl (by simp) rfl ?_
  rintro v4 L4 ⟨rfl, rfl, e1, e2⟩
  change At _ _ _ [R] _
  have h2 := h.take (Nat.le_refl _) (Nat.le_trans e2 hcap.1) e2
  rw [Nat.mul_one, u64s_takeR, e1] at h2
  have hl2 := h2.len64
  refine op_assign (nxlf rfl) rfl rfl ?_
  refine At.opsNil ?_
  refine At.norm (hk_2 ?_)
  refine At.seq fun K3 hk_3 => ?_
  refine At.seq fun K4 hk_4 => ?_
  refine At.region ?_
  refine op_move (nxlf rfl) rfl rfl ?_
  refine op_lenS (nxlf rfl) se95 rfl rfl ?_
  refine op_eql (nxlf rfl) rfl rfl rfl ?_
  refine At.opsNil ?_
  refine At.norm (hk_4 ?_)
  refine At.condP rfl (fun c7 => ?_) (fun c7 => ?_)
  · refine At.seq fun K5 hk_5 => ?_
    refine At.region ?_
    refine op_assign (nxlf rfl) rfl rfl ?_
    refine At.opsNil ?_
    refine At.norm (hk_5 ?_)
    refine At.ret (At.thenRet (?_))
    refine At.ret1 (L1 := []) rfl (.tmp rfl .nil) (.refl _) (.refl _) ?_
    exact ⟨by rw [show bitLen (v64 l) = 0 by omega]; rfl, rfl⟩
  · refine At.skip ?_
    refine At.norm (hk_3 ?_)
    refine At.seq fun K6 hk_6 => ?_
    refine At.region ?_
    refine op_move (nxlf rfl) rfl rfl ?_
    refine op_lenS (nxlf rfl) se95 rfl rfl ?_
    refine op_subI (nxlf rfl) rfl rfl (by omega) (by omega) rfl ?_
    refine op_mulI (nxlf rfl) rfl rfl (by omega) (by omega) rfl ?_
    refine op_move (nxlf rfl) rfl rfl ?_
    refine op_move (nxlf rfl) rfl rfl ?_
    refine op_lenS (nxlf rfl) se95 rfl rfl ?_
    refine op_subI (nxlf rfl) rfl rfl (by omega) (by omega) rfl ?_
    refine op_idx1 (nxlf rfl) se95 rfl rfl (by assumption) (show _ = ((((limbsOf (v64 l)).length - 1 : Nat)) : Int) from by omega) (by omega) rfl ?_
    refine op_loadE (nxlf rfl) sc64 rfl (by assumption) (by first | exact get8 (by omega) | exact get64 (by omega) | exact get32 (by omega)) (by first | exact mem0 | exact mem1 | exact mem2 | exact mem3 | exact mem4 | exact mem5 | exact mem6 | exact mem7 | exact mem8 | exact mem9) rfl ?_
    refine op_callA (nxla rfl) (.cons rfl .nil) (Len64_f _) Try.func61 rfl rfl (by simp) rfl ?_
    rintro v18 L18 ⟨rfl, rfl⟩
    change At _ _ _ [R] _
    have hb := bitLen64 ((limbsOf (v64 l)).getD ((limbsOf (v64 l)).length - 1) 0)
    refine op_addI (nxlf rfl) rfl rfl (by omega) (by omega) rfl ?_
    refine op_assign (nxlf rfl) rfl rfl ?_
    refine At.opsNil ?_
    refine At.norm (hk_6 ?_)
    refine At.ret (?_)
    refine At.ret1 (L1 := []) rfl (.tmp rfl .nil) (.refl _) (.refl _) ?_
    have ht := limbsOf_top' (getD_some (l := limbsOf (v64 l)) (j := (limbsOf (v64 l)).length - 1) (z := 0) (by omega))
    exact ⟨congrArg (Value.int .i64) (by omega), rfl⟩
theorem byte_at {l : List UInt64} {i : Nat} (h : i / 8 < l.length) : UInt8.ofNat (shr64 (l.getD (i / 8) 0) (i % 8 * 8)).toNat = UInt8.ofNat (v64 l / 256 ^ i) := by
  rw [← byte_of_limb h, shr64, UInt64.toNat_ofNat', Nat.mod_eq_of_lt (Nat.lt_of_le_of_lt (Nat.div_le_self _ _) (UInt64.toNat_lt _)), List.getD_eq_getElem?_getD, List.getElem?_eq_getElem h]
  rfl
theorem Bytes_f {N : Heaplet} {ao : Option Addr} {n cap : Nat} {l : List UInt64} (h : RSl N 1 ao n cap (u64s l)) (hn : n ≤ 17592186044416) :
    Fn Try.prog 59 #[.slice ao n cap] [] [N] (fun v L => ∃ M a, v = .slice a (bytesOf (v64 l)).length (bytesOf (v64 l)).length ∧ L = [M] ∧ Row M 5 1 a (bytesOf (v64 l)).length (bytesOf (v64 l)).length (u8s (bytesOf (v64 l)))) := by
  have hlen := h.len64
  have hcap := h.cap63
  have hb : bitLen (v64 l) ≤ 64 * n := bitLen_le.2 (by rw [← hlen]; exact v64_lt l)
  have hm : (bytesOf (v64 l)).length = (bitLen (v64 l) + 7) / 8 := length_bytesOf _
  have hB : bytesOf (v64 l) = bytesN (bytesOf (v64 l)).length (v64 l) := by rw [hm]; rfl
  generalize (bytesOf (v64 l)).length = m at hm hB ⊢
  refine Fn.enter (vs := [.slice ao n cap]) Try.func59 rfl rfl rfl ?_
  intro E R hR
  have h := h.le (hR N (by simp))
  change At _ _ E [R] _
  refine At.seq fun K1 hk_1 => ?_
  refine At.region ?_
  refine op_assign (nxlf rfl) rfl rfl ?_
  refine At.opsNil ?_
  refine At.norm (hk_1 ?_)
  refine At.seq fun K2 hk_2 => ?_
  refine At.region ?_
  refine op_move (nxlf rfl) rfl rfl ?_
  refine op_callA (nxla rfl) (.cons rfl .nil) (Bits_f h hn) Try.func62 rfl rfl (by simp) rfl ?_
  rintro v8 L8 ⟨rfl, rfl⟩
  change At _ _ _ [R] _
  refine op_addI (nxlf rfl) rfl rfl (by omega) (by omega) rfl ?_
  refine op_quoI (nxlf rfl) rfl rfl (by omega) (by omega) (by omega) rfl ?_
  refine op_assign (nxlf rfl) rfl rfl ?_
  refine At.opsNil ?_
  refine At.norm (hk_2 ?_)
  refine At.seq fun K3 hk_3 => ?_
  refine At.region ?_
  refine op_move (nxlf rfl) rfl rfl ?_
  refine op_make (nxla rfl) Try.underlying22 te5 rfl rfl (show _ = (((m : Nat)) : Int) from by omega) (show _ = (((m : Nat)) : Int) from by omega) (by omega) (by unfold maxLen; omega) rfl (fun N12 a12 r12 => ?_)
  rw [made_one _ _ rfl, zero_u8s] at r12
  have s12 := r12.rsl
  refine op_assign (nxlf rfl) rfl rfl ?_
  refine At.opsNil ?_
  refine At.norm (hk_3 ?_)
  refine At.seq fun K4 hk_4 => ?_
  refine At.seq fun K5 hk_5 => ?_
  refine At.region ?_
  refine op_move (nxlf rfl) rfl rfl ?_
  refine op_lenS (nxlf rfl) se22 rfl rfl ?_
  refine op_move (nxlf rfl) rfl rfl ?_
  refine At.opsNil ?_
  refine At.norm (hk_5 ?_)
  refine At.block ?_
  refine At.loop (fun fr_ hp_ ms_ => ∃ (k : Nat) (Nq : Heaplet), fr_ = [(0, .slice ao n cap), (3, .int .i64 (m : Int)), (4, .slice a12 m m), (14, .int .i64 (m : Int)), (15, .int .i64 (k : Int))] ∧ hp_ = [Nq, R] ∧ m - k = ms_ ∧ (k ≤ m) ∧ (Row Nq 5 1 a12 m m (u8s (bytesSt m (v64 l) k)))) ?_ (.refl _) ⟨0, N12, rfl, rfl, rfl, by omega, by rw [bytesSt_zero]; exact r12⟩ ?_
  · exact .cons (by first | exact lkI rfl (by omega) | rfl) (.cons (by first | exact lkI rfl (by omega) | rfl) (.cons (by first | exact lkI rfl (by omega) | rfl) (.cons (by first | exact lkI rfl (by omega) | rfl) (.cons (by first | exact lkI rfl (by omega) | rfl) .nil))))
  rintro _ _ _ ⟨k, Nq, rfl, rfl, rfl, hk, rq⟩
  have sq := rq.rsl
  have hlq := sq.len8
  refine At.seq fun K6 hk_6 => ?_
  refine At.region ?_
  refine op_lss (nxlf rfl) rfl rfl rfl ?_
  refine At.opsNil ?_
  refine At.norm (hk_6 ?_)
  refine At.seq fun K7 hk_7 => ?_
  refine At.condP rfl (fun c16 => ?_) (fun c16 => ?_)
  · refine At.skip ?_
    refine At.norm (hk_7 ?_)
    refine At.seq fun K8 hk_8 => ?_
    refine At.block ?_
    refine At.seq fun K9 hk_9 => ?_
    refine At.region ?_
    refine op_move (nxlf rfl) rfl rfl ?_
    refine op_assign (nxlf rfl) rfl rfl ?_
    refine At.opsNil ?_
    refine At.norm (hk_9 ?_)
    refine At.seq fun K10 hk_10 => ?_
    refine At.region ?_
    refine op_move (nxlf rfl) rfl rfl ?_
    refine op_subI (nxlf rfl) rfl rfl (by omega) (by omega) rfl ?_
    refine op_move (nxlf rfl) rfl rfl ?_
    refine op_subI (nxlf rfl) rfl rfl (by omega) (by omega) rfl ?_
    refine op_assign (nxlf rfl) rfl rfl ?_
    refine At.opsNil ?_
    refine At.norm (hk_10 ?_)
    refine At.region ?_
    refine op_move (nxlf rfl) rfl rfl ?_
    refine op_move (nxlf rfl) rfl rfl ?_
    refine op_move (nxlf rfl) rfl rfl ?_
    refine op_move (nxlf rfl) rfl rfl ?_
    refine op_quoI (nxlf rfl) rfl rfl (by omega) (by omega) (by omega) rfl ?_
    refine op_idx1 (nxlf rfl) se95 rfl rfl (by assumption) (show _ = ((((m - 1 - k) / 8 : Nat)) : Int) from by omega) (by omega) rfl ?_
    refine op_loadE (nxlf rfl) sc64 rfl (by assumption) (by first | exact get8 (by omega) | exact get64 (by omega) | exact get32 (by omega)) (by first | exact mem0 | exact mem1 | exact mem2 | exact mem3 | exact mem4 | exact mem5 | exact mem6 | exact mem7 | exact mem8 | exact mem9) rfl ?_
    refine op_move (nxlf rfl) rfl rfl ?_
    refine op_rem (nxlf rfl) rfl rfl (by omega) (by omega) rfl ?_
    refine op_mulI (nxlf rfl) rfl rfl (by omega) (by omega) rfl ?_
    refine op_shrU (nxlf rfl) rfl rfl (show _ = ((((m - 1 - k) % 8 * 8 : Nat)) : Int) from by omega) rfl ?_
    refine op_conv8 (nxlf rfl) (und_some Try.underlying64) Try.underlying5 rfl (by first | rfl | exact (Int.toNat_of_nonneg (by omega)).symm) rfl ?_
    refine op_idx1 (nxlf rfl) se22 rfl rfl (by assumption) (show _ = (((k : Nat)) : Int) from by omega) (by omega) rfl ?_
    refine op_storeE (nxl rfl) sz5 rfl rfl rfl rfl rfl rq (by simp <;> omega) (by simp) sel0 (fun Nq rq => ?_)
    simp only [setL] at rq
    have sq := rq.rsl
    refine At.opsNil ?_
    refine At.inNorm ?_
    refine At.norm (hk_8 ?_)
    refine At.region ?_
    refine op_addI (nxlf rfl) rfl rfl (by omega) (by omega) rfl ?_
    refine op_move (nxlf rfl) rfl rfl ?_
    refine At.opsNil ?_
    refine At.norm ?_
    refine At.back ?_ (.refl _) ⟨k + 1, Nq, rfl, rfl, rfl, by omega, by rw [bytesSt_succ (by omega), ← byte_at (by omega), ← set_u8s]; exact rq⟩ ?_
    · exact .cons (by first | exact lkI rfl (by omega) | rfl) (.cons (by first | exact lkI rfl (by omega) | rfl) (.cons (by first | exact lkI rfl (by omega) | rfl) (.cons (by first | exact lkI rfl (by omega) | rfl) (.cons (by first | exact lkI rfl (by omega) | rfl) .nil))))
    · omega
  · refine At.exit (At.thenExit (At.thenExit (At.inHit ?_)))
    refine At.norm (hk_4 ?_)
    refine At.seq fun K11 hk_11 => ?_
    refine At.region ?_
    refine op_move (nxlf rfl) rfl rfl ?_
    refine op_assign (nxlf rfl) rfl rfl ?_
    refine At.opsNil ?_
    refine At.norm (hk_11 ?_)
    refine At.ret (?_)
    refine At.ret1 (L1 := [Nq]) rfl (.tmp rfl .nil) (.refl _) (.refl _) ?_
    obtain rfl : k = m := by omega
    rw [bytesSt_all, ← hB] at rq
    exact ⟨Nq, a12, rfl, rfl, rq⟩
theorem bytesOf_le {n k : Nat} (h : n < 256 ^ k) : (bytesOf n).length ≤ k := by rw [length_bytesOf]; exact byteLen_le.2 h
theorem head_f (b n : Nat) (hb : b ≤ 192) (hn : n ≤ 1099511627776) :
    Fn Try.prog 50 #[.int .i64 (b : Int), .int .i64 (n : Int)] [] [] (fun v L => ∃ M a cap, v = .slice a (rlpHead b n).length cap ∧ L = [M] ∧ Row M 5 1 a (rlpHead b n).length cap (u8s (rlpHead b n))) := by
  have h8 := bytesOf_le (n := n) (k := 8) (by omega)
  refine Fn.enter (vs := [.int .i64 (b : Int), .int .i64 (n : Int)]) Try.func50 rfl rfl rfl ?_
  intro E R hR
  change At _ _ E [R] _
  refine At.seq fun K1 hk_1 => ?_
  refine At.region ?_
  refine op_assign (nxlf rfl) rfl rfl ?_
  refine At.opsNil ?_
  refine At.norm (hk_1 ?_)
  refine At.seq fun K2 hk_2 => ?_
  refine At.seq fun K3 hk_3 => ?_
  refine At.region ?_
  refine op_move (nxlf rfl) rfl rfl ?_
  refine op_leq (nxlf rfl) rfl rfl rfl ?_
  refine At.opsNil ?_
  refine At.norm (hk_3 ?_)
  refine At.condP rfl (fun c7 => ?_) (fun c7 => ?_)
  · refine At.seq fun K4 hk_4 => ?_
    refine At.region ?_
    refine op_move (nxlf rfl) rfl rfl ?_
    refine op_move (nxlf rfl) rfl rfl ?_
    refine op_addI (nxlf rfl) rfl rfl (by omega) (by omega) rfl ?_
    refine op_conv8 (nxlf rfl) (und_some Try.underlying3) Try.underlying5 rfl (show _ = (((b + n : Nat)) : Int) from by omega) rfl ?_
    refine op_lit (nxla rfl) Try.underlying22 ze5 sz5 (.cons rfl .nil) rfl rfl (by simp [Value.cells]) rfl rfl rfl (fun N12 a12 r12 => ?_)
    simp only [flatV, List.flatMap_cons, List.flatMap_nil, Value.cells, List.append_nil, List.cons_append, List.nil_append] at r12
    have s12 := r12.rsl
    refine op_assign (nxlf rfl) rfl rfl ?_
    refine At.opsNil ?_
    refine At.norm (hk_4 ?_)
    refine At.ret (At.thenRet (?_))
    refine At.ret1 (L1 := [N12]) rfl (.tmp rfl .nil) (.refl _) (.refl _) ?_
    have e : rlpHead b n = [UInt8.ofNat (b + n)] := by rw [rlpHead, if_pos (by omega)]
    rw [e]
    exact ⟨N12, a12, 1, rfl, rfl, r12⟩
  · refine At.skip ?_
    refine At.norm (hk_2 ?_)
    refine At.seq fun K5 hk_5 => ?_
    refine At.region ?_
    refine op_move (nxlf rfl) rfl rfl ?_
    refine op_conv64 (nxlf rfl) (und_some Try.underlying3) Try.underlying64 rfl (show _ = (((n : Nat)) : Int) from by omega) rfl ?_
    refine op_lit (nxla rfl) Try.underlying95 ze64 sz64 (.cons rfl .nil) rfl rfl (by simp [Value.cells]) rfl rfl rfl (fun N15 a15 r15 => ?_)
    simp only [flatV, List.flatMap_cons, List.flatMap_nil, Value.cells, List.append_nil, List.cons_append, List.nil_append] at r15
    have s15 := r15.rsl
    refine op_callA (nxla rfl) (.cons rfl .nil) (Bytes_f (l := [UInt64.ofNat n]) s15 (by decide)) Try.func59 rfl rfl (by simp) rfl ?_
    rintro v16 L16 ⟨M16, a16, rfl, rfl, r16⟩
    change At _ _ _ [M16, N15, R] _
    rw [v64_one n (by omega)] at r16 ⊢
    have s16 := r16.rsl
    refine op_assign (nxlf rfl) rfl rfl ?_
    refine At.opsNil ?_
    refine At.norm (hk_5 ?_)
    refine At.seq fun K6 hk_6 => ?_
    refine At.region ?_
    refine op_move (nxlf rfl) rfl rfl ?_
    refine op_addI (nxlf rfl) rfl rfl (by omega) (by omega) rfl ?_
    refine op_move (nxlf rfl) rfl rfl ?_
    refine op_lenS (nxlf rfl) se22 rfl rfl ?_
    refine op_addI (nxlf rfl) rfl rfl (by omega) (by omega) rfl ?_
    refine op_conv8 (nxlf rfl) (und_some Try.underlying3) Try.underlying5 rfl (show _ = (((b + 55 + (bytesOf n).length : Nat)) : Int) from by omega) rfl ?_
    refine op_lit (nxla rfl) Try.underlying22 ze5 sz5 (.cons rfl .nil) rfl rfl (by simp [Value.cells]) rfl rfl rfl (fun N23 a23 r23 => ?_)
    simp only [flatV, List.flatMap_cons, List.flatMap_nil, Value.cells, List.append_nil, List.cons_append, List.nil_append] at r23
    have s23 := r23.rsl
    refine op_move (nxlf rfl) rfl rfl ?_
    refine op_append (nxl rfl) Try.underlying22 Try.underlying22 te5 rfl rfl r23 (by assumption) (by first | exact mem0 | exact mem1 | exact mem2 | exact mem3 | exact mem4 | exact mem5 | exact mem6 | exact mem7 | exact mem8 | exact mem9) (by first | exact one_u8s _ | exact one_u64s _ | exact one_u32s _ | (intro u hu; simp at hu; subst hu; rfl)) (by omega) (by omega) sel0 rfl (fun N25 a25 p25 r25 => ?_)
    have s25 := r25.rsl
    refine op_assign (nxlf rfl) rfl rfl ?_
    refine At.opsNil ?_
    refine At.norm (hk_6 ?_)
    refine At.ret (?_)
    refine At.sub (L' := [N25, R]) (.cons_cons _ (.cons _ (.cons _ (.cons_cons _ (.slnil))))) ?_
    refine At.ret1 (L1 := [N25]) rfl (.tmp rfl .nil) (.refl _) (.refl _) ?_
    have e : rlpHead b n = UInt8.ofNat (b + 55 + (bytesOf n).length) :: bytesOf n := by rw [rlpHead, if_neg (by omega)]
    rw [e, List.length_cons, Nat.add_comm (bytesOf n).length 1]
    exact ⟨N25, a25, p25, rfl, rfl, r25⟩
end Go.Proofs.Ytohmmgggaegbbaa
