/- The reference's DivMod. Condition: numbers of at most some 2^40 digits; the divisor is not 0. -/
import Derived.Test.YtbmlhdecnfplaaaK19
namespace Go.Proofs.Ytbmlhdecnfplaaa
set_option linter.unusedVariables false
set_option linter.unusedSimpArgs false
open Go Go.RowKit
theorem bitLen_shl {B s : Nat} (h : 0 < B) : bitLen (B * 2 ^ s) = bitLen B + s := by
  have h1 := lt_bitLen B
  have h3 := bitLen_pos h
  have h2 : 2 ^ (bitLen B - 1) ≤ B := by
    rcases Nat.lt_or_ge B (2 ^ (bitLen B - 1)) with h4 | h4
    · have := bitLen_le.2 h4; omega
    · exact h4
  refine bitLen_eq ?_ (.inr ?_)
  · rw [Nat.pow_add]; exact Nat.mul_lt_mul_of_pos_right h1 (Nat.pow_pos (by decide))
  · rw [show bitLen B + s - 1 = bitLen B - 1 + s by omega, Nat.pow_add]; exact Nat.mul_le_mul_right _ h2
theorem norm32 {B s : Nat} (h : 0 < B) (hs : s = 32 * (digsOf B).length - bitLen B) : s < 32 ∧ 1 ≤ (digsOf B).length ∧ (digsOf (B * 2 ^ s)).length = (digsOf B).length ∧ 2 ^ (32 * (digsOf B).length - 1) ≤ B * 2 ^ s ∧ B * 2 ^ s < 2 ^ (32 * (digsOf B).length) := by
  have hl := length_digsOf B
  have hb := bitLen_pos h
  have e := bitLen_shl (s := s) h
  have hp : 0 < B * 2 ^ s := Nat.mul_pos h (Nat.pow_pos (by decide))
  have hbs : bitLen (B * 2 ^ s) = 32 * (digsOf B).length := by omega
  refine ⟨by omega, by omega, by rw [length_digsOf (B * 2 ^ s), hbs]; omega, ?_, ?_⟩
  · rcases Nat.lt_or_ge (B * 2 ^ s) (2 ^ (32 * (digsOf B).length - 1)) with h4 | h4
    · have := bitLen_le.2 h4; omega
    · exact h4
  · rw [← hbs]; exact lt_bitLen _
theorem x_len {A s : Nat} (hs : s < 32) : (digsOf (A * 2 ^ s)).length ≤ (digsOf A).length + 1 := by
  rw [length_digsOf (A * 2 ^ s)]
  refine digLen_le.2 ?_
  have h : A < 2 ^ (32 * (digsOf A).length) := by have := v32_lt (digsOf A); rwa [v32_digsOf] at this
  have h2 : A * 2 ^ s < 2 ^ (32 * (digsOf A).length) * 2 ^ s := Nat.mul_lt_mul_of_pos_right h (Nat.pow_pos (by decide))
  rw [← Nat.pow_add] at h2
  exact Nat.lt_of_lt_of_le h2 (Nat.pow_le_pow_right (by decide) (by omega))
theorem top_small32 {C : List UInt32} {A s na nb V : Nat} (hC : C.length = na + 2) (hv : v32 C = A * 2 ^ s) (hA : A < 2 ^ (32 * na)) (hs : s < 32) (hn : 1 ≤ nb) (hna : nb ≤ na + 2) (hV : 2 ^ (32 * nb - 1) ≤ V) : v32 (C.drop (na + 2 - nb)) < V := by
  have h := v32_take_drop C (k := na + 2 - nb) (by omega)
  rw [hv] at h
  have h2 : A * 2 ^ s < 2 ^ (32 * na) * 2 ^ s := Nat.mul_lt_mul_of_pos_right hA (Nat.pow_pos (by decide))
  have h3 : 2 ^ (32 * na) * 2 ^ s ≤ 2 ^ (32 * (na + 2 - nb)) * V := by
    refine Nat.le_trans ?_ (Nat.mul_le_mul_left _ hV)
    rw [← Nat.pow_add, ← Nat.pow_add]
    exact Nat.pow_le_pow_right (by decide) (by omega)
  have h4 : 2 ^ (32 * (na + 2 - nb)) * v32 (C.drop (na + 2 - nb)) < 2 ^ (32 * (na + 2 - nb)) * V := by omega
  exact Nat.lt_of_mul_lt_mul_left h4
theorem v32_pad' (a : List UInt32) (m : Nat) : v32 (a ++ List.replicate m 0) = v32 a := by rw [v32_append, v32_replicate]; simp
theorem cmpI_lt {x y : Nat} : cmpI x y < 0 ↔ x < y := by
  unfold cmpI
  split
  · omega
  · split <;> omega
theorem take_ext {α : Type} {x : List α} {k : Nat} {z : α} (h : k < x.length) : x.take k ++ [x.getD k z] = x.take (k + 1) := by
  rw [List.take_succ_eq_append_getElem h, List.getD_eq_getElem?_getD, List.getElem?_eq_getElem h]; rfl
theorem win_getD {C : List UInt32} {j n k : Nat} (hk : k < n) : ((C.drop j).take n).getD k 0 = C.getD (j + k) 0 := by
  rw [List.getD_eq_getElem?_getD, List.getD_eq_getElem?_getD, List.getElem?_take, if_pos hk, List.getElem?_drop]
/-- Two numbers in digits, in new memory. -/
def DigsP2 (A B : Nat) (v : Value) (L : List Heaplet) : Prop :=
  ∃ M1 a1 c1 M2 a2 c2, v = .tuple #[.slice a1 (digsOf A).length c1, .slice a2 (digsOf B).length c2] ∧ L = [M1, M2] ∧ RSl M1 1 a1 (digsOf A).length c1 (u32s (digsOf A)) ∧ RSl M2 1 a2 (digsOf B).length c2 (u32s (digsOf B))
theorem rDivMod_lt {N M : Heaplet} {ax bx : Option Addr} {na nb ca cb A B : Nat} (ha : RSl N 1 ax na ca (u32s (digsOf A))) (hb : RSl M 1 bx nb cb (u32s (digsOf B))) (hlt : A < B) :
    Fn Try.prog 38 #[.slice ax na ca, .slice bx nb cb] [] [N, M] (fun v L => v = .tuple #[.slice none 0 0, .slice ax na ca] ∧ L = []) := by
  have hc := cmpI_lt.2 hlt
  refine Fn.enter (vs := [.slice ax na ca, .slice bx nb cb]) Try.func38 rfl rfl rfl ?_
  intro E R hR
  have ha := ha.le (hR N (by simp))
  have hb := hb.le (hR M (by simp))
  change At _ _ E [R] _
  refine At.seq fun K1 hk_1 => ?_
  refine At.region ?_
  refine op_assign (nxlf rfl) rfl rfl ?_
  refine op_assign (nxlf rfl) rfl rfl ?_
  refine At.opsNil ?_
  refine At.norm (hk_1 ?_)
  refine At.seq fun K2 hk_2 => ?_
  refine At.seq fun K3 hk_3 => ?_
  refine At.region ?_
  refine op_move (nxlf rfl) rfl rfl ?_
  refine op_move (nxlf rfl) rfl rfl ?_
  refine op_callA (nxla rfl) (.cons rfl (.cons rfl .nil)) (Cmp32_f ha hb) Try.func17 rfl rfl (by simp) rfl ?_
  rintro v20 L20 ⟨rfl, rfl⟩
  change At _ _ _ [R] _
  refine op_lss (nxlf rfl) rfl rfl rfl ?_
  refine At.opsNil ?_
  refine At.norm (hk_3 ?_)
  refine At.condP rfl (fun c21 => ?_) (fun c21 => ?_)
  · refine At.seq fun K4 hk_4 => ?_
    refine At.region ?_
    refine op_move (nxlf rfl) rfl rfl ?_
    refine op_assign (nxlf rfl) rfl rfl ?_
    refine op_assign (nxlf rfl) rfl rfl ?_
    refine At.opsNil ?_
    refine At.norm (hk_4 ?_)
    refine At.ret (At.thenRet (?_))
    refine At.retN (L1 := []) rfl (.tmp rfl (.tmp rfl .nil)) rfl (.refl _) (.refl _) ?_
    exact ⟨rfl, rfl⟩
  · exfalso; omega
set_option maxRecDepth 100000 in
set_option maxHeartbeats 2000000 in
theorem rDivMod_s0 {N M : Heaplet} {ax bx : Option Addr} {na nb ca cb A B s : Nat} (ha : RSl N 1 ax na ca (u32s (digsOf A))) (hb : RSl M 1 bx nb cb (u32s (digsOf B))) (hn : na ≤ 1099511627770) (hm : nb ≤ 1099511627770) (hge : B ≤ A) (hB : 0 < B) (hs : s = 32 * (digsOf B).length - bitLen B) (hsz : s = 0) :
    Fn Try.prog 38 #[.slice ax na ca, .slice bx nb cb] [] [N, M] (DigsP2 (A / B) (A % B)) := by
  have hca := ha.cap63
  have hcb := hb.cap63
  have hal := ha.len32
  have hbl := hb.len32
  have hnc : ¬ cmpI A B < 0 := fun h => by have := cmpI_lt.1 h; omega
  obtain ⟨h32, hnb1, hdl, hV1, hV2⟩ := norm32 hB hs
  have hbb : bitLen B ≤ 32 * nb := by have := length_digsOf B; omega
  have hxl := x_len (A := A) h32
  have hA : A < 2 ^ (32 * (digsOf A).length) := by have := v32_lt (digsOf A); rwa [v32_digsOf] at this
  rw [hbl] at hs hnb1 hdl hV1 hV2
  rw [hal] at hxl hA
  have hnn : nb ≤ na := by
    have h1 := digs_mono hge
    omega
  have hVp : 0 < B * 2 ^ s := Nat.mul_pos hB (Nat.pow_pos (by decide))
  obtain ⟨_, hdt⟩ := digs_top hVp
  rw [hdl] at hdt
  have hdv := v32_digsOf (B * 2 ^ s)
  have hxv := v32_digsOf (A * 2 ^ s)
  have hA1 : A * 2 ^ s = A := by rw [hsz, Nat.pow_zero, Nat.mul_one]
  have hB1 : B * 2 ^ s = B := by rw [hsz, Nat.pow_zero, Nat.mul_one]
  refine Fn.enter (vs := [.slice ax na ca, .slice bx nb cb]) Try.func38 rfl rfl rfl ?_
  intro E R hR
  have ha := ha.le (hR N (by simp))
  have hb := hb.le (hR M (by simp))
  change At _ _ E [R] _
  refine At.seq fun K1 hk_1 => ?_
  refine At.region ?_
  refine op_assign (nxlf rfl) rfl rfl ?_
  refine op_assign (nxlf rfl) rfl rfl ?_
  refine At.opsNil ?_
  refine At.norm (hk_1 ?_)
  refine At.seq fun K2 hk_2 => ?_
  refine At.seq fun K3 hk_3 => ?_
  refine At.region ?_
  refine op_move (nxlf rfl) rfl rfl ?_
  refine op_move (nxlf rfl) rfl rfl ?_
  refine op_callA (nxla rfl) (.cons rfl (.cons rfl .nil)) (Cmp32_f ha hb) Try.func17 rfl rfl (by simp) rfl ?_
  rintro v20 L20 ⟨rfl, rfl⟩
  change At _ _ _ [R] _
  refine op_lss (nxlf rfl) rfl rfl rfl ?_
  refine At.opsNil ?_
  refine At.norm (hk_3 ?_)
  refine At.condP rfl (fun c21 => ?_) (fun c21 => ?_)
  · exfalso; omega
  · refine At.skip ?_
    refine At.norm (hk_2 ?_)
    refine At.seq fun K4 hk_4 => ?_
    refine At.region ?_
    refine op_move (nxlf rfl) rfl rfl ?_
    refine op_lenS (nxlf rfl) se43 rfl rfl ?_
    refine op_mulI (nxlf rfl) rfl rfl (by omega) (by omega) rfl ?_
    refine op_move (nxlf rfl) rfl rfl ?_
    refine op_callA (nxla rfl) (.cons rfl .nil) (rLen_f hb (by omega)) Try.func53 rfl rfl (by simp) rfl ?_
    rintro v27 L27 ⟨rfl, rfl⟩
    change At _ _ _ [R] _
    rw [v32_digsOf]
    refine op_subI (nxlf rfl) rfl rfl (by omega) (by omega) rfl ?_
    have e28 : (32 : Int) * (nb : Int) - ((bitLen B : Nat) : Int) = (s : Int) := by omega
    rw [e28]
    refine op_assign (nxlf rfl) rfl rfl ?_
    refine At.opsNil ?_
    refine At.norm (hk_4 ?_)
    refine At.seq fun K5 hk_5 => ?_
    refine At.region ?_
    refine op_move (nxlf rfl) rfl rfl ?_
    refine op_move (nxlf rfl) rfl rfl ?_
    refine op_assign (nxlf rfl) rfl rfl ?_
    refine op_assign (nxlf rfl) rfl rfl ?_
    refine At.opsNil ?_
    refine At.norm (hk_5 ?_)
    refine At.seq fun K6 hk_6 => ?_
    refine At.seq fun K7 hk_7 => ?_
    refine At.region ?_
    refine op_move (nxlf rfl) rfl rfl ?_
    refine op_gtr (nxlf rfl) rfl rfl rfl ?_
    refine At.opsNil ?_
    refine At.norm (hk_7 ?_)
    refine At.condP rfl (fun c32 => ?_) (fun c32 => ?_)
    · exfalso; omega
    · refine At.skip ?_
      refine At.norm (hk_6 ?_)
      refine At.seq fun K8 hk_8 => ?_
      refine At.region ?_
      have hx : RSl R 1 ax na ca (u32s (digsOf (A * 2 ^ s))) := by rw [hA1]; exact ha
      have hd : RSl R 1 bx nb cb (u32s (digsOf (B * 2 ^ s))) := by rw [hB1]; exact hb
      have hxlen := hx.len32
      generalize hX : digsOf (A * 2 ^ s) = X at *
      rw [← hxlen] at hx
      rw [show Value.slice ax na ca = Value.slice ax X.length ca by rw [hxlen]]
      refine op_move (nxlf rfl) rfl rfl ?_
      refine op_lenS (nxlf rfl) se43 rfl rfl ?_
      refine op_addI (nxlf rfl) rfl rfl (by omega) (by omega) rfl ?_
      refine op_make (nxla rfl) Try.underlying43 te80 rfl rfl (show _ = (((na + 2 : Nat)) : Int) from by omega) (show _ = (((na + 2 : Nat)) : Int) from by omega) (by omega) (by unfold maxLen; omega) rfl (fun N42 a42 r42 => ?_)
      rw [made_one _ _ rfl, zero_u32s] at r42
      have s42 := r42.rsl
      refine op_assign (nxlf rfl) rfl rfl ?_
      refine At.opsNil ?_
      refine At.norm (hk_8 ?_)
      refine At.seq fun K9 hk_9 => ?_
      refine At.seq fun K10 hk_10 => ?_
      refine At.region ?_
      refine op_assign (nxlf rfl) rfl rfl ?_
      refine At.opsNil ?_
      refine At.norm (hk_10 ?_)
      refine At.block ?_
      refine At.loop (fun fr_ hp_ ms_ => ∃ (j : Nat) (N42 : Heaplet), fr_ = [(6, .int .i64 (s : Int)), (7, .slice bx nb cb), (8, .slice ax X.length ca), (9, .slice a42 (na + 2) (na + 2)), (10, .int .i64 (j : Int))] ∧ hp_ = [N42, R] ∧ X.length - j = ms_ ∧ (j ≤ X.length) ∧ (Row N42 80 1 a42 (na + 2) (na + 2) (u32s (X.take j ++ List.replicate (na + 2 - j) 0)))) ?_ (.refl _) ⟨0, N42, rfl, rfl, rfl, by omega, by simpa using r42⟩ ?_
      · exact .cons (by first | exact lkI rfl (by omega) | rfl | exact lkB rfl (by rw [decide_eq_decide]; omega)) (.cons (by first | exact lkI rfl (by omega) | rfl | exact lkB rfl (by rw [decide_eq_decide]; omega)) (.cons (by first | exact lkI rfl (by omega) | rfl | exact lkB rfl (by rw [decide_eq_decide]; omega)) (.cons (by first | exact lkI rfl (by omega) | rfl | exact lkB rfl (by rw [decide_eq_decide]; omega)) (.cons (by first | exact lkI rfl (by omega) | rfl | exact lkB rfl (by rw [decide_eq_decide]; omega)) .nil))))
      rintro _ _ _ ⟨j, N42, rfl, rfl, rfl, hj, r42⟩
      have s42 := r42.rsl
      have hjl : (X.take j).length = j := by rw [List.length_take]; omega
      refine At.seq fun K11 hk_11 => ?_
      refine At.seq fun K12 hk_12 => ?_
      refine At.region ?_
      refine op_move (nxlf rfl) rfl rfl ?_
      refine op_move (nxlf rfl) rfl rfl ?_
      refine op_lenS (nxlf rfl) se43 rfl rfl ?_
      refine op_lss (nxlf rfl) rfl rfl rfl ?_
      refine At.opsNil ?_
      refine At.norm (hk_12 ?_)
      refine At.condP rfl (fun c46 => ?_) (fun c46 => ?_)
      · refine At.skip ?_
        refine At.norm (hk_11 ?_)
        refine At.seq fun K13 hk_13 => ?_
        refine At.block ?_
        refine At.region ?_
        refine op_move (nxlf rfl) rfl rfl ?_
        refine op_move (nxlf rfl) rfl rfl ?_
        refine op_move (nxlf rfl) rfl rfl ?_
        refine op_move (nxlf rfl) rfl rfl ?_
        refine op_idx1 (nxlf rfl) se43 rfl rfl hx (show _ = (((j : Nat)) : Int) from by omega) (by omega) rfl ?_
        refine op_loadE (nxlf rfl) sc80 rfl hx (by first | exact get8 (by omega) | exact get64 (by omega) | exact get32 (by omega)) (by first | exact mem0 | exact mem1 | exact mem2 | exact mem3 | exact mem4 | exact mem5 | exact mem6 | exact mem7 | exact mem8 | exact mem9) rfl ?_
        refine op_idx1 (nxlf rfl) se43 rfl rfl s42 (show _ = (((j : Nat)) : Int) from by omega) (by omega) rfl ?_
        refine op_storeE (nxl rfl) sz80 rfl rfl rfl rfl rfl r42 (by simp [u32s]; omega) (by simp) sel0 (fun N42 r42 => ?_)
        simp only [setL] at r42
        rw [set_u32s, set_fill hjl (by omega), take_ext (by omega)] at r42
        have s42 := r42.rsl
        refine At.opsNil ?_
        refine At.inNorm ?_
        refine At.norm (hk_13 ?_)
        refine At.region ?_
        refine op_move (nxlf rfl) rfl rfl ?_
        refine op_addI (nxlf rfl) rfl rfl (by omega) (by omega) rfl ?_
        refine op_assign (nxlf rfl) rfl rfl ?_
        refine At.opsNil ?_
        refine At.norm ?_
        refine At.back ?_ (.refl _) ⟨j + 1, N42, rfl, rfl, rfl, by omega, r42⟩ ?_
        · exact .cons (by first | exact lkI rfl (by omega) | rfl | exact lkB rfl (by rw [decide_eq_decide]; omega)) (.cons (by first | exact lkI rfl (by omega) | rfl | exact lkB rfl (by rw [decide_eq_decide]; omega)) (.cons (by first | exact lkI rfl (by omega) | rfl | exact lkB rfl (by rw [decide_eq_decide]; omega)) (.cons (by first | exact lkI rfl (by omega) | rfl | exact lkB rfl (by rw [decide_eq_decide]; omega)) (.cons (by first | exact lkI rfl (by omega) | rfl | exact lkB rfl (by rw [decide_eq_decide]; omega)) .nil))))
        · omega
      · refine At.exit (At.thenExit (At.thenExit (At.inHit ?_)))
        refine At.norm (hk_9 ?_)
        refine At.seq fun K14 hk_14 => ?_
        refine At.region ?_
        have hjX : j = X.length := by omega
        rw [hjX, List.take_of_length_le (Nat.le_refl _)] at r42
        have hC0l : (X ++ List.replicate (na + 2 - X.length) (0 : UInt32)).length = na + 2 := by rw [List.length_append, List.length_replicate]; omega
        have hC0v := v32_pad' X (na + 2 - X.length)
        rw [hxv] at hC0v
        generalize X ++ List.replicate (na + 2 - X.length) (0 : UInt32) = C0 at *
        have hts := top_small32 hC0l hC0v hA h32 hnb1 (by omega) hV1
        refine op_move (nxlf rfl) rfl rfl ?_
        refine op_lenS (nxlf rfl) se43 rfl rfl ?_
        refine op_assign (nxlf rfl) rfl rfl ?_
        refine At.opsNil ?_
        refine At.norm (hk_14 ?_)
        refine At.seq fun K15 hk_15 => ?_
        refine At.region ?_
        refine op_move (nxlf rfl) rfl rfl ?_
        refine op_lenS (nxlf rfl) se43 rfl rfl ?_
        refine op_move (nxlf rfl) rfl rfl ?_
        refine op_subI (nxlf rfl) rfl rfl (by omega) (by omega) rfl ?_
        refine op_make (nxla rfl) Try.underlying43 te80 rfl rfl (show _ = (((na + 2 - nb : Nat)) : Int) from by omega) (show _ = (((na + 2 - nb : Nat)) : Int) from by omega) (by omega) (by unfold maxLen; omega) rfl (fun N62 a62 r62 => ?_)
        rw [made_one _ _ rfl, zero_u32s] at r62
        have s62 := r62.rsl
        refine op_assign (nxlf rfl) rfl rfl ?_
        refine At.opsNil ?_
        refine At.norm (hk_15 ?_)
        refine At.seq fun K16 hk_16 => ?_
        refine At.seq fun K17 hk_17 => ?_
        refine At.region ?_
        refine op_move (nxlf rfl) rfl rfl ?_
        refine op_lenS (nxlf rfl) se43 rfl rfl ?_
        refine op_move (nxlf rfl) rfl rfl ?_
        refine op_subI (nxlf rfl) rfl rfl (by omega) (by omega) rfl ?_
        refine op_subI (nxlf rfl) rfl rfl (by omega) (by omega) rfl ?_
        refine op_assign (nxlf rfl) rfl rfl ?_
        refine At.opsNil ?_
        refine At.norm (hk_17 ?_)
        refine At.block ?_
        refine At.loop (fun fr_ hp_ ms_ => ∃ (J : Nat) (C qh : List UInt32) (N42 N62 : Heaplet), fr_ = [(6, .int .i64 (s : Int)), (7, .slice bx nb cb), (9, .slice a42 (na + 2) (na + 2)), (11, .int .i64 (nb : Int)), (12, .slice a62 (na + 2 - nb) (na + 2 - nb)), (13, .int .i64 ((J : Int) - 1))] ∧ hp_ = [N62, N42, R] ∧ J = ms_ ∧ (J ≤ na + 2 - nb) ∧ (C.length = na + 2) ∧ (v32 C + v32 (List.replicate J 0 ++ qh) * (B * 2 ^ s) = A * 2 ^ s) ∧ (v32 (C.drop J) < B * 2 ^ s) ∧ (Row N42 80 1 a42 (na + 2) (na + 2) (u32s C)) ∧ (Row N62 80 1 a62 (na + 2 - nb) (na + 2 - nb) (u32s (List.replicate J 0 ++ qh)))) ?_ (.refl _) ⟨na + 2 - nb, C0, [], N42, N62, rfl, rfl, rfl, by omega, hC0l, by rw [List.append_nil, v32_replicate, Nat.zero_mul, Nat.add_zero]; exact hC0v, hts, r42, by rw [List.append_nil]; exact r62⟩ ?_
        · exact .cons (by first | exact lkI rfl (by omega) | rfl | exact lkB rfl (by rw [decide_eq_decide]; omega)) (.cons (by first | exact lkI rfl (by omega) | rfl | exact lkB rfl (by rw [decide_eq_decide]; omega)) (.cons (by first | exact lkI rfl (by omega) | rfl | exact lkB rfl (by rw [decide_eq_decide]; omega)) (.cons (by first | exact lkI rfl (by omega) | rfl | exact lkB rfl (by rw [decide_eq_decide]; omega)) (.cons (by first | exact lkI rfl (by omega) | rfl | exact lkB rfl (by rw [decide_eq_decide]; omega)) (.cons (by first | exact lkI rfl (by omega) | rfl | exact lkB rfl (by rw [decide_eq_decide]; omega)) .nil)))))
        rintro _ _ _ ⟨J, C, qh, N42, N62, rfl, rfl, rfl, hJ, hCl, hv, hC, r42, r62⟩
        have s42 := r42.rsl
        have s62 := r62.rsl
        refine At.seq fun K18 hk_18 => ?_
        refine At.seq fun K19 hk_19 => ?_
        refine At.region ?_
        refine op_move (nxlf rfl) rfl rfl ?_
        refine op_geq (nxlf rfl) rfl rfl rfl ?_
        refine At.opsNil ?_
        refine At.norm (hk_19 ?_)
        refine At.condP rfl (fun c69 => ?_) (fun c69 => ?_)
        · refine At.skip ?_
          refine At.norm (hk_18 ?_)
          refine At.seq fun K20 hk_20 => ?_
          refine At.block ?_
          refine At.seq fun K21 hk_21 => ?_
          refine At.drawnS [N62, N42, R] [] [] [0,1,2,3,4,5,6,7,8,9,10,11,12,13,14,15,16,17] (by kernel_rfl) (by kernel_rfl) (.refl _) ?_
          refine op_move (nxsf rfl rfl rfl) rfl rfl ?_
          refine op_move (nxsf rfl rfl rfl) rfl rfl ?_
          refine op_move (nxsf rfl rfl rfl) rfl rfl ?_
          refine op_addI (nxsf rfl rfl rfl) rfl rfl (by omega) (by omega) rfl ?_
          refine op_idx1 (nxsf rfl rfl rfl) se43 rfl rfl s42 (show _ = (((J - 1 + nb : Nat)) : Int) from by omega) (by omega) rfl ?_
          refine op_loadE (nxsf rfl rfl rfl) sc80 rfl s42 (by first | exact get8 (by omega) | exact get64 (by omega) | exact get32 (by omega)) (by first | exact mem0 | exact mem1 | exact mem2 | exact mem3 | exact mem4 | exact mem5 | exact mem6 | exact mem7 | exact mem8 | exact mem9) rfl ?_
          refine op_conv64 (nxsf rfl rfl rfl) (und_some Try.underlying80) Try.underlying27 rfl (by first | rfl | exact (Int.toNat_of_nonneg (by omega)).symm) rfl ?_
          refine op_shlU (nxsf rfl rfl rfl) rfl rfl (show _ = ((32 : Nat) : Int) from rfl) rfl ?_
          refine op_move (nxsf rfl rfl rfl) rfl rfl ?_
          refine op_move (nxsf rfl rfl rfl) rfl rfl ?_
          refine op_move (nxsf rfl rfl rfl) rfl rfl ?_
          refine op_addI (nxsf rfl rfl rfl) rfl rfl (by omega) (by omega) rfl ?_
          refine op_subI (nxsf rfl rfl rfl) rfl rfl (by omega) (by omega) rfl ?_
          refine op_idx1 (nxsf rfl rfl rfl) se43 rfl rfl s42 (show _ = (((J - 1 + nb - 1 : Nat)) : Int) from by omega) (by omega) rfl ?_
          refine op_loadE (nxsf rfl rfl rfl) sc80 rfl s42 (by first | exact get8 (by omega) | exact get64 (by omega) | exact get32 (by omega)) (by first | exact mem0 | exact mem1 | exact mem2 | exact mem3 | exact mem4 | exact mem5 | exact mem6 | exact mem7 | exact mem8 | exact mem9) rfl ?_
          refine op_conv64 (nxsf rfl rfl rfl) (und_some Try.underlying80) Try.underlying27 rfl (by first | rfl | exact (Int.toNat_of_nonneg (by omega)).symm) rfl ?_
          refine op_orU (nxsf rfl rfl rfl) rfl rfl rfl ?_
          have hw := win_lt32 (G := C) (j := J - 1) (n := nb) (V := B * 2 ^ s) (by omega) (by rw [show J - 1 + 1 = J by omega]; exact hC) (Nat.le_of_lt hV2)
          have hwl : ((C.drop (J - 1)).take (nb + 1)).length = nb + 1 := by rw [List.length_take, List.length_drop]; omega
          have hsp := win_split C (J - 1) (nb + 1)
          have hpre : (C.take (J - 1)).length = J - 1 := by rw [List.length_take]; omega
          have htop : (shl64 (UInt64.ofNat (C.getD (J - 1 + nb) 0).toNat) 32 ||| UInt64.ofNat (C.getD (J - 1 + nb - 1) 0).toNat).toNat = (((C.drop (J - 1)).take (nb + 1)).getD nb 0).toNat * 4294967296 + (((C.drop (J - 1)).take (nb + 1)).getD (nb - 1) 0).toNat := by
            rw [UInt64.toNat_or, Nat.or_comm, ← UInt64.toNat_or, or_hi32, win_getD (by omega), win_getD (by omega), show J - 1 + (nb - 1) = J - 1 + nb - 1 by omega, Nat.add_comm]
          generalize shl64 (UInt64.ofNat (C.getD (J - 1 + nb) 0).toNat) 32 ||| UInt64.ofNat (C.getD (J - 1 + nb - 1) 0).toNat = tp at *
          have hQB : v32 ((C.drop (J - 1)).take (nb + 1)) / (B * 2 ^ s) < 4294967296 := by rw [Nat.div_lt_iff_lt_mul hVp, Nat.mul_comm]; exact hw.1
          have hqg := qhat_ge32 (u := (C.drop (J - 1)).take (nb + 1)) (v := digsOf (B * 2 ^ s)) (n := nb) (Q := v32 ((C.drop (J - 1)).take (nb + 1)) / (B * 2 ^ s)) hwl hdl hnb1 (by rw [hdv]; exact Nat.div_mul_le_self _ _) hdt
          refine op_assign (nxsf rfl rfl rfl) rfl rfl ?_
          refine At.sNil ?_
          refine At.norm (hk_21 ?_)
          refine At.seq fun K22 hk_22 => ?_
          refine At.region ?_
          refine op_move (nxlf rfl) rfl rfl ?_
          refine op_move (nxlf rfl) rfl rfl ?_
          refine op_move (nxlf rfl) rfl rfl ?_
          refine op_subI (nxlf rfl) rfl rfl (by omega) (by omega) rfl ?_
          refine op_idx1 (nxlf rfl) se43 rfl rfl hd (show _ = (((nb - 1 : Nat)) : Int) from by omega) (by omega) rfl ?_
          refine op_loadE (nxlf rfl) sc80 rfl hd (by first | exact get8 (by omega) | exact get64 (by omega) | exact get32 (by omega)) (by first | exact mem0 | exact mem1 | exact mem2 | exact mem3 | exact mem4 | exact mem5 | exact mem6 | exact mem7 | exact mem8 | exact mem9) rfl ?_
          refine op_conv64 (nxlf rfl) (und_some Try.underlying80) Try.underlying27 rfl (by first | rfl | exact (Int.toNat_of_nonneg (by omega)).symm) rfl ?_
          refine op_quoU (nxlf rfl) rfl rfl (by rw [of32]; omega) rfl ?_
          have hg0 : (tp / UInt64.ofNat ((digsOf (B * 2 ^ s)).getD (nb - 1) 0).toNat).toNat = tp.toNat / ((digsOf (B * 2 ^ s)).getD (nb - 1) 0).toNat := by rw [UInt64.toNat_div, of32]
          rw [← htop, ← hg0] at hqg
          generalize tp / UInt64.ofNat ((digsOf (B * 2 ^ s)).getD (nb - 1) 0).toNat = g0 at *
          refine op_assign (nxlf rfl) rfl rfl ?_
          refine At.opsNil ?_
          refine At.norm (hk_22 ?_)
          refine At.seq fun K23 hk_23 => ?_
          refine At.meet (fun fr_ hp_ => ∃ (g1 : UInt64), fr_ = [(6, .int .i64 (s : Int)), (7, .slice bx nb cb), (9, .slice a42 (na + 2) (na + 2)), (11, .int .i64 (nb : Int)), (12, .slice a62 (na + 2 - nb) (na + 2 - nb)), (13, .int .i64 ((J : Int) - 1)), (15, .int .u64 (g1.toNat : Int))] ∧ hp_ = [N62, N42, R] ∧ (g1.toNat ≤ 4294967295) ∧ (v32 ((C.drop (J - 1)).take (nb + 1)) / (B * 2 ^ s) ≤ g1.toNat)) ?_ (fun K23_ jk_23 => ?_)
          rotate_left
          · skip
            refine At.seq fun K24 hk_24 => ?_
            refine At.region ?_
            refine op_move (nxlf rfl) rfl rfl ?_
            refine op_gtr (nxlf rfl) rfl rfl rfl ?_
            refine At.opsNil ?_
            refine At.norm (hk_24 ?_)
            refine At.condP rfl (fun c98 => ?_) (fun c98 => ?_)
            · refine At.region ?_
              refine op_assign (nxlf rfl) rfl rfl ?_
              refine At.opsNil ?_
              refine At.norm (jk_23 ?_ (.refl _) ⟨4294967295, rfl, rfl, by decide, by show _ ≤ 4294967295; omega⟩)
              exact .cons (by first | exact lkI rfl (by omega) | rfl | exact lkB rfl (by rw [decide_eq_decide]; omega)) (.cons (by first | exact lkI rfl (by omega) | rfl | exact lkB rfl (by rw [decide_eq_decide]; omega)) (.cons (by first | exact lkI rfl (by omega) | rfl | exact lkB rfl (by rw [decide_eq_decide]; omega)) (.cons (by first | exact lkI rfl (by omega) | rfl | exact lkB rfl (by rw [decide_eq_decide]; omega)) (.cons (by first | exact lkI rfl (by omega) | rfl | exact lkB rfl (by rw [decide_eq_decide]; omega)) (.cons (by first | exact lkI rfl (by omega) | rfl | exact lkB rfl (by rw [decide_eq_decide]; omega)) (.cons (by first | exact lkI rfl (by omega) | rfl | exact lkB rfl (by rw [decide_eq_decide]; omega)) .nil))))))
            · refine At.skip ?_
              refine At.norm (jk_23 ?_ (.refl _) ⟨g0, rfl, rfl, by omega, hqg⟩)
              exact .cons (by first | exact lkI rfl (by omega) | rfl | exact lkB rfl (by rw [decide_eq_decide]; omega)) (.cons (by first | exact lkI rfl (by omega) | rfl | exact lkB rfl (by rw [decide_eq_decide]; omega)) (.cons (by first | exact lkI rfl (by omega) | rfl | exact lkB rfl (by rw [decide_eq_decide]; omega)) (.cons (by first | exact lkI rfl (by omega) | rfl | exact lkB rfl (by rw [decide_eq_decide]; omega)) (.cons (by first | exact lkI rfl (by omega) | rfl | exact lkB rfl (by rw [decide_eq_decide]; omega)) (.cons (by first | exact lkI rfl (by omega) | rfl | exact lkB rfl (by rw [decide_eq_decide]; omega)) (.cons (by first | exact lkI rfl (by omega) | rfl | exact lkB rfl (by rw [decide_eq_decide]; omega)) .nil))))))
          rintro _ _ ⟨g1, rfl, rfl, hg1, hg2⟩
          refine hk_23 ?_
          refine At.seq fun K25 hk_25 => ?_
          refine At.meet (fun fr_ hp_ => ∃ (x : List UInt32) (g : UInt64) (M42 : Heaplet), fr_ = [(6, .int .i64 (s : Int)), (7, .slice bx nb cb), (9, .slice a42 (na + 2) (na + 2)), (11, .int .i64 (nb : Int)), (12, .slice a62 (na + 2 - nb) (na + 2 - nb)), (13, .int .i64 ((J : Int) - 1)), (15, .int .u64 (g.toNat : Int))] ∧ hp_ = [N62, M42, R] ∧ (x.length = nb + 1) ∧ (g.toNat ≤ 4294967295) ∧ (v32 x + g.toNat * (B * 2 ^ s) = v32 ((C.drop (J - 1)).take (nb + 1))) ∧ (v32 x < B * 2 ^ s) ∧ (Row M42 80 1 a42 (na + 2) (na + 2) (u32s (C.take (J - 1) ++ x ++ C.drop (J - 1 + (nb + 1)))))) ?_ (fun K25_ jk_25 => ?_)
          rotate_left
          · skip
            refine At.seq fun K26 hk_26 => ?_
            refine At.region ?_
            refine op_move (nxlf rfl) rfl rfl ?_
            refine op_move (nxlf rfl) rfl rfl ?_
            refine op_move (nxlf rfl) rfl rfl ?_
            refine op_move (nxlf rfl) rfl rfl ?_
            rw [hsp] at r42
            rw [show (J : Int) - 1 = ((J - 1 : Nat) : Int) by omega]
            refine At.perm sel2 ?_
            refine At.perm sel1 ?_
            refine At.perm sel2 ?_
            refine op_call (nxl rfl) (.cons rfl (.cons rfl (.cons rfl (.cons rfl .nil)))) (less_f r42 hd hpre hwl (by omega) (by omega) hg1) (F := [N62, R]) Try.func63 rfl rfl (.refl _) (by simp) rfl ?_
            rintro v103 L103 ⟨M42, x1, bw, rfl, rfl, r42, hx1l, hbw, hx1⟩
            change At _ _ _ [M42, N62, R] _
            skip
            rw [hdv, hwl] at hx1
            rw [hwl] at hx1l
            have hU := v32_lt ((C.drop (J - 1)).take (nb + 1))
            rw [hwl] at hU
            refine At.opsNil ?_
            refine At.norm (hk_26 ?_)
            refine At.condP rfl (fun c103 => ?_) (fun c103 => ?_)
            · refine At.seq fun K27 hk_27 => ?_
              refine At.region ?_
              refine op_assign (nxlf rfl) rfl rfl ?_
              refine At.opsNil ?_
              refine At.norm (hk_27 ?_)
              refine At.block ?_
              refine At.perm sel2 ?_
              refine At.perm sel1 ?_
              refine At.perm sel2 ?_
              refine At.loop (fun fr_ hp_ ms_ => ∃ (x : List UInt32) (g : UInt64) (bo : Nat) (M42 : Heaplet), fr_ = [(6, .int .i64 (s : Int)), (7, .slice bx nb cb), (9, .slice a42 (na + 2) (na + 2)), (11, .int .i64 (nb : Int)), (12, .slice a62 (na + 2 - nb) (na + 2 - nb)), (13, .int .i64 ((J : Int) - 1)), (15, .int .u64 (g.toNat : Int)), (16, .bool (decide (bo = 1)))] ∧ hp_ = [N62, M42, R] ∧ g.toNat = ms_ ∧ (x.length = nb + 1) ∧ (g.toNat ≤ 4294967295) ∧ (bo ≤ 1) ∧ (v32 x + g.toNat * (B * 2 ^ s) = v32 ((C.drop (J - 1)).take (nb + 1)) + bo * 2 ^ (32 * (nb + 1))) ∧ (bo = 0 → v32 x < B * 2 ^ s) ∧ (Row M42 80 1 a42 (na + 2) (na + 2) (u32s (C.take (J - 1) ++ x ++ C.drop (J - 1 + (nb + 1)))))) ?_ (.refl _) ⟨x1, g1, 1, M42, rfl, rfl, rfl, hx1l, hg1, by decide, by rw [show bw = 1 by omega] at hx1; exact hx1, by intro h; omega, r42⟩ ?_
              · exact .cons (by first | exact lkI rfl (by omega) | rfl | exact lkB rfl (by rw [decide_eq_decide]; omega)) (.cons (by first | exact lkI rfl (by omega) | rfl | exact lkB rfl (by rw [decide_eq_decide]; omega)) (.cons (by first | exact lkI rfl (by omega) | rfl | exact lkB rfl (by rw [decide_eq_decide]; omega)) (.cons (by first | exact lkI rfl (by omega) | rfl | exact lkB rfl (by rw [decide_eq_decide]; omega)) (.cons (by first | exact lkI rfl (by omega) | rfl | exact lkB rfl (by rw [decide_eq_decide]; omega)) (.cons (by first | exact lkI rfl (by omega) | rfl | exact lkB rfl (by rw [decide_eq_decide]; omega)) (.cons (by first | exact lkI rfl (by omega) | rfl | exact lkB rfl (by rw [decide_eq_decide]; omega)) (.cons (by first | exact lkI rfl (by omega) | rfl | exact lkB rfl (by rw [decide_eq_decide]; omega)) .nil)))))))
              rintro _ _ _ ⟨x, g, bo, M42, rfl, rfl, rfl, hxl2, hg, hbo, hx2, hx3, r42⟩
              have s42 := r42.rsl
              have hxal : (C.take (J - 1) ++ x ++ C.drop (J - 1 + (nb + 1))).length = na + 2 := by rw [List.length_append, List.length_append, List.length_take, List.length_drop]; omega
              have hxt : (C.take (J - 1) ++ x ++ C.drop (J - 1 + (nb + 1))).getD (J - 1 + nb) 0 = x.getD nb 0 := by rw [List.append_assoc, getD_right hpre, getD_app (by omega)]
              refine At.seq fun K28 hk_28 => ?_
              refine At.seq fun K29 hk_29 => ?_
              refine At.region ?_
              refine op_move (nxlf rfl) rfl rfl ?_
              refine At.opsNil ?_
              refine At.norm (hk_29 ?_)
              refine At.condP rfl (fun c104 => ?_) (fun c104 => ?_)
              · refine At.skip ?_
                refine At.norm (hk_28 ?_)
                refine At.block ?_
                refine At.seq fun K30 hk_30 => ?_
                refine At.region ?_
                refine op_move (nxlf rfl) rfl rfl ?_
                refine op_subU (b := 1) (nxlf rfl) rfl rfl rfl ?_
                refine op_assign (nxlf rfl) rfl rfl ?_
                refine At.opsNil ?_
                refine At.norm (hk_30 ?_)
                refine At.seq fun K31 hk_31 => ?_
                refine At.region ?_
                refine op_move (nxlf rfl) rfl rfl ?_
                refine op_move (nxlf rfl) rfl rfl ?_
                refine op_move (nxlf rfl) rfl rfl ?_
                refine op_addI (nxlf rfl) rfl rfl (by omega) (by omega) rfl ?_
                refine op_idx1 (nxlf rfl) se43 rfl rfl s42 (show _ = (((J - 1 + nb : Nat)) : Int) from by omega) (by omega) rfl ?_
                refine op_loadE (nxlf rfl) sc80 rfl s42 (by first | exact get8 (by omega) | exact get64 (by omega) | exact get32 (by omega)) (by first | exact mem0 | exact mem1 | exact mem2 | exact mem3 | exact mem4 | exact mem5 | exact mem6 | exact mem7 | exact mem8 | exact mem9) rfl ?_
                rw [hxt]
                refine op_assign (nxlf rfl) rfl rfl ?_
                refine At.opsNil ?_
                refine At.norm (hk_31 ?_)
                refine At.seq fun K32 hk_32 => ?_
                refine At.region ?_
                refine op_move (nxlf rfl) rfl rfl ?_
                refine op_move (nxlf rfl) rfl rfl ?_
                refine op_move (nxlf rfl) rfl rfl ?_
                rw [show (J : Int) - 1 = ((J - 1 : Nat) : Int) by omega]
                refine At.perm sel2 ?_
                refine At.perm sel1 ?_
                refine At.perm sel2 ?_
                refine op_call (nxl rfl) (.cons rfl (.cons rfl (.cons rfl .nil))) (back_f r42 hd hpre hxl2 (by omega) (by omega)) (F := [N62, R]) Try.func64 rfl rfl (.refl _) (by simp) rfl ?_
                rintro v116 L116 ⟨M42, x2, cc, rfl, rfl, r42, hx2l, hcc, hxb, hxc⟩
                change At _ _ _ [M42, N62, R] _
                skip
                have s42 := r42.rsl
                have hx2al : (C.take (J - 1) ++ x2 ++ C.drop (J - 1 + (nb + 1))).length = na + 2 := by rw [List.length_append, List.length_append, List.length_take, List.length_drop]; omega
                have hx2t : (C.take (J - 1) ++ x2 ++ C.drop (J - 1 + (nb + 1))).getD (J - 1 + nb) 0 = x2.getD nb 0 := by rw [List.append_assoc, getD_right hpre, getD_app (by omega)]
                have hb1 : bo = 1 := by omega
                rw [hb1] at hx2
                have e1 := v32_lt x
                have e2 := v32_lt x2
                rw [hxl2] at e1 hxb
                rw [show x2.length = nb + 1 by omega] at e2
                rw [hdv] at hxb
                rw [hdl] at hxc
                obtain ⟨m1, m2, m3⟩ := step_back hx2 (by omega) e1 hxb hcc e2
                have hgm := sub_one64 m1
                refine At.opsNil ?_
                refine At.norm (hk_32 ?_)
                refine At.region ?_
                refine op_move (nxlf rfl) rfl rfl ?_
                refine op_move (nxlf rfl) rfl rfl ?_
                refine op_move (nxlf rfl) rfl rfl ?_
                refine op_addI (nxlf rfl) rfl rfl (by omega) (by omega) rfl ?_
                refine op_idx1 (nxlf rfl) se43 rfl rfl s42 (show _ = (((J - 1 + nb : Nat)) : Int) from by omega) (by omega) rfl ?_
                refine op_loadE (nxlf rfl) sc80 rfl s42 (by first | exact get8 (by omega) | exact get64 (by omega) | exact get32 (by omega)) (by first | exact mem0 | exact mem1 | exact mem2 | exact mem3 | exact mem4 | exact mem5 | exact mem6 | exact mem7 | exact mem8 | exact mem9) rfl ?_
                rw [hx2t]
                refine op_move (nxlf rfl) rfl rfl ?_
                refine op_geq (nxlf rfl) rfl rfl rfl ?_
                refine op_assign (nxlf rfl) rfl rfl ?_
                refine At.opsNil ?_
                refine At.inNorm ?_
                refine At.norm ?_
                refine At.perm sel2 ?_
                refine At.perm sel1 ?_
                refine At.perm sel2 ?_
                refine At.back ?_ (.refl _) ⟨x2, g - 1, 1 - cc, M42, rfl, rfl, rfl, by omega, by rw [hgm]; omega, by omega, by rw [hgm]; exact m2, m3, r42⟩ ?_
                · exact .cons (by first | exact lkI rfl (by omega) | rfl | exact lkB rfl (by rw [decide_eq_decide]; omega)) (.cons (by first | exact lkI rfl (by omega) | rfl | exact lkB rfl (by rw [decide_eq_decide]; omega)) (.cons (by first | exact lkI rfl (by omega) | rfl | exact lkB rfl (by rw [decide_eq_decide]; omega)) (.cons (by first | exact lkI rfl (by omega) | rfl | exact lkB rfl (by rw [decide_eq_decide]; omega)) (.cons (by first | exact lkI rfl (by omega) | rfl | exact lkB rfl (by rw [decide_eq_decide]; omega)) (.cons (by first | exact lkI rfl (by omega) | rfl | exact lkB rfl (by rw [decide_eq_decide]; omega)) (.cons (by first | exact lkI rfl (by omega) | rfl | exact lkB rfl (by rw [decide_eq_decide]; omega)) (.cons (by first | exact lkI rfl (by omega) | rfl | exact lkB rfl (by rw [decide_eq_decide]; omega)) .nil)))))))
                · omega
              · refine At.exit (At.thenExit (At.thenExit (At.inHit ?_)))
                refine At.norm (jk_25 ?_ (.refl _) ⟨x, g, M42, rfl, rfl, hxl2, hg, by rw [show bo = 0 by omega, Nat.zero_mul, Nat.add_zero] at hx2; exact hx2, hx3 (by omega), r42⟩)
                exact .cons (by first | exact lkI rfl (by omega) | rfl | exact lkB rfl (by rw [decide_eq_decide]; omega)) (.cons (by first | exact lkI rfl (by omega) | rfl | exact lkB rfl (by rw [decide_eq_decide]; omega)) (.cons (by first | exact lkI rfl (by omega) | rfl | exact lkB rfl (by rw [decide_eq_decide]; omega)) (.cons (by first | exact lkI rfl (by omega) | rfl | exact lkB rfl (by rw [decide_eq_decide]; omega)) (.cons (by first | exact lkI rfl (by omega) | rfl | exact lkB rfl (by rw [decide_eq_decide]; omega)) (.cons (by first | exact lkI rfl (by omega) | rfl | exact lkB rfl (by rw [decide_eq_decide]; omega)) (.cons (by first | exact lkI rfl (by omega) | rfl | exact lkB rfl (by rw [decide_eq_decide]; omega)) .nil))))))
            · refine At.skip ?_
              refine At.perm sel2 ?_
              refine At.perm sel1 ?_
              refine At.perm sel2 ?_
              refine At.norm (jk_25 ?_ (.refl _) ⟨x1, g1, M42, rfl, rfl, hx1l, hg1, by rw [show bw = 0 by omega, Nat.zero_mul, Nat.add_zero] at hx1; exact hx1, step_start (Q := 0) hVp hx1 hg2 (by omega), r42⟩)
              exact .cons (by first | exact lkI rfl (by omega) | rfl | exact lkB rfl (by rw [decide_eq_decide]; omega)) (.cons (by first | exact lkI rfl (by omega) | rfl | exact lkB rfl (by rw [decide_eq_decide]; omega)) (.cons (by first | exact lkI rfl (by omega) | rfl | exact lkB rfl (by rw [decide_eq_decide]; omega)) (.cons (by first | exact lkI rfl (by omega) | rfl | exact lkB rfl (by rw [decide_eq_decide]; omega)) (.cons (by first | exact lkI rfl (by omega) | rfl | exact lkB rfl (by rw [decide_eq_decide]; omega)) (.cons (by first | exact lkI rfl (by omega) | rfl | exact lkB rfl (by rw [decide_eq_decide]; omega)) (.cons (by first | exact lkI rfl (by omega) | rfl | exact lkB rfl (by rw [decide_eq_decide]; omega)) .nil))))))
          rintro _ _ ⟨x, g, M42, rfl, rfl, hxl2, hg, hx2, hx3, r42⟩
          refine hk_25 ?_
          refine At.region ?_
          refine op_move (nxlf rfl) rfl rfl ?_
          refine op_move (nxlf rfl) rfl rfl ?_
          refine op_move (nxlf rfl) rfl rfl ?_
          refine op_conv32 (nxlf rfl) (und_some Try.underlying27) Try.underlying80 rfl (by first | rfl | exact (Int.toNat_of_nonneg (by omega)).symm) rfl ?_
          refine op_idx1 (nxlf rfl) se43 rfl rfl s62 (show _ = (((J - 1 : Nat)) : Int) from by omega) (by omega) rfl ?_
          refine op_storeE (nxl rfl) sz80 rfl rfl rfl rfl rfl r62 (by simp <;> omega) (by simp) sel0 (fun N62 r62 => ?_)
          obtain ⟨k1, k2⟩ := step_end hx2 hx3
          have hgl : (lo32 g).toNat = g.toNat := by rw [lo32_nat]; omega
          obtain ⟨d1, d2, d3⟩ := div_round32 (qs := List.replicate J 0 ++ qh) (h := qh) (u' := x) (q := lo32 g) (j := J - 1) (by omega) (by rw [show J - 1 + 1 = J by omega]) hv hw.2.2 hw.2.1 hxl2 (by rw [hgl]; exact k1) k2 hVp
          simp only [setL] at r62
          rw [set_u32s] at r62
          change Row N62 _ 1 a62 _ _ (u32s ((List.replicate J 0 ++ qh).set (J - 1) (lo32 g))) at r62
          have s62 := r62.rsl
          refine At.opsNil ?_
          refine At.inNorm ?_
          refine At.norm (hk_20 ?_)
          refine At.region ?_
          refine op_move (nxlf rfl) rfl rfl ?_
          refine op_subI (nxlf rfl) rfl rfl (by omega) (by omega) rfl ?_
          refine op_assign (nxlf rfl) rfl rfl ?_
          refine At.opsNil ?_
          refine At.norm ?_
          refine At.back ?_ (.refl _) ⟨J - 1, C.take (J - 1) ++ x ++ C.drop (J - 1 + (nb + 1)), lo32 g :: qh, M42, N62, rfl, rfl, rfl, by omega, by rw [List.length_append, List.length_append, List.length_take, List.length_drop, hxl2]; omega, by rw [← d3]; exact d1, d2, r42, by rw [← d3]; exact r62⟩ ?_
          · exact .cons (by first | exact lkI rfl (by omega) | rfl | exact lkB rfl (by rw [decide_eq_decide]; omega)) (.cons (by first | exact lkI rfl (by omega) | rfl | exact lkB rfl (by rw [decide_eq_decide]; omega)) (.cons (by first | exact lkI rfl (by omega) | rfl | exact lkB rfl (by rw [decide_eq_decide]; omega)) (.cons (by first | exact lkI rfl (by omega) | rfl | exact lkB rfl (by rw [decide_eq_decide]; omega)) (.cons (by first | exact lkI rfl (by omega) | rfl | exact lkB rfl (by rw [decide_eq_decide]; omega)) (.cons (by first | exact lkI rfl (by omega) | rfl | exact lkB rfl (by rw [decide_eq_decide]; omega)) .nil)))))
          · omega
        · refine At.exit (At.thenExit (At.thenExit (At.inHit ?_)))
          refine At.norm (hk_16 ?_)
          refine At.seq fun K33 hk_33 => ?_
          refine At.seq fun K34 hk_34 => ?_
          refine At.region ?_
          have hJ0 : J = 0 := by omega
          subst hJ0
          rw [List.replicate_zero, List.nil_append] at hv r62
          rw [List.drop_zero] at hC
          obtain ⟨f1, f2⟩ := div_fin hv hC
          have s42 := r42.rsl
          have s62 := r62.rsl
          refine op_move (nxlf rfl) rfl rfl ?_
          refine op_eql (nxlf rfl) rfl rfl rfl ?_
          refine At.opsNil ?_
          refine At.norm (hk_34 ?_)
          refine At.condP rfl (fun c131 => ?_) (fun c131 => ?_)
          · refine At.seq fun K35 hk_35 => ?_
            refine At.region ?_
            refine op_move (nxlf rfl) rfl rfl ?_
            refine op_callA (nxla rfl) (.cons rfl .nil) (trim32_f s62) Try.func48 rfl rfl (by simp) rfl ?_
            rintro v133 L133 ⟨rfl, rfl, t133, l133⟩
            change At _ _ _ [N62, N42, R] _
            refine op_move (nxlf rfl) rfl rfl ?_
            refine op_callA (nxla rfl) (.cons rfl .nil) (trim32_f s42) Try.func48 rfl rfl (by simp) rfl ?_
            rintro v135 L135 ⟨rfl, rfl, t135, l135⟩
            change At _ _ _ [N62, N42, R] _
            refine op_assign (nxlf rfl) rfl rfl ?_
            refine op_assign (nxlf rfl) rfl rfl ?_
            refine At.opsNil ?_
            refine At.norm (hk_35 ?_)
            refine At.ret (At.thenRet (?_))
            refine At.retN (L1 := [N62, N42]) rfl (.tmp rfl (.tmp rfl .nil)) rfl (.refl _) (.refl _) ?_
            have h1 := trim32d s62 t133 l133
            have h2 := trim32d s42 t135 l135
            rw [hsz, Nat.pow_zero, Nat.div_one] at f2
            rw [f1] at h1 ⊢
            rw [f2] at h2 ⊢
            exact ⟨N62, a62, _, N42, a42, _, rfl, rfl, h1, h2⟩
          · exfalso; omega
set_option maxRecDepth 100000 in
set_option maxHeartbeats 2000000 in
theorem rDivMod_s1 {N M : Heaplet} {ax bx : Option Addr} {na nb ca cb A B s : Nat} (ha : RSl N 1 ax na ca (u32s (digsOf A))) (hb : RSl M 1 bx nb cb (u32s (digsOf B))) (hn : na ≤ 1099511627770) (hm : nb ≤ 1099511627770) (hge : B ≤ A) (hB : 0 < B) (hs : s = 32 * (digsOf B).length - bitLen B) (hsz : 0 < s) :
    Fn Try.prog 38 #[.slice ax na ca, .slice bx nb cb] [] [N, M] (DigsP2 (A / B) (A % B)) := by
  have hca := ha.cap63
  have hcb := hb.cap63
  have hal := ha.len32
  have hbl := hb.len32
  have hnc : ¬ cmpI A B < 0 := fun h => by have := cmpI_lt.1 h; omega
  obtain ⟨h32, hnb1, hdl, hV1, hV2⟩ := norm32 hB hs
  have hbb : bitLen B ≤ 32 * nb := by have := length_digsOf B; omega
  have hxl := x_len (A := A) h32
  have hA : A < 2 ^ (32 * (digsOf A).length) := by have := v32_lt (digsOf A); rwa [v32_digsOf] at this
  rw [hbl] at hs hnb1 hdl hV1 hV2
  rw [hal] at hxl hA
  have hnn : nb ≤ na := by
    have h1 := digs_mono hge
    omega
  have hVp : 0 < B * 2 ^ s := Nat.mul_pos hB (Nat.pow_pos (by decide))
  obtain ⟨_, hdt⟩ := digs_top hVp
  rw [hdl] at hdt
  have hdv := v32_digsOf (B * 2 ^ s)
  have hxv := v32_digsOf (A * 2 ^ s)
  refine Fn.enter (vs := [.slice ax na ca, .slice bx nb cb]) Try.func38 rfl rfl rfl ?_
  intro E R hR
  have ha := ha.le (hR N (by simp))
  have hb := hb.le (hR M (by simp))
  change At _ _ E [R] _
  refine At.seq fun K1 hk_1 => ?_
  refine At.region ?_
  refine op_assign (nxlf rfl) rfl rfl ?_
  refine op_assign (nxlf rfl) rfl rfl ?_
  refine At.opsNil ?_
  refine At.norm (hk_1 ?_)
  refine At.seq fun K2 hk_2 => ?_
  refine At.seq fun K3 hk_3 => ?_
  refine At.region ?_
  refine op_move (nxlf rfl) rfl rfl ?_
  refine op_move (nxlf rfl) rfl rfl ?_
  refine op_callA (nxla rfl) (.cons rfl (.cons rfl .nil)) (Cmp32_f ha hb) Try.func17 rfl rfl (by simp) rfl ?_
  rintro v20 L20 ⟨rfl, rfl⟩
  change At _ _ _ [R] _
  refine op_lss (nxlf rfl) rfl rfl rfl ?_
  refine At.opsNil ?_
  refine At.norm (hk_3 ?_)
  refine At.condP rfl (fun c21 => ?_) (fun c21 => ?_)
  · exfalso; omega
  · refine At.skip ?_
    refine At.norm (hk_2 ?_)
    refine At.seq fun K4 hk_4 => ?_
    refine At.region ?_
    refine op_move (nxlf rfl) rfl rfl ?_
    refine op_lenS (nxlf rfl) se43 rfl rfl ?_
    refine op_mulI (nxlf rfl) rfl rfl (by omega) (by omega) rfl ?_
    refine op_move (nxlf rfl) rfl rfl ?_
    refine op_callA (nxla rfl) (.cons rfl .nil) (rLen_f hb (by omega)) Try.func53 rfl rfl (by simp) rfl ?_
    rintro v27 L27 ⟨rfl, rfl⟩
    change At _ _ _ [R] _
    rw [v32_digsOf]
    refine op_subI (nxlf rfl) rfl rfl (by omega) (by omega) rfl ?_
    have e28 : (32 : Int) * (nb : Int) - ((bitLen B : Nat) : Int) = (s : Int) := by omega
    rw [e28]
    refine op_assign (nxlf rfl) rfl rfl ?_
    refine At.opsNil ?_
    refine At.norm (hk_4 ?_)
    refine At.seq fun K5 hk_5 => ?_
    refine At.region ?_
    refine op_move (nxlf rfl) rfl rfl ?_
    refine op_move (nxlf rfl) rfl rfl ?_
    refine op_assign (nxlf rfl) rfl rfl ?_
    refine op_assign (nxlf rfl) rfl rfl ?_
    refine At.opsNil ?_
    refine At.norm (hk_5 ?_)
    refine At.seq fun K6 hk_6 => ?_
    refine At.seq fun K7 hk_7 => ?_
    refine At.region ?_
    refine op_move (nxlf rfl) rfl rfl ?_
    refine op_gtr (nxlf rfl) rfl rfl rfl ?_
    refine At.opsNil ?_
    refine At.norm (hk_7 ?_)
    refine At.condP rfl (fun c32 => ?_) (fun c32 => ?_)
    · refine At.region ?_
      refine op_move (nxlf rfl) rfl rfl ?_
      refine op_move (nxlf rfl) rfl rfl ?_
      refine op_callA (nxla rfl) (.cons rfl (.cons rfl .nil)) (rShl_f hb s (by omega) (by omega)) Try.func41 rfl rfl (by simp) rfl ?_
      rintro v35 L35 ⟨M35, p35, c35, rfl, rfl, hd⟩
      change At _ _ _ [M35, R] _
      refine op_move (nxlf rfl) rfl rfl ?_
      refine op_move (nxlf rfl) rfl rfl ?_
      refine op_callA (nxla rfl) (.cons rfl (.cons rfl .nil)) (rShl_f ha s (by omega) (by omega)) Try.func41 rfl rfl (by simp) rfl ?_
      rintro v38 L38 ⟨M38, p38, c38, rfl, rfl, hx⟩
      change At _ _ _ [M38, M35, R] _
      rw [v32_digsOf] at hd hx
      rw [v32_digsOf, v32_digsOf, hdl]
      rw [hdl] at hd
      have hxlen := hx.len32
      generalize hX : digsOf (A * 2 ^ s) = X at *
      refine op_assign (nxlf rfl) rfl rfl ?_
      refine op_assign (nxlf rfl) rfl rfl ?_
      refine At.opsNil ?_
      refine At.norm (hk_6 ?_)
      refine At.seq fun K8 hk_8 => ?_
      refine At.region ?_
      refine op_move (nxlf rfl) rfl rfl ?_
      refine op_lenS (nxlf rfl) se43 rfl rfl ?_
      refine op_addI (nxlf rfl) rfl rfl (by omega) (by omega) rfl ?_
      refine op_make (nxla rfl) Try.underlying43 te80 rfl rfl (show _ = (((na + 2 : Nat)) : Int) from by omega) (show _ = (((na + 2 : Nat)) : Int) from by omega) (by omega) (by unfold maxLen; omega) rfl (fun N42 a42 r42 => ?_)
      rw [made_one _ _ rfl, zero_u32s] at r42
      have s42 := r42.rsl
      refine op_assign (nxlf rfl) rfl rfl ?_
      refine At.opsNil ?_
      refine At.norm (hk_8 ?_)
      refine At.seq fun K9 hk_9 => ?_
      refine At.seq fun K10 hk_10 => ?_
      refine At.region ?_
      refine op_assign (nxlf rfl) rfl rfl ?_
      refine At.opsNil ?_
      refine At.norm (hk_10 ?_)
      refine At.block ?_
      refine At.loop (fun fr_ hp_ ms_ => ∃ (j : Nat) (N42 : Heaplet), fr_ = [(6, .int .i64 (s : Int)), (7, .slice p35 nb c35), (8, .slice p38 X.length c38), (9, .slice a42 (na + 2) (na + 2)), (10, .int .i64 (j : Int))] ∧ hp_ = [N42, M38, M35, R] ∧ X.length - j = ms_ ∧ (j ≤ X.length) ∧ (Row N42 80 1 a42 (na + 2) (na + 2) (u32s (X.take j ++ List.replicate (na + 2 - j) 0)))) ?_ (.refl _) ⟨0, N42, rfl, rfl, rfl, by omega, by simpa using r42⟩ ?_
      · exact .cons (by first | exact lkI rfl (by omega) | rfl | exact lkB rfl (by rw [decide_eq_decide]; omega)) (.cons (by first | exact lkI rfl (by omega) | rfl | exact lkB rfl (by rw [decide_eq_decide]; omega)) (.cons (by first | exact lkI rfl (by omega) | rfl | exact lkB rfl (by rw [decide_eq_decide]; omega)) (.cons (by first | exact lkI rfl (by omega) | rfl | exact lkB rfl (by rw [decide_eq_decide]; omega)) (.cons (by first | exact lkI rfl (by omega) | rfl | exact lkB rfl (by rw [decide_eq_decide]; omega)) .nil))))
      rintro _ _ _ ⟨j, N42, rfl, rfl, rfl, hj, r42⟩
      have s42 := r42.rsl
      have hjl : (X.take j).length = j := by rw [List.length_take]; omega
      refine At.seq fun K11 hk_11 => ?_
      refine At.seq fun K12 hk_12 => ?_
      refine At.region ?_
      refine op_move (nxlf rfl) rfl rfl ?_
      refine op_move (nxlf rfl) rfl rfl ?_
      refine op_lenS (nxlf rfl) se43 rfl rfl ?_
      refine op_lss (nxlf rfl) rfl rfl rfl ?_
      refine At.opsNil ?_
      refine At.norm (hk_12 ?_)
      refine At.condP rfl (fun c46 => ?_) (fun c46 => ?_)
      · refine At.skip ?_
        refine At.norm (hk_11 ?_)
        refine At.seq fun K13 hk_13 => ?_
        refine At.block ?_
        refine At.region ?_
        refine op_move (nxlf rfl) rfl rfl ?_
        refine op_move (nxlf rfl) rfl rfl ?_
        refine op_move (nxlf rfl) rfl rfl ?_
        refine op_move (nxlf rfl) rfl rfl ?_
        refine op_idx1 (nxlf rfl) se43 rfl rfl hx (show _ = (((j : Nat)) : Int) from by omega) (by omega) rfl ?_
        refine op_loadE (nxlf rfl) sc80 rfl hx (by first | exact get8 (by omega) | exact get64 (by omega) | exact get32 (by omega)) (by first | exact mem0 | exact mem1 | exact mem2 | exact mem3 | exact mem4 | exact mem5 | exact mem6 | exact mem7 | exact mem8 | exact mem9) rfl ?_
        refine op_idx1 (nxlf rfl) se43 rfl rfl s42 (show _ = (((j : Nat)) : Int) from by omega) (by omega) rfl ?_
        refine op_storeE (nxl rfl) sz80 rfl rfl rfl rfl rfl r42 (by simp [u32s]; omega) (by simp) sel0 (fun N42 r42 => ?_)
        simp only [setL] at r42
        rw [set_u32s, set_fill hjl (by omega), take_ext (by omega)] at r42
        have s42 := r42.rsl
        refine At.opsNil ?_
        refine At.inNorm ?_
        refine At.norm (hk_13 ?_)
        refine At.region ?_
        refine op_move (nxlf rfl) rfl rfl ?_
        refine op_addI (nxlf rfl) rfl rfl (by omega) (by omega) rfl ?_
        refine op_assign (nxlf rfl) rfl rfl ?_
        refine At.opsNil ?_
        refine At.norm ?_
        refine At.back ?_ (.refl _) ⟨j + 1, N42, rfl, rfl, rfl, by omega, r42⟩ ?_
        · exact .cons (by first | exact lkI rfl (by omega) | rfl | exact lkB rfl (by rw [decide_eq_decide]; omega)) (.cons (by first | exact lkI rfl (by omega) | rfl | exact lkB rfl (by rw [decide_eq_decide]; omega)) (.cons (by first | exact lkI rfl (by omega) | rfl | exact lkB rfl (by rw [decide_eq_decide]; omega)) (.cons (by first | exact lkI rfl (by omega) | rfl | exact lkB rfl (by rw [decide_eq_decide]; omega)) (.cons (by first | exact lkI rfl (by omega) | rfl | exact lkB rfl (by rw [decide_eq_decide]; omega)) .nil))))
        · omega
      · refine At.exit (At.thenExit (At.thenExit (At.inHit ?_)))
        refine At.norm (hk_9 ?_)
        refine At.seq fun K14 hk_14 => ?_
        refine At.region ?_
        have hjX : j = X.length := by omega
        rw [hjX, List.take_of_length_le (Nat.le_refl _)] at r42
        have hC0l : (X ++ List.replicate (na + 2 - X.length) (0 : UInt32)).length = na + 2 := by rw [List.length_append, List.length_replicate]; omega
        have hC0v := v32_pad' X (na + 2 - X.length)
        rw [hxv] at hC0v
        generalize X ++ List.replicate (na + 2 - X.length) (0 : UInt32) = C0 at *
        have hts := top_small32 hC0l hC0v hA h32 hnb1 (by omega) hV1
        refine op_move (nxlf rfl) rfl rfl ?_
        refine op_lenS (nxlf rfl) se43 rfl rfl ?_
        refine op_assign (nxlf rfl) rfl rfl ?_
        refine At.opsNil ?_
        refine At.norm (hk_14 ?_)
        refine At.seq fun K15 hk_15 => ?_
        refine At.region ?_
        refine op_move (nxlf rfl) rfl rfl ?_
        refine op_lenS (nxlf rfl) se43 rfl rfl ?_
        refine op_move (nxlf rfl) rfl rfl ?_
        refine op_subI (nxlf rfl) rfl rfl (by omega) (by omega) rfl ?_
        refine op_make (nxla rfl) Try.underlying43 te80 rfl rfl (show _ = (((na + 2 - nb : Nat)) : Int) from by omega) (show _ = (((na + 2 - nb : Nat)) : Int) from by omega) (by omega) (by unfold maxLen; omega) rfl (fun N62 a62 r62 => ?_)
        rw [made_one _ _ rfl, zero_u32s] at r62
        have s62 := r62.rsl
        refine op_assign (nxlf rfl) rfl rfl ?_
        refine At.opsNil ?_
        refine At.norm (hk_15 ?_)
        refine At.seq fun K16 hk_16 => ?_
        refine At.seq fun K17 hk_17 => ?_
        refine At.region ?_
        refine op_move (nxlf rfl) rfl rfl ?_
        refine op_lenS (nxlf rfl) se43 rfl rfl ?_
        refine op_move (nxlf rfl) rfl rfl ?_
        refine op_subI (nxlf rfl) rfl rfl (by omega) (by omega) rfl ?_
        refine op_subI (nxlf rfl) rfl rfl (by omega) (by omega) rfl ?_
        refine op_assign (nxlf rfl) rfl rfl ?_
        refine At.opsNil ?_
        refine At.norm (hk_17 ?_)
        refine At.block ?_
        refine At.sub (L' := [N62, N42, M35, R]) (.cons_cons _ (.cons_cons _ (.cons _ (.cons_cons _ (.cons_cons _ (.slnil)))))) ?_
        refine At.loop (fun fr_ hp_ ms_ => ∃ (J : Nat) (C qh : List UInt32) (N42 N62 : Heaplet), fr_ = [(6, .int .i64 (s : Int)), (7, .slice p35 nb c35), (9, .slice a42 (na + 2) (na + 2)), (11, .int .i64 (nb : Int)), (12, .slice a62 (na + 2 - nb) (na + 2 - nb)), (13, .int .i64 ((J : Int) - 1))] ∧ hp_ = [N62, N42, M35, R] ∧ J = ms_ ∧ (J ≤ na + 2 - nb) ∧ (C.length = na + 2) ∧ (v32 C + v32 (List.replicate J 0 ++ qh) * (B * 2 ^ s) = A * 2 ^ s) ∧ (v32 (C.drop J) < B * 2 ^ s) ∧ (Row N42 80 1 a42 (na + 2) (na + 2) (u32s C)) ∧ (Row N62 80 1 a62 (na + 2 - nb) (na + 2 - nb) (u32s (List.replicate J 0 ++ qh)))) ?_ (.refl _) ⟨na + 2 - nb, C0, [], N42, N62, rfl, rfl, rfl, by omega, hC0l, by rw [List.append_nil, v32_replicate, Nat.zero_mul, Nat.add_zero]; exact hC0v, hts, r42, by rw [List.append_nil]; exact r62⟩ ?_
        · exact .cons (by first | exact lkI rfl (by omega) | rfl | exact lkB rfl (by rw [decide_eq_decide]; omega)) (.cons (by first | exact lkI rfl (by omega) | rfl | exact lkB rfl (by rw [decide_eq_decide]; omega)) (.cons (by first | exact lkI rfl (by omega) | rfl | exact lkB rfl (by rw [decide_eq_decide]; omega)) (.cons (by first | exact lkI rfl (by omega) | rfl | exact lkB rfl (by rw [decide_eq_decide]; omega)) (.cons (by first | exact lkI rfl (by omega) | rfl | exact lkB rfl (by rw [decide_eq_decide]; omega)) (.cons (by first | exact lkI rfl (by omega) | rfl | exact lkB rfl (by rw [decide_eq_decide]; omega)) .nil)))))
        rintro _ _ _ ⟨J, C, qh, N42, N62, rfl, rfl, rfl, hJ, hCl, hv, hC, r42, r62⟩
        have s42 := r42.rsl
        have s62 := r62.rsl
        refine At.seq fun K18 hk_18 => ?_
        refine At.seq fun K19 hk_19 => ?_
        refine At.region ?_
        refine op_move (nxlf rfl) rfl rfl ?_
        refine op_geq (nxlf rfl) rfl rfl rfl ?_
        refine At.opsNil ?_
        refine At.norm (hk_19 ?_)
        refine At.condP rfl (fun c69 => ?_) (fun c69 => ?_)
        · refine At.skip ?_
          refine At.norm (hk_18 ?_)
          refine At.seq fun K20 hk_20 => ?_
          refine At.block ?_
          refine At.seq fun K21 hk_21 => ?_
          refine At.drawnS [N62, N42, M35, R] [] [] [0,1,2,3,4,5,6,7,8,9,10,11,12,13,14,15,16,17] (by kernel_rfl) (by kernel_rfl) (.refl _) ?_
          refine op_move (nxsf rfl rfl rfl) rfl rfl ?_
          refine op_move (nxsf rfl rfl rfl) rfl rfl ?_
          refine op_move (nxsf rfl rfl rfl) rfl rfl ?_
          refine op_addI (nxsf rfl rfl rfl) rfl rfl (by omega) (by omega) rfl ?_
          refine op_idx1 (nxsf rfl rfl rfl) se43 rfl rfl s42 (show _ = (((J - 1 + nb : Nat)) : Int) from by omega) (by omega) rfl ?_
          refine op_loadE (nxsf rfl rfl rfl) sc80 rfl s42 (by first | exact get8 (by omega) | exact get64 (by omega) | exact get32 (by omega)) (by first | exact mem0 | exact mem1 | exact mem2 | exact mem3 | exact mem4 | exact mem5 | exact mem6 | exact mem7 | exact mem8 | exact mem9) rfl ?_
          refine op_conv64 (nxsf rfl rfl rfl) (und_some Try.underlying80) Try.underlying27 rfl (by first | rfl | exact (Int.toNat_of_nonneg (by omega)).symm) rfl ?_
          refine op_shlU (nxsf rfl rfl rfl) rfl rfl (show _ = ((32 : Nat) : Int) from rfl) rfl ?_
          refine op_move (nxsf rfl rfl rfl) rfl rfl ?_
          refine op_move (nxsf rfl rfl rfl) rfl rfl ?_
          refine op_move (nxsf rfl rfl rfl) rfl rfl ?_
          refine op_addI (nxsf rfl rfl rfl) rfl rfl (by omega) (by omega) rfl ?_
          refine op_subI (nxsf rfl rfl rfl) rfl rfl (by omega) (by omega) rfl ?_
          refine op_idx1 (nxsf rfl rfl rfl) se43 rfl rfl s42 (show _ = (((J - 1 + nb - 1 : Nat)) : Int) from by omega) (by omega) rfl ?_
          refine op_loadE (nxsf rfl rfl rfl) sc80 rfl s42 (by first | exact get8 (by omega) | exact get64 (by omega) | exact get32 (by omega)) (by first | exact mem0 | exact mem1 | exact mem2 | exact mem3 | exact mem4 | exact mem5 | exact mem6 | exact mem7 | exact mem8 | exact mem9) rfl ?_
          refine op_conv64 (nxsf rfl rfl rfl) (und_some Try.underlying80) Try.underlying27 rfl (by first | rfl | exact (Int.toNat_of_nonneg (by omega)).symm) rfl ?_
          refine op_orU (nxsf rfl rfl rfl) rfl rfl rfl ?_
          have hw := win_lt32 (G := C) (j := J - 1) (n := nb) (V := B * 2 ^ s) (by omega) (by rw [show J - 1 + 1 = J by omega]; exact hC) (Nat.le_of_lt hV2)
          have hwl : ((C.drop (J - 1)).take (nb + 1)).length = nb + 1 := by rw [List.length_take, List.length_drop]; omega
          have hsp := win_split C (J - 1) (nb + 1)
          have hpre : (C.take (J - 1)).length = J - 1 := by rw [List.length_take]; omega
          have htop : (shl64 (UInt64.ofNat (C.getD (J - 1 + nb) 0).toNat) 32 ||| UInt64.ofNat (C.getD (J - 1 + nb - 1) 0).toNat).toNat = (((C.drop (J - 1)).take (nb + 1)).getD nb 0).toNat * 4294967296 + (((C.drop (J - 1)).take (nb + 1)).getD (nb - 1) 0).toNat := by
            rw [UInt64.toNat_or, Nat.or_comm, ← UInt64.toNat_or, or_hi32, win_getD (by omega), win_getD (by omega), show J - 1 + (nb - 1) = J - 1 + nb - 1 by omega, Nat.add_comm]
          generalize shl64 (UInt64.ofNat (C.getD (J - 1 + nb) 0).toNat) 32 ||| UInt64.ofNat (C.getD (J - 1 + nb - 1) 0).toNat = tp at *
          have hQB : v32 ((C.drop (J - 1)).take (nb + 1)) / (B * 2 ^ s) < 4294967296 := by rw [Nat.div_lt_iff_lt_mul hVp, Nat.mul_comm]; exact hw.1
          have hqg := qhat_ge32 (u := (C.drop (J - 1)).take (nb + 1)) (v := digsOf (B * 2 ^ s)) (n := nb) (Q := v32 ((C.drop (J - 1)).take (nb + 1)) / (B * 2 ^ s)) hwl hdl hnb1 (by rw [hdv]; exact Nat.div_mul_le_self _ _) hdt
          refine op_assign (nxsf rfl rfl rfl) rfl rfl ?_
          refine At.sNil ?_
          refine At.norm (hk_21 ?_)
          refine At.seq fun K22 hk_22 => ?_
          refine At.region ?_
          refine op_move (nxlf rfl) rfl rfl ?_
          refine op_move (nxlf rfl) rfl rfl ?_
          refine op_move (nxlf rfl) rfl rfl ?_
          refine op_subI (nxlf rfl) rfl rfl (by omega) (by omega) rfl ?_
          refine op_idx1 (nxlf rfl) se43 rfl rfl hd (show _ = (((nb - 1 : Nat)) : Int) from by omega) (by omega) rfl ?_
          refine op_loadE (nxlf rfl) sc80 rfl hd (by first | exact get8 (by omega) | exact get64 (by omega) | exact get32 (by omega)) (by first | exact mem0 | exact mem1 | exact mem2 | exact mem3 | exact mem4 | exact mem5 | exact mem6 | exact mem7 | exact mem8 | exact mem9) rfl ?_
          refine op_conv64 (nxlf rfl) (und_some Try.underlying80) Try.underlying27 rfl (by first | rfl | exact (Int.toNat_of_nonneg (by omega)).symm) rfl ?_
          refine op_quoU (nxlf rfl) rfl rfl (by rw [of32]; omega) rfl ?_
          have hg0 : (tp / UInt64.ofNat ((digsOf (B * 2 ^ s)).getD (nb - 1) 0).toNat).toNat = tp.toNat / ((digsOf (B * 2 ^ s)).getD (nb - 1) 0).toNat := by rw [UInt64.toNat_div, of32]
          rw [← htop, ← hg0] at hqg
          generalize tp / UInt64.ofNat ((digsOf (B * 2 ^ s)).getD (nb - 1) 0).toNat = g0 at *
          refine op_assign (nxlf rfl) rfl rfl ?_
          refine At.opsNil ?_
          refine At.norm (hk_22 ?_)
          refine At.seq fun K23 hk_23 => ?_
          refine At.meet (fun fr_ hp_ => ∃ (g1 : UInt64), fr_ = [(6, .int .i64 (s : Int)), (7, .slice p35 nb c35), (9, .slice a42 (na + 2) (na + 2)), (11, .int .i64 (nb : Int)), (12, .slice a62 (na + 2 - nb) (na + 2 - nb)), (13, .int .i64 ((J : Int) - 1)), (15, .int .u64 (g1.toNat : Int))] ∧ hp_ = [N62, N42, M35, R] ∧ (g1.toNat ≤ 4294967295) ∧ (v32 ((C.drop (J - 1)).take (nb + 1)) / (B * 2 ^ s) ≤ g1.toNat)) ?_ (fun K23_ jk_23 => ?_)
          rotate_left
          · skip
            refine At.seq fun K24 hk_24 => ?_
            refine At.region ?_
            refine op_move (nxlf rfl) rfl rfl ?_
            refine op_gtr (nxlf rfl) rfl rfl rfl ?_
            refine At.opsNil ?_
            refine At.norm (hk_24 ?_)
            refine At.condP rfl (fun c98 => ?_) (fun c98 => ?_)
            · refine At.region ?_
              refine op_assign (nxlf rfl) rfl rfl ?_
              refine At.opsNil ?_
              refine At.norm (jk_23 ?_ (.refl _) ⟨4294967295, rfl, rfl, by decide, by show _ ≤ 4294967295; omega⟩)
              exact .cons (by first | exact lkI rfl (by omega) | rfl | exact lkB rfl (by rw [decide_eq_decide]; omega)) (.cons (by first | exact lkI rfl (by omega) | rfl | exact lkB rfl (by rw [decide_eq_decide]; omega)) (.cons (by first | exact lkI rfl (by omega) | rfl | exact lkB rfl (by rw [decide_eq_decide]; omega)) (.cons (by first | exact lkI rfl (by omega) | rfl | exact lkB rfl (by rw [decide_eq_decide]; omega)) (.cons (by first | exact lkI rfl (by omega) | rfl | exact lkB rfl (by rw [decide_eq_decide]; omega)) (.cons (by first | exact lkI rfl (by omega) | rfl | exact lkB rfl (by rw [decide_eq_decide]; omega)) (.cons (by first | exact lkI rfl (by omega) | rfl | exact lkB rfl (by rw [decide_eq_decide]; omega)) .nil))))))
            · refine At.skip ?_
              refine At.norm (jk_23 ?_ (.refl _) ⟨g0, rfl, rfl, by omega, hqg⟩)
              exact .cons (by first | exact lkI rfl (by omega) | rfl | exact lkB rfl (by rw [decide_eq_decide]; omega)) (.cons (by first | exact lkI rfl (by omega) | rfl | exact lkB rfl (by rw [decide_eq_decide]; omega)) (.cons (by first | exact lkI rfl (by omega) | rfl | exact lkB rfl (by rw [decide_eq_decide]; omega)) (.cons (by first | exact lkI rfl (by omega) | rfl | exact lkB rfl (by rw [decide_eq_decide]; omega)) (.cons (by first | exact lkI rfl (by omega) | rfl | exact lkB rfl (by rw [decide_eq_decide]; omega)) (.cons (by first | exact lkI rfl (by omega) | rfl | exact lkB rfl (by rw [decide_eq_decide]; omega)) (.cons (by first | exact lkI rfl (by omega) | rfl | exact lkB rfl (by rw [decide_eq_decide]; omega)) .nil))))))
          rintro _ _ ⟨g1, rfl, rfl, hg1, hg2⟩
          refine hk_23 ?_
          refine At.seq fun K25 hk_25 => ?_
          refine At.meet (fun fr_ hp_ => ∃ (x : List UInt32) (g : UInt64) (M42 : Heaplet), fr_ = [(6, .int .i64 (s : Int)), (7, .slice p35 nb c35), (9, .slice a42 (na + 2) (na + 2)), (11, .int .i64 (nb : Int)), (12, .slice a62 (na + 2 - nb) (na + 2 - nb)), (13, .int .i64 ((J : Int) - 1)), (15, .int .u64 (g.toNat : Int))] ∧ hp_ = [N62, M42, M35, R] ∧ (x.length = nb + 1) ∧ (g.toNat ≤ 4294967295) ∧ (v32 x + g.toNat * (B * 2 ^ s) = v32 ((C.drop (J - 1)).take (nb + 1))) ∧ (v32 x < B * 2 ^ s) ∧ (Row M42 80 1 a42 (na + 2) (na + 2) (u32s (C.take (J - 1) ++ x ++ C.drop (J - 1 + (nb + 1)))))) ?_ (fun K25_ jk_25 => ?_)
          rotate_left
          · skip
            refine At.seq fun K26 hk_26 => ?_
            refine At.region ?_
            refine op_move (nxlf rfl) rfl rfl ?_
            refine op_move (nxlf rfl) rfl rfl ?_
            refine op_move (nxlf rfl) rfl rfl ?_
            refine op_move (nxlf rfl) rfl rfl ?_
            rw [hsp] at r42
            rw [show (J : Int) - 1 = ((J - 1 : Nat) : Int) by omega]
            refine At.perm sel3 ?_
            refine At.perm sel3 ?_
            refine At.perm sel2 ?_
            refine At.perm sel3 ?_
            refine op_call (nxl rfl) (.cons rfl (.cons rfl (.cons rfl (.cons rfl .nil)))) (less_f r42 hd hpre hwl (by omega) (by omega) hg1) (F := [N62, M35, R]) Try.func63 rfl rfl (.refl _) (by simp) rfl ?_
            rintro v103 L103 ⟨M42, x1, bw, rfl, rfl, r42, hx1l, hbw, hx1⟩
            change At _ _ _ [M42, N62, M35, R] _
            skip
            rw [hdv, hwl] at hx1
            rw [hwl] at hx1l
            have hU := v32_lt ((C.drop (J - 1)).take (nb + 1))
            rw [hwl] at hU
            refine At.opsNil ?_
            refine At.norm (hk_26 ?_)
            refine At.condP rfl (fun c103 => ?_) (fun c103 => ?_)
            · refine At.seq fun K27 hk_27 => ?_
              refine At.region ?_
              refine op_assign (nxlf rfl) rfl rfl ?_
              refine At.opsNil ?_
              refine At.norm (hk_27 ?_)
              refine At.block ?_
              refine At.perm sel3 ?_
              refine At.perm sel3 ?_
              refine At.perm sel2 ?_
              refine At.perm sel3 ?_
              refine At.loop (fun fr_ hp_ ms_ => ∃ (x : List UInt32) (g : UInt64) (bo : Nat) (M42 : Heaplet), fr_ = [(6, .int .i64 (s : Int)), (7, .slice p35 nb c35), (9, .slice a42 (na + 2) (na + 2)), (11, .int .i64 (nb : Int)), (12, .slice a62 (na + 2 - nb) (na + 2 - nb)), (13, .int .i64 ((J : Int) - 1)), (15, .int .u64 (g.toNat : Int)), (16, .bool (decide (bo = 1)))] ∧ hp_ = [N62, M42, M35, R] ∧ g.toNat = ms_ ∧ (x.length = nb + 1) ∧ (g.toNat ≤ 4294967295) ∧ (bo ≤ 1) ∧ (v32 x + g.toNat * (B * 2 ^ s) = v32 ((C.drop (J - 1)).take (nb + 1)) + bo * 2 ^ (32 * (nb + 1))) ∧ (bo = 0 → v32 x < B * 2 ^ s) ∧ (Row M42 80 1 a42 (na + 2) (na + 2) (u32s (C.take (J - 1) ++ x ++ C.drop (J - 1 + (nb + 1)))))) ?_ (.refl _) ⟨x1, g1, 1, M42, rfl, rfl, rfl, hx1l, hg1, by decide, by rw [show bw = 1 by omega] at hx1; exact hx1, by intro h; omega, r42⟩ ?_
              · exact .cons (by first | exact lkI rfl (by omega) | rfl | exact lkB rfl (by rw [decide_eq_decide]; omega)) (.cons (by first | exact lkI rfl (by omega) | rfl | exact lkB rfl (by rw [decide_eq_decide]; omega)) (.cons (by first | exact lkI rfl (by omega) | rfl | exact lkB rfl (by rw [decide_eq_decide]; omega)) (.cons (by first | exact lkI rfl (by omega) | rfl | exact lkB rfl (by rw [decide_eq_decide]; omega)) (.cons (by first | exact lkI rfl (by omega) | rfl | exact lkB rfl (by rw [decide_eq_decide]; omega)) (.cons (by first | exact lkI rfl (by omega) | rfl | exact lkB rfl (by rw [decide_eq_decide]; omega)) (.cons (by first | exact lkI rfl (by omega) | rfl | exact lkB rfl (by rw [decide_eq_decide]; omega)) (.cons (by first | exact lkI rfl (by omega) | rfl | exact lkB rfl (by rw [decide_eq_decide]; omega)) .nil)))))))
              rintro _ _ _ ⟨x, g, bo, M42, rfl, rfl, rfl, hxl2, hg, hbo, hx2, hx3, r42⟩
              have s42 := r42.rsl
              have hxal : (C.take (J - 1) ++ x ++ C.drop (J - 1 + (nb + 1))).length = na + 2 := by rw [List.length_append, List.length_append, List.length_take, List.length_drop]; omega
              have hxt : (C.take (J - 1) ++ x ++ C.drop (J - 1 + (nb + 1))).getD (J - 1 + nb) 0 = x.getD nb 0 := by rw [List.append_assoc, getD_right hpre, getD_app (by omega)]
              refine At.seq fun K28 hk_28 => ?_
              refine At.seq fun K29 hk_29 => ?_
              refine At.region ?_
              refine op_move (nxlf rfl) rfl rfl ?_
              refine At.opsNil ?_
              refine At.norm (hk_29 ?_)
              refine At.condP rfl (fun c104 => ?_) (fun c104 => ?_)
              · refine At.skip ?_
                refine At.norm (hk_28 ?_)
                refine At.block ?_
                refine At.seq fun K30 hk_30 => ?_
                refine At.region ?_
                refine op_move (nxlf rfl) rfl rfl ?_
                refine op_subU (b := 1) (nxlf rfl) rfl rfl rfl ?_
                refine op_assign (nxlf rfl) rfl rfl ?_
                refine At.opsNil ?_
                refine At.norm (hk_30 ?_)
                refine At.seq fun K31 hk_31 => ?_
                refine At.region ?_
                refine op_move (nxlf rfl) rfl rfl ?_
                refine op_move (nxlf rfl) rfl rfl ?_
                refine op_move (nxlf rfl) rfl rfl ?_
                refine op_addI (nxlf rfl) rfl rfl (by omega) (by omega) rfl ?_
                refine op_idx1 (nxlf rfl) se43 rfl rfl s42 (show _ = (((J - 1 + nb : Nat)) : Int) from by omega) (by omega) rfl ?_
                refine op_loadE (nxlf rfl) sc80 rfl s42 (by first | exact get8 (by omega) | exact get64 (by omega) | exact get32 (by omega)) (by first | exact mem0 | exact mem1 | exact mem2 | exact mem3 | exact mem4 | exact mem5 | exact mem6 | exact mem7 | exact mem8 | exact mem9) rfl ?_
                rw [hxt]
                refine op_assign (nxlf rfl) rfl rfl ?_
                refine At.opsNil ?_
                refine At.norm (hk_31 ?_)
                refine At.seq fun K32 hk_32 => ?_
                refine At.region ?_
                refine op_move (nxlf rfl) rfl rfl ?_
                refine op_move (nxlf rfl) rfl rfl ?_
                refine op_move (nxlf rfl) rfl rfl ?_
                rw [show (J : Int) - 1 = ((J - 1 : Nat) : Int) by omega]
                refine At.perm sel3 ?_
                refine At.perm sel3 ?_
                refine At.perm sel2 ?_
                refine At.perm sel3 ?_
                refine op_call (nxl rfl) (.cons rfl (.cons rfl (.cons rfl .nil))) (back_f r42 hd hpre hxl2 (by omega) (by omega)) (F := [N62, M35, R]) Try.func64 rfl rfl (.refl _) (by simp) rfl ?_
                rintro v116 L116 ⟨M42, x2, cc, rfl, rfl, r42, hx2l, hcc, hxb, hxc⟩
                change At _ _ _ [M42, N62, M35, R] _
                skip
                have s42 := r42.rsl
                have hx2al : (C.take (J - 1) ++ x2 ++ C.drop (J - 1 + (nb + 1))).length = na + 2 := by rw [List.length_append, List.length_append, List.length_take, List.length_drop]; omega
                have hx2t : (C.take (J - 1) ++ x2 ++ C.drop (J - 1 + (nb + 1))).getD (J - 1 + nb) 0 = x2.getD nb 0 := by rw [List.append_assoc, getD_right hpre, getD_app (by omega)]
                have hb1 : bo = 1 := by omega
                rw [hb1] at hx2
                have e1 := v32_lt x
                have e2 := v32_lt x2
                rw [hxl2] at e1 hxb
                rw [show x2.length = nb + 1 by omega] at e2
                rw [hdv] at hxb
                rw [hdl] at hxc
                obtain ⟨m1, m2, m3⟩ := step_back hx2 (by omega) e1 hxb hcc e2
                have hgm := sub_one64 m1
                refine At.opsNil ?_
                refine At.norm (hk_32 ?_)
                refine At.region ?_
                refine op_move (nxlf rfl) rfl rfl ?_
                refine op_move (nxlf rfl) rfl rfl ?_
                refine op_move (nxlf rfl) rfl rfl ?_
                refine op_addI (nxlf rfl) rfl rfl (by omega) (by omega) rfl ?_
                refine op_idx1 (nxlf rfl) se43 rfl rfl s42 (show _ = (((J - 1 + nb : Nat)) : Int) from by omega) (by omega) rfl ?_
                refine op_loadE (nxlf rfl) sc80 rfl s42 (by first | exact get8 (by omega) | exact get64 (by omega) | exact get32 (by omega)) (by first | exact mem0 | exact mem1 | exact mem2 | exact mem3 | exact mem4 | exact mem5 | exact mem6 | exact mem7 | exact mem8 | exact mem9) rfl ?_
                rw [hx2t]
                refine op_move (nxlf rfl) rfl rfl ?_
                refine op_geq (nxlf rfl) rfl rfl rfl ?_
                refine op_assign (nxlf rfl) rfl rfl ?_
                refine At.opsNil ?_
                refine At.inNorm ?_
                refine At.norm ?_
                refine At.perm sel3 ?_
                refine At.perm sel3 ?_
                refine At.perm sel2 ?_
                refine At.perm sel3 ?_
                refine At.back ?_ (.refl _) ⟨x2, g - 1, 1 - cc, M42, rfl, rfl, rfl, by omega, by rw [hgm]; omega, by omega, by rw [hgm]; exact m2, m3, r42⟩ ?_
                · exact .cons (by first | exact lkI rfl (by omega) | rfl | exact lkB rfl (by rw [decide_eq_decide]; omega)) (.cons (by first | exact lkI rfl (by omega) | rfl | exact lkB rfl (by rw [decide_eq_decide]; omega)) (.cons (by first | exact lkI rfl (by omega) | rfl | exact lkB rfl (by rw [decide_eq_decide]; omega)) (.cons (by first | exact lkI rfl (by omega) | rfl | exact lkB rfl (by rw [decide_eq_decide]; omega)) (.cons (by first | exact lkI rfl (by omega) | rfl | exact lkB rfl (by rw [decide_eq_decide]; omega)) (.cons (by first | exact lkI rfl (by omega) | rfl | exact lkB rfl (by rw [decide_eq_decide]; omega)) (.cons (by first | exact lkI rfl (by omega) | rfl | exact lkB rfl (by rw [decide_eq_decide]; omega)) (.cons (by first | exact lkI rfl (by omega) | rfl | exact lkB rfl (by rw [decide_eq_decide]; omega)) .nil)))))))
                · omega
              · refine At.exit (At.thenExit (At.thenExit (At.inHit ?_)))
                refine At.norm (jk_25 ?_ (.refl _) ⟨x, g, M42, rfl, rfl, hxl2, hg, by rw [show bo = 0 by omega, Nat.zero_mul, Nat.add_zero] at hx2; exact hx2, hx3 (by omega), r42⟩)
                exact .cons (by first | exact lkI rfl (by omega) | rfl | exact lkB rfl (by rw [decide_eq_decide]; omega)) (.cons (by first | exact lkI rfl (by omega) | rfl | exact lkB rfl (by rw [decide_eq_decide]; omega)) (.cons (by first | exact lkI rfl (by omega) | rfl | exact lkB rfl (by rw [decide_eq_decide]; omega)) (.cons (by first | exact lkI rfl (by omega) | rfl | exact lkB rfl (by rw [decide_eq_decide]; omega)) (.cons (by first | exact lkI rfl (by omega) | rfl | exact lkB rfl (by rw [decide_eq_decide]; omega)) (.cons (by first | exact lkI rfl (by omega) | rfl | exact lkB rfl (by rw [decide_eq_decide]; omega)) (.cons (by first | exact lkI rfl (by omega) | rfl | exact lkB rfl (by rw [decide_eq_decide]; omega)) .nil))))))
            · refine At.skip ?_
              refine At.perm sel3 ?_
              refine At.perm sel3 ?_
              refine At.perm sel2 ?_
              refine At.perm sel3 ?_
              refine At.norm (jk_25 ?_ (.refl _) ⟨x1, g1, M42, rfl, rfl, hx1l, hg1, by rw [show bw = 0 by omega, Nat.zero_mul, Nat.add_zero] at hx1; exact hx1, step_start (Q := 0) hVp hx1 hg2 (by omega), r42⟩)
              exact .cons (by first | exact lkI rfl (by omega) | rfl | exact lkB rfl (by rw [decide_eq_decide]; omega)) (.cons (by first | exact lkI rfl (by omega) | rfl | exact lkB rfl (by rw [decide_eq_decide]; omega)) (.cons (by first | exact lkI rfl (by omega) | rfl | exact lkB rfl (by rw [decide_eq_decide]; omega)) (.cons (by first | exact lkI rfl (by omega) | rfl | exact lkB rfl (by rw [decide_eq_decide]; omega)) (.cons (by first | exact lkI rfl (by omega) | rfl | exact lkB rfl (by rw [decide_eq_decide]; omega)) (.cons (by first | exact lkI rfl (by omega) | rfl | exact lkB rfl (by rw [decide_eq_decide]; omega)) (.cons (by first | exact lkI rfl (by omega) | rfl | exact lkB rfl (by rw [decide_eq_decide]; omega)) .nil))))))
          rintro _ _ ⟨x, g, M42, rfl, rfl, hxl2, hg, hx2, hx3, r42⟩
          refine hk_25 ?_
          refine At.region ?_
          refine op_move (nxlf rfl) rfl rfl ?_
          refine op_move (nxlf rfl) rfl rfl ?_
          refine op_move (nxlf rfl) rfl rfl ?_
          refine op_conv32 (nxlf rfl) (und_some Try.underlying27) Try.underlying80 rfl (by first | rfl | exact (Int.toNat_of_nonneg (by omega)).symm) rfl ?_
          refine op_idx1 (nxlf rfl) se43 rfl rfl s62 (show _ = (((J - 1 : Nat)) : Int) from by omega) (by omega) rfl ?_
          refine op_storeE (nxl rfl) sz80 rfl rfl rfl rfl rfl r62 (by simp <;> omega) (by simp) sel0 (fun N62 r62 => ?_)
          obtain ⟨k1, k2⟩ := step_end hx2 hx3
          have hgl : (lo32 g).toNat = g.toNat := by rw [lo32_nat]; omega
          obtain ⟨d1, d2, d3⟩ := div_round32 (qs := List.replicate J 0 ++ qh) (h := qh) (u' := x) (q := lo32 g) (j := J - 1) (by omega) (by rw [show J - 1 + 1 = J by omega]) hv hw.2.2 hw.2.1 hxl2 (by rw [hgl]; exact k1) k2 hVp
          simp only [setL] at r62
          rw [set_u32s] at r62
          change Row N62 _ 1 a62 _ _ (u32s ((List.replicate J 0 ++ qh).set (J - 1) (lo32 g))) at r62
          have s62 := r62.rsl
          refine At.opsNil ?_
          refine At.inNorm ?_
          refine At.norm (hk_20 ?_)
          refine At.region ?_
          refine op_move (nxlf rfl) rfl rfl ?_
          refine op_subI (nxlf rfl) rfl rfl (by omega) (by omega) rfl ?_
          refine op_assign (nxlf rfl) rfl rfl ?_
          refine At.opsNil ?_
          refine At.norm ?_
          refine At.back ?_ (.refl _) ⟨J - 1, C.take (J - 1) ++ x ++ C.drop (J - 1 + (nb + 1)), lo32 g :: qh, M42, N62, rfl, rfl, rfl, by omega, by rw [List.length_append, List.length_append, List.length_take, List.length_drop, hxl2]; omega, by rw [← d3]; exact d1, d2, r42, by rw [← d3]; exact r62⟩ ?_
          · exact .cons (by first | exact lkI rfl (by omega) | rfl | exact lkB rfl (by rw [decide_eq_decide]; omega)) (.cons (by first | exact lkI rfl (by omega) | rfl | exact lkB rfl (by rw [decide_eq_decide]; omega)) (.cons (by first | exact lkI rfl (by omega) | rfl | exact lkB rfl (by rw [decide_eq_decide]; omega)) (.cons (by first | exact lkI rfl (by omega) | rfl | exact lkB rfl (by rw [decide_eq_decide]; omega)) (.cons (by first | exact lkI rfl (by omega) | rfl | exact lkB rfl (by rw [decide_eq_decide]; omega)) (.cons (by first | exact lkI rfl (by omega) | rfl | exact lkB rfl (by rw [decide_eq_decide]; omega)) .nil)))))
          · omega
        · refine At.exit (At.thenExit (At.thenExit (At.inHit ?_)))
          refine At.norm (hk_16 ?_)
          refine At.seq fun K33 hk_33 => ?_
          refine At.seq fun K34 hk_34 => ?_
          refine At.region ?_
          have hJ0 : J = 0 := by omega
          subst hJ0
          rw [List.replicate_zero, List.nil_append] at hv r62
          rw [List.drop_zero] at hC
          obtain ⟨f1, f2⟩ := div_fin hv hC
          have s42 := r42.rsl
          have s62 := r62.rsl
          refine op_move (nxlf rfl) rfl rfl ?_
          refine op_eql (nxlf rfl) rfl rfl rfl ?_
          refine At.opsNil ?_
          refine At.norm (hk_34 ?_)
          refine At.condP rfl (fun c131 => ?_) (fun c131 => ?_)
          · exfalso; omega
          · refine At.skip ?_
            refine At.norm (hk_33 ?_)
            refine At.seq fun K35 hk_35 => ?_
            refine At.region ?_
            refine op_move (nxlf rfl) rfl rfl ?_
            refine op_callA (nxla rfl) (.cons rfl .nil) (trim32_f s62) Try.func48 rfl rfl (by simp) rfl ?_
            rintro v137 L137 ⟨rfl, rfl, t137, l137⟩
            change At _ _ _ [N62, N42, M35, R] _
            refine op_move (nxlf rfl) rfl rfl ?_
            refine op_callA (nxla rfl) (.cons rfl .nil) (trim32_f s42) Try.func48 rfl rfl (by simp) rfl ?_
            rintro v139 L139 ⟨rfl, rfl, t139, l139⟩
            change At _ _ _ [N62, N42, M35, R] _
            refine op_move (nxlf rfl) rfl rfl ?_
            refine op_callA (nxla rfl) (.cons rfl (.cons rfl .nil)) (rShr_f (trim32d s42 t139 l139) s (by have := l139; omega) (by omega)) Try.func15 rfl rfl (by simp) rfl ?_
            rintro v141 L141 ⟨M141, p141, c141, rfl, rfl, s141⟩
            change At _ _ _ [M141, N62, N42, M35, R] _
            refine op_assign (nxlf rfl) rfl rfl ?_
            refine op_assign (nxlf rfl) rfl rfl ?_
            refine At.opsNil ?_
            refine At.norm (hk_35 ?_)
            refine At.ret (?_)
            refine At.sub (L' := [M141, N62, R]) (.cons_cons _ (.cons_cons _ (.cons _ (.cons _ (.cons_cons _ (.slnil)))))) ?_
            refine At.perm sel2 ?_
            refine At.perm sel1 ?_
            refine At.perm sel2 ?_
            refine At.retN (L1 := [N62, M141]) rfl (.tmp rfl (.tmp rfl .nil)) rfl (.refl _) (.refl _) ?_
            have h1 := trim32d s62 t137 l137
            rw [v32_digsOf, f2] at s141 ⊢
            rw [f1] at h1 ⊢
            exact ⟨N62, a62, _, M141, p141, c141, rfl, rfl, h1, s141⟩
    · exfalso; omega
theorem rDivMod_ge {N M : Heaplet} {ax bx : Option Addr} {na nb ca cb A B : Nat} (ha : RSl N 1 ax na ca (u32s (digsOf A))) (hb : RSl M 1 bx nb cb (u32s (digsOf B))) (hn : na ≤ 1099511627770) (hm : nb ≤ 1099511627770) (hge : B ≤ A) (hB : 0 < B) :
    Fn Try.prog 38 #[.slice ax na ca, .slice bx nb cb] [] [N, M] (DigsP2 (A / B) (A % B)) := by
  rcases Nat.eq_zero_or_pos (32 * (digsOf B).length - bitLen B) with h | h
  · exact rDivMod_s0 ha hb hn hm hge hB rfl h
  · exact rDivMod_s1 ha hb hn hm hge hB rfl h
end Go.Proofs.Ytbmlhdecnfplaaa
