/- Several texts in one: see the remarks ahead of each part. No condition but those told there. -/
import Derived.Test.YtnpcaplgkmlmoaaGreatDoorR10
import Derived.Test.YtnpcaplgkmlmoaaGreatDoorR9
import Derived.Test.YtnpcaplgkmlmoaaGreatDoorR4
import Derived.Test.YtnpcaplgkmlmoaaGreatDoorR5
/- The reference's DivMod. Condition: numbers of at most some 2^40 digits; the divisor is not 0. -/
namespace Go.Proofs.YtnpcaplgkmlmoaaGreatDoor
set_option linter.unusedVariables false
set_option linter.unusedSimpArgs false
open Go Go.RowKit
theorem bitLen_shl {B s : Nat} (h : 0 < B) : bitLen (B * 2 ^ s) = bitLen B + s := by
  have h1 := lt_bitLen B
  have h3 := bitLen_pos h
  have h2 : 2 ^ (bitLen B - 1) ≤ B := by
    rcases Nat.lt_or_ge B (2 ^ (bitLen B - 1)) with h4 | h4
    · have := bitLen_le.2 h4; omega
    · exact h4
  refine bitLen_eq ?_ (.inr ?_)
  · rw [Nat.pow_add]; exact Nat.mul_lt_mul_of_pos_right h1 (Nat.pow_pos (by decide))
  · rw [show bitLen B + s - 1 = bitLen B - 1 + s by omega, Nat.pow_add]; exact Nat.mul_le_mul_right _ h2
theorem norm32 {B s : Nat} (h : 0 < B) (hs : s = 32 * (digsOf B).length - bitLen B) : s < 32 ∧ 1 ≤ (digsOf B).length ∧ (digsOf (B * 2 ^ s)).length = (digsOf B).length ∧ 2 ^ (32 * (digsOf B).length - 1) ≤ B * 2 ^ s ∧ B * 2 ^ s < 2 ^ (32 * (digsOf B).length) := by
  have hl := length_digsOf B
  have hb := bitLen_pos h
  have e := bitLen_shl (s := s) h
  have hp : 0 < B * 2 ^ s := Nat.mul_pos h (Nat.pow_pos (by decide))
  have hbs : bitLen (B * 2 ^ s) = 32 * (digsOf B).length := by omega
  refine ⟨by omega, by omega, by rw [length_digsOf (B * 2 ^ s), hbs]; omega, ?_, ?_⟩
  · rcases Nat.lt_or_ge (B * 2 ^ s) (2 ^ (32 * (digsOf B).length - 1)) with h4 | h4
    · have := bitLen_le.2 h4; omega
    · exact h4
  · rw [← hbs]; exact lt_bitLen _
theorem x_len {A s : Nat} (hs : s < 32) : (digsOf (A * 2 ^ s)).length ≤ (digsOf A).length + 1 := by
  rw [length_digsOf (A * 2 ^ s)]
  refine digLen_le.2 ?_
  have h : A < 2 ^ (32 * (digsOf A).length) := by have := v32_lt (digsOf A); rwa [v32_digsOf] at this
  have h2 : A * 2 ^ s < 2 ^ (32 * (digsOf A).length) * 2 ^ s := Nat.mul_lt_mul_of_pos_right h (Nat.pow_pos (by decide))
  rw [← Nat.pow_add] at h2
  exact Nat.lt_of_lt_of_le h2 (Nat.pow_le_pow_right (by decide) (by omega))
theorem top_small32 {C : List UInt32} {A s na nb V : Nat} (hC : C.length = na + 2) (hv : v32 C = A * 2 ^ s) (hA : A < 2 ^ (32 * na)) (hs : s < 32) (hn : 1 ≤ nb) (hna : nb ≤ na + 2) (hV : 2 ^ (32 * nb - 1) ≤ V) : v32 (C.drop (na + 2 - nb)) < V := by
  have h := v32_take_drop C (k := na + 2 - nb) (by omega)
  rw [hv] at h
  have h2 : A * 2 ^ s < 2 ^ (32 * na) * 2 ^ s := Nat.mul_lt_mul_of_pos_right hA (Nat.pow_pos (by decide))
  have h3 : 2 ^ (32 * na) * 2 ^ s ≤ 2 ^ (32 * (na + 2 - nb)) * V := by
    refine Nat.le_trans ?_ (Nat.mul_le_mul_left _ hV)
    rw [← Nat.pow_add, ← Nat.pow_add]
    exact Nat.pow_le_pow_right (by decide) (by omega)
  have h4 : 2 ^ (32 * (na + 2 - nb)) * v32 (C.drop (na + 2 - nb)) < 2 ^ (32 * (na + 2 - nb)) * V := by omega
  exact Nat.lt_of_mul_lt_mul_left h4
theorem v32_pad' (a : List UInt32) (m : Nat) : v32 (a ++ List.replicate m 0) = v32 a := by rw [v32_append, v32_replicate]; simp
theorem cmpI_lt {x y : Nat} : cmpI x y < 0 ↔ x < y := by
  unfold cmpI
  split
  · omega
  · split <;> omega
theorem take_ext {α : Type} {x : List α} {k : Nat} {z : α} (h : k < x.length) : x.take k ++ [x.getD k z] = x.take (k + 1) := by
  rw [List.take_succ_eq_append_getElem h, List.getD_eq_getElem?_getD, List.getElem?_eq_getElem h]; rfl
theorem win_getD {C : List UInt32} {j n k : Nat} (hk : k < n) : ((C.drop j).take n).getD k 0 = C.getD (j + k) 0 := by
  rw [List.getD_eq_getElem?_getD, List.getD_eq_getElem?_getD, List.getElem?_take, if_pos hk, List.getElem?_drop]
/-- Two numbers in digits, in new memory. -/
def DigsP2 (A B : Nat) (v : Value) (L : List Heaplet) : Prop :=
  ∃ M1 a1 c1 M2 a2 c2, v = .tuple #[.slice a1 (digsOf A).length c1, .slice a2 (digsOf B).length c2] ∧ L = [M1, M2] ∧ RSl M1 1 a1 (digsOf A).length c1 (u32s (digsOf A)) ∧ RSl M2 1 a2 (digsOf B).length c2 (u32s (digsOf B))
theorem rDivMod_lt {N M : Heaplet} {ax bx : Option Addr} {na nb ca cb A B : Nat} (ha : RSl N 1 ax na ca (u32s (digsOf A))) (hb : RSl M 1 bx nb cb (u32s (digsOf B))) (hlt : A < B) :
    Fn Tryz.prog 27 #[.slice ax na ca, .slice bx nb cb] [] [N, M] (fun v L => v = .tuple #[.slice none 0 0, .slice ax na ca] ∧ L = []) := by
  have hc := cmpI_lt.2 hlt
  refine Fn.enter (vs := [.slice ax na ca, .slice bx nb cb]) Tryz.func27 rfl rfl rfl ?_
  intro E R hR
  have ha := ha.le (hR N (by simp))
  have hb := hb.le (hR M (by simp))
  change At _ _ E [R] _
  refine At.seq fun K1 hk_1 => ?_
  refine At.region ?_
  refine op_assign (nxlf rfl) rfl rfl ?_
  refine op_assign (nxlf rfl) rfl rfl ?_
  refine At.opsNil ?_
  refine At.norm (hk_1 ?_)
  refine At.seq fun K2 hk_2 => ?_
  refine At.seq fun K3 hk_3 => ?_
  refine At.region ?_
  refine op_move (nxlf rfl) rfl rfl ?_
  refine op_move (nxlf rfl) rfl rfl ?_
  refine op_callA (nxla rfl) (.cons rfl (.cons rfl .nil)) (Cmp32_f ha hb) Tryz.func45 rfl rfl (by simp) rfl ?_
  rintro v20 L20 ⟨rfl, rfl⟩
  change At _ _ _ [R] _
  refine op_lss (nxlf rfl) rfl rfl rfl ?_
  refine At.opsNil ?_
  refine At.norm (hk_3 ?_)
  refine At.condP rfl (fun c21 => ?_) (fun c21 => ?_)
  · refine At.seq fun K4 hk_4 => ?_
    refine At.region ?_
    refine op_move (nxlf rfl) rfl rfl ?_
    refine op_assign (nxlf rfl) rfl rfl ?_
    refine op_assign (nxlf rfl) rfl rfl ?_
    refine At.opsNil ?_
    refine At.norm (hk_4 ?_)
    refine At.ret (At.thenRet (?_))
    refine At.retN (L1 := []) rfl (.tmp rfl (.tmp rfl .nil)) rfl (.refl _) (.refl _) ?_
    exact ⟨rfl, rfl⟩
  · exfalso; omega
set_option maxRecDepth 100000 in
set_option maxHeartbeats 2000000 in
theorem rDivMod_s0 {N M : Heaplet} {ax bx : Option Addr} {na nb ca cb A B s : Nat} (ha : RSl N 1 ax na ca (u32s (digsOf A))) (hb : RSl M 1 bx nb cb (u32s (digsOf B))) (hn : na ≤ 1099511627770) (hm : nb ≤ 1099511627770) (hge : B ≤ A) (hB : 0 < B) (hs : s = 32 * (digsOf B).length - bitLen B) (hsz : s = 0) :
    Fn Tryz.prog 27 #[.slice ax na ca, .slice bx nb cb] [] [N, M] (DigsP2 (A / B) (A % B)) := by
  have hca := ha.cap63
  have hcb := hb.cap63
  have hal := ha.len32
  have hbl := hb.len32
  have hnc : ¬ cmpI A B < 0 := fun h => by have := cmpI_lt.1 h; omega
  obtain ⟨h32, hnb1, hdl, hV1, hV2⟩ := norm32 hB hs
  have hbb : bitLen B ≤ 32 * nb := by have := length_digsOf B; omega
  have hxl := x_len (A := A) h32
  have hA : A < 2 ^ (32 * (digsOf A).length) := by have := v32_lt (digsOf A); rwa [v32_digsOf] at this
  rw [hbl] at hs hnb1 hdl hV1 hV2
  rw [hal] at hxl hA
  have hnn : nb ≤ na := by
    have h1 := digs_mono hge
    omega
  have hVp : 0 < B * 2 ^ s := Nat.mul_pos hB (Nat.pow_pos (by decide))
  obtain ⟨_, hdt⟩ := digs_top hVp
  rw [hdl] at hdt
  have hdv := v32_digsOf (B * 2 ^ s)
  have hxv := v32_digsOf (A * 2 ^ s)
  have hA1 : A * 2 ^ s = A := by rw [hsz, Nat.pow_zero, Nat.mul_one]
  have hB1 : B * 2 ^ s = B := by rw [hsz, Nat.pow_zero, Nat.mul_one]
  refine Fn.enter (vs := [.slice ax na ca, .slice bx nb cb]) Tryz.func27 rfl rfl rfl ?_
  intro E R hR
  have ha := ha.le (hR N (by simp))
  have hb := hb.le (hR M (by simp))
  change At _ _ E [R] _
  refine At.seq fun K1 hk_1 => ?_
  refine At.region ?_
  refine op_assign (nxlf rfl) rfl rfl ?_
  refine op_assign (nxlf rfl) rfl rfl ?_
  refine At.opsNil ?_
  refine At.norm (hk_1 ?_)
  refine At.seq fun K2 hk_2 => ?_
  refine At.seq fun K3 hk_3 => ?_
  refine At.region ?_
  refine op_move (nxlf rfl) rfl rfl ?_
  refine op_move (nxlf rfl) rfl rfl ?_
  refine op_callA (nxla rfl) (.cons rfl (.cons rfl .nil)) (Cmp32_f ha hb) Tryz.func45 rfl rfl (by simp) rfl ?_
  rintro v20 L20 ⟨rfl, rfl⟩
  change At _ _ _ [R] _
  refine op_lss (nxlf rfl) rfl rfl rfl ?_
  refine At.opsNil ?_
  refine At.norm (hk_3 ?_)
  refine At.condP rfl (fun c21 => ?_) (fun c21 => ?_)
  · exfalso; omega
  · refine At.skip ?_
    refine At.norm (hk_2 ?_)
    refine At.seq fun K4 hk_4 => ?_
    refine At.region ?_
    refine op_move (nxlf rfl) rfl rfl ?_
    refine op_lenS (nxlf rfl) se51 rfl rfl ?_
    refine op_mulI (nxlf rfl) rfl rfl (by omega) (by omega) rfl ?_
    refine op_move (nxlf rfl) rfl rfl ?_
    refine op_callA (nxla rfl) (.cons rfl .nil) (rLen_f hb (by omega)) Tryz.func46 rfl rfl (by simp) rfl ?_
    rintro v27 L27 ⟨rfl, rfl⟩
    change At _ _ _ [R] _
    rw [v32_digsOf]
    refine op_subI (nxlf rfl) rfl rfl (by omega) (by omega) rfl ?_
    have e28 : (32 : Int) * (nb : Int) - ((bitLen B : Nat) : Int) = (s : Int) := by omega
    rw [e28]
    refine op_assign (nxlf rfl) rfl rfl ?_
    refine At.opsNil ?_
    refine At.norm (hk_4 ?_)
    refine At.seq fun K5 hk_5 => ?_
    refine At.region ?_
    refine op_move (nxlf rfl) rfl rfl ?_
    refine op_move (nxlf rfl) rfl rfl ?_
    refine op_assign (nxlf rfl) rfl rfl ?_
    refine op_assign (nxlf rfl) rfl rfl ?_
    refine At.opsNil ?_
    refine At.norm (hk_5 ?_)
    refine At.seq fun K6 hk_6 => ?_
    refine At.seq fun K7 hk_7 => ?_
    refine At.region ?_
    refine op_move (nxlf rfl) rfl rfl ?_
    refine op_gtr (nxlf rfl) rfl rfl rfl ?_
    refine At.opsNil ?_
    refine At.norm (hk_7 ?_)
    refine At.condP rfl (fun c32 => ?_) (fun c32 => ?_)
    · exfalso; omega
    · refine At.skip ?_
      refine At.norm (hk_6 ?_)
      refine At.seq fun K8 hk_8 => ?_
      refine At.region ?_
      have hx : RSl R 1 ax na ca (u32s (digsOf (A * 2 ^ s))) := by rw [hA1]; exact ha
      have hd : RSl R 1 bx nb cb (u32s (digsOf (B * 2 ^ s))) := by rw [hB1]; exact hb
      have hxlen := hx.len32
      generalize hX : digsOf (A * 2 ^ s) = X at *
      rw [← hxlen] at hx
      rw [show Value.slice ax na ca = Value.slice ax X.length ca by rw [hxlen]]
      refine op_move (nxlf rfl) rfl rfl ?_
      refine op_lenS (nxlf rfl) se51 rfl rfl ?_
      refine op_addI (nxlf rfl) rfl rfl (by omega) (by omega) rfl ?_
      refine op_make (nxla rfl) Tryz.underlying51 te56 rfl rfl (show _ = (((na + 2 : Nat)) : Int) from by omega) (show _ = (((na + 2 : Nat)) : Int) from by omega) (by omega) (by unfold maxLen; omega) rfl (fun N42 a42 r42 => ?_)
      rw [made_one _ _ rfl, zero_u32s] at r42
      have s42 := r42.rsl
      refine op_assign (nxlf rfl) rfl rfl ?_
      refine At.opsNil ?_
      refine At.norm (hk_8 ?_)
      refine At.seq fun K9 hk_9 => ?_
      refine At.seq fun K10 hk_10 => ?_
      refine At.region ?_
      refine op_assign (nxlf rfl) rfl rfl ?_
      refine At.opsNil ?_
      refine At.norm (hk_10 ?_)
      refine At.block ?_
      refine At.loop (fun fr_ hp_ ms_ => ∃ (j : Nat) (N42 : Heaplet), fr_ = [(6, .int .i64 (s : Int)), (7, .slice bx nb cb), (8, .slice ax X.length ca), (9, .slice a42 (na + 2) (na + 2)), (10, .int .i64 (j : Int))] ∧ hp_ = [N42, R] ∧ X.length - j = ms_ ∧ (j ≤ X.length) ∧ (Row N42 56 1 a42 (na + 2) (na + 2) (u32s (X.take j ++ List.replicate (na + 2 - j) 0)))) ?_ (.refl _) ⟨0, N42, rfl, rfl, rfl, by omega, by simpa using r42⟩ ?_
      · exact .cons (by first | exact lkI rfl (by omega) | rfl | exact lkB rfl (by rw [decide_eq_decide]; omega)) (.cons (by first | exact lkI rfl (by omega) | rfl | exact lkB rfl (by rw [decide_eq_decide]; omega)) (.cons (by first | exact lkI rfl (by omega) | rfl | exact lkB rfl (by rw [decide_eq_decide]; omega)) (.cons (by first | exact lkI rfl (by omega) | rfl | exact lkB rfl (by rw [decide_eq_decide]; omega)) (.cons (by first | exact lkI rfl (by omega) | rfl | exact lkB rfl (by rw [decide_eq_decide]; omega)) .nil))))
      rintro _ _ _ ⟨j, N42, rfl, rfl, rfl, hj, r42⟩
      have s42 := r42.rsl
      have hjl : (X.take j).length = j := by rw [List.length_take]; omega
      refine At.seq fun K11 hk_11 => ?_
      refine At.seq fun K12 hk_12 => ?_
      refine At.region ?_
      refine op_move (nxlf rfl) rfl rfl ?_
      refine op_move (nxlf rfl) rfl rfl ?_
      refine op_lenS (nxlf rfl) se51 rfl rfl ?_
      refine op_lss (nxlf rfl) rfl rfl rfl ?_
      refine At.opsNil ?_
      refine At.norm (hk_12 ?_)
      refine At.condP rfl (fun c46 => ?_) (fun c46 => ?_)
      · refine At.skip ?_
        refine At.norm (hk_11 ?_)
        refine At.seq fun K13 hk_13 => ?_
        refine At.block ?_
        refine At.region ?_
        refine op_move (nxlf rfl) rfl rfl ?_
        refine op_move (nxlf rfl) rfl rfl ?_
        refine op_move (nxlf rfl) rfl rfl ?_
        refine op_move (nxlf rfl) rfl rfl ?_
        refine op_idx1 (nxlf rfl) se51 rfl rfl hx (show _ = (((j : Nat)) : Int) from by omega) (by omega) rfl ?_
        refine op_loadE (nxlf rfl) sc56 rfl hx (by first | exact get8 (by omega) | exact get64 (by omega) | exact get32 (by omega)) (by first | exact mem0 | exact mem1 | exact mem2 | exact mem3 | exact mem4 | exact mem5 | exact mem6 | exact mem7 | exact mem8 | exact mem9) rfl ?_
        refine op_idx1 (nxlf rfl) se51 rfl rfl s42 (show _ = (((j : Nat)) : Int) from by omega) (by omega) rfl ?_
        refine op_storeE (nxl rfl) sz56 rfl rfl rfl rfl rfl r42 (by simp [u32s]; omega) (by simp) sel0 (fun N42 r42 => ?_)
        simp only [setL] at r42
        rw [set_u32s, set_fill hjl (by omega), take_ext (by omega)] at r42
        have s42 := r42.rsl
        refine At.opsNil ?_
        refine At.inNorm ?_
        refine At.norm (hk_13 ?_)
        refine At.region ?_
        refine op_move (nxlf rfl) rfl rfl ?_
        refine op_addI (nxlf rfl) rfl rfl (by omega) (by omega) rfl ?_
        refine op_assign (nxlf rfl) rfl rfl ?_
        refine At.opsNil ?_
        refine At.norm ?_
        refine At.back ?_ (.refl _) ⟨j + 1, N42, rfl, rfl, rfl, by omega, r42⟩ ?_
        · exact .cons (by first | exact lkI rfl (by omega) | rfl | exact lkB rfl (by rw [decide_eq_decide]; omega)) (.cons (by first | exact lkI rfl (by omega) | rfl | exact lkB rfl (by rw [decide_eq_decide]; omega)) (.cons (by first | exact lkI rfl (by omega) | rfl | exact lkB rfl (by rw [decide_eq_decide]; omega)) (.cons (by first | exact lkI rfl (by omega) | rfl | exact lkB rfl (by rw [decide_eq_decide]; omega)) (.cons (by first | exact lkI rfl (by omega) | rfl | exact lkB rfl (by rw [decide_eq_decide]; omega)) .nil))))
        · omega
      · refine At.exit (At.thenExit (At.thenExit (At.inHit ?_)))
        refine At.norm (hk_9 ?_)
        refine At.seq fun K14 hk_14 => ?_
        refine At.region ?_
        have hjX : j = X.length := by omega
        rw [hjX, List.take_of_length_le (Nat.le_refl _)] at r42
        have hC0l : (X ++ List.replicate (na + 2 - X.length) (0 : UInt32)).length = na + 2 := by rw [List.length_append, List.length_replicate]; omega
        have hC0v := v32_pad' X (na + 2 - X.length)
        rw [hxv] at hC0v
        generalize X ++ List.replicate (na + 2 - X.length) (0 : UInt32) = C0 at *
        have hts := top_small32 hC0l hC0v hA h32 hnb1 (by omega) hV1
        refine op_move (nxlf rfl) rfl rfl ?_
        refine op_lenS (nxlf rfl) se51 rfl rfl ?_
        refine op_assign (nxlf rfl) rfl rfl ?_
        refine At.opsNil ?_
        refine At.norm (hk_14 ?_)
        refine At.seq fun K15 hk_15 => ?_
        refine At.region ?_
        refine op_move (nxlf rfl) rfl rfl ?_
        refine op_lenS (nxlf rfl) se51 rfl rfl ?_
        refine op_move (nxlf rfl) rfl rfl ?_
        refine op_subI (nxlf rfl) rfl rfl (by omega) (by omega) rfl ?_
        refine op_make (nxla rfl) Tryz.underlying51 te56 rfl rfl (show _ = (((na + 2 - nb : Nat)) : Int) from by omega) (show _ = (((na + 2 - nb : Nat)) : Int) from by omega) (by omega) (by unfold maxLen; omega) rfl (fun N62 a62 r62 => ?_)
        rw [made_one _ _ rfl, zero_u32s] at r62
        have s62 := r62.rsl
        refine op_assign (nxlf rfl) rfl rfl ?_
        refine At.opsNil ?_
        refine At.norm (hk_15 ?_)
        refine At.seq fun K16 hk_16 => ?_
        refine At.seq fun K17 hk_17 => ?_
        refine At.region ?_
        refine op_move (nxlf rfl) rfl rfl ?_
        refine op_lenS (nxlf rfl) se51 rfl rfl ?_
        refine op_move (nxlf rfl) rfl rfl ?_
        refine op_subI (nxlf rfl) rfl rfl (by omega) (by omega) rfl ?_
        refine op_subI (nxlf rfl) rfl rfl (by omega) (by omega) rfl ?_
        refine op_assign (nxlf rfl) rfl rfl ?_
        refine At.opsNil ?_
        refine At.norm (hk_17 ?_)
        refine At.block ?_
        refine At.loop (fun fr_ hp_ ms_ => ∃ (J : Nat) (C qh : List UInt32) (N42 N62 : Heaplet), fr_ = [(6, .int .i64 (s : Int)), (7, .slice bx nb cb), (9, .slice a42 (na + 2) (na + 2)), (11, .int .i64 (nb : Int)), (12, .slice a62 (na + 2 - nb) (na + 2 - nb)), (13, .int .i64 ((J : Int) - 1))] ∧ hp_ = [N62, N42, R] ∧ J = ms_ ∧ (J ≤ na + 2 - nb) ∧ (C.length = na + 2) ∧ (v32 C + v32 (List.replicate J 0 ++ qh) * (B * 2 ^ s) = A * 2 ^ s) ∧ (v32 (C.drop J) < B * 2 ^ s) ∧ (Row N42 56 1 a42 (na + 2) (na + 2) (u32s C)) ∧ (Row N62 56 1 a62 (na + 2 - nb) (na + 2 - nb) (u32s (List.replicate J 0 ++ qh)))) ?_ (.refl _) ⟨na + 2 - nb, C0, [], N42, N62, rfl, rfl, rfl, by omega, hC0l, by rw [List.append_nil, v32_replicate, Nat.zero_mul, Nat.add_zero]; exact hC0v, hts, r42, by rw [List.append_nil]; exact r62⟩ ?_
        · exact .cons (by first | exact lkI rfl (by omega) | rfl | exact lkB rfl (by rw [decide_eq_decide]; omega)) (.cons (by first | exact lkI rfl (by omega) | rfl | exact lkB rfl (by rw [decide_eq_decide]; omega)) (.cons (by first | exact lkI rfl (by omega) | rfl | exact lkB rfl (by rw [decide_eq_decide]; omega)) (.cons (by first | exact lkI rfl (by omega) | rfl | exact lkB rfl (by rw [decide_eq_decide]; omega)) (.cons (by first | exact lkI rfl (by omega) | rfl | exact lkB rfl (by rw [decide_eq_decide]; omega)) (.cons (by first | exact lkI rfl (by omega) | rfl | exact lkB rfl (by rw [decide_eq_decide]; omega)) .nil)))))
        rintro _ _ _ ⟨J, C, qh, N42, N62, rfl, rfl, rfl, hJ, hCl, hv, hC, r42, r62⟩
        have s42 := r42.rsl
        have s62 := r62.rsl
        refine At.seq fun K18 hk_18 => ?_
        refine At.seq fun K19 hk_19 => ?_
        refine At.region ?_
        refine op_move (nxlf rfl) rfl rfl ?_
        refine op_geq (nxlf rfl) rfl rfl rfl ?_
        refine At.opsNil ?_
        refine At.norm (hk_19 ?_)
        refine At.condP rfl (fun c69 => ?_) (fun c69 => ?_)
        · refine At.skip ?_
          refine At.norm (hk_18 ?_)
          refine At.seq fun K20 hk_20 => ?_
          refine At.block ?_
          refine At.seq fun K21 hk_21 => ?_
          refine At.drawnS [N62, N42, R] [] [] [0,1,2,3,4,5,6,7,8,9,10,11,12,13,14,15,16,17] (by kernel_rfl) (by kernel_rfl) (.refl _) ?_
          refine op_move (nxsf rfl rfl rfl) rfl rfl ?_
          refine op_move (nxsf rfl rfl rfl) rfl rfl ?_
          refine op_move (nxsf rfl rfl rfl) rfl rfl ?_
          refine op_addI (nxsf rfl rfl rfl) rfl rfl (by omega) (by omega) rfl ?_
          refine op_idx1 (nxsf rfl rfl rfl) se51 rfl rfl s42 (show _ = (((J - 1 + nb : Nat)) : Int) from by omega) (by omega) rfl ?_
          refine op_loadE (nxsf rfl rfl rfl) sc56 rfl s42 (by first | exact get8 (by omega) | exact get64 (by omega) | exact get32 (by omega)) (by first | exact mem0 | exact mem1 | exact mem2 | exact mem3 | exact mem4 | exact mem5 | exact mem6 | exact mem7 | exact mem8 | exact mem9) rfl ?_
          refine op_conv64 (nxsf rfl rfl rfl) (und_some Tryz.underlying56) Tryz.underlying23 rfl (by first | rfl | exact (Int.toNat_of_nonneg (by omega)).symm) rfl ?_
          refine op_shlU (nxsf rfl rfl rfl) rfl rfl (show _ = ((32 : Nat) : Int) from rfl) rfl ?_
          refine op_move (nxsf rfl rfl rfl) rfl rfl ?_
          refine op_move (nxsf rfl rfl rfl) rfl rfl ?_
          refine op_move (nxsf rfl rfl rfl) rfl rfl ?_
          refine op_addI (nxsf rfl rfl rfl) rfl rfl (by omega) (by omega) rfl ?_
          refine op_subI (nxsf rfl rfl rfl) rfl rfl (by omega) (by omega) rfl ?_
          refine op_idx1 (nxsf rfl rfl rfl) se51 rfl rfl s42 (show _ = (((J - 1 + nb - 1 : Nat)) : Int) from by omega) (by omega) rfl ?_
          refine op_loadE (nxsf rfl rfl rfl) sc56 rfl s42 (by first | exact get8 (by omega) | exact get64 (by omega) | exact get32 (by omega)) (by first | exact mem0 | exact mem1 | exact mem2 | exact mem3 | exact mem4 | exact mem5 | exact mem6 | exact mem7 | exact mem8 | exact mem9) rfl ?_
          refine op_conv64 (nxsf rfl rfl rfl) (und_some Tryz.underlying56) Tryz.underlying23 rfl (by first | rfl | exact (Int.toNat_of_nonneg (by omega)).symm) rfl ?_
          refine op_orU (nxsf rfl rfl rfl) rfl rfl rfl ?_
          have hw := win_lt32 (G := C) (j := J - 1) (n := nb) (V := B * 2 ^ s) (by omega) (by rw [show J - 1 + 1 = J by omega]; exact hC) (Nat.le_of_lt hV2)
          have hwl : ((C.drop (J - 1)).take (nb + 1)).length = nb + 1 := by rw [List.length_take, List.length_drop]; omega
          have hsp := win_split C (J - 1) (nb + 1)
          have hpre : (C.take (J - 1)).length = J - 1 := by rw [List.length_take]; omega
          have htop : (shl64 (UInt64.ofNat (C.getD (J - 1 + nb) 0).toNat) 32 ||| UInt64.ofNat (C.getD (J - 1 + nb - 1) 0).toNat).toNat = (((C.drop (J - 1)).take (nb + 1)).getD nb 0).toNat * 4294967296 + (((C.drop (J - 1)).take (nb + 1)).getD (nb - 1) 0).toNat := by
            rw [UInt64.toNat_or, Nat.or_comm, ← UInt64.toNat_or, or_hi32, win_getD (by omega), win_getD (by omega), show J - 1 + (nb - 1) = J - 1 + nb - 1 by omega, Nat.add_comm]
          generalize shl64 (UInt64.ofNat (C.getD (J - 1 + nb) 0).toNat) 32 ||| UInt64.ofNat (C.getD (J - 1 + nb - 1) 0).toNat = tp at *
          have hQB : v32 ((C.drop (J - 1)).take (nb + 1)) / (B * 2 ^ s) < 4294967296 := by rw [Nat.div_lt_iff_lt_mul hVp, Nat.mul_comm]; exact hw.1
          have hqg := qhat_ge32 (u := (C.drop (J - 1)).take (nb + 1)) (v := digsOf (B * 2 ^ s)) (n := nb) (Q := v32 ((C.drop (J - 1)).take (nb + 1)) / (B * 2 ^ s)) hwl hdl hnb1 (by rw [hdv]; exact Nat.div_mul_le_self _ _) hdt
          refine op_assign (nxsf rfl rfl rfl) rfl rfl ?_
          refine At.sNil ?_
          refine At.norm (hk_21 ?_)
          refine At.seq fun K22 hk_22 => ?_
          refine At.region ?_
          refine op_move (nxlf rfl) rfl rfl ?_
          refine op_move (nxlf rfl) rfl rfl ?_
          refine op_move (nxlf rfl) rfl rfl ?_
          refine op_subI (nxlf rfl) rfl rfl (by omega) (by omega) rfl ?_
          refine op_idx1 (nxlf rfl) se51 rfl rfl hd (show _ = (((nb - 1 : Nat)) : Int) from by omega) (by omega) rfl ?_
          refine op_loadE (nxlf rfl) sc56 rfl hd (by first | exact get8 (by omega) | exact get64 (by omega) | exact get32 (by omega)) (by first | exact mem0 | exact mem1 | exact mem2 | exact mem3 | exact mem4 | exact mem5 | exact mem6 | exact mem7 | exact mem8 | exact mem9) rfl ?_
          refine op_conv64 (nxlf rfl) (und_some Tryz.underlying56) Tryz.underlying23 rfl (by first | rfl | exact (Int.toNat_of_nonneg (by omega)).symm) rfl ?_
          refine op_quoU (nxlf rfl) rfl rfl (by rw [of32]; omega) rfl ?_
          have hg0 : (tp / UInt64.ofNat ((digsOf (B * 2 ^ s)).getD (nb - 1) 0).toNat).toNat = tp.toNat / ((digsOf (B * 2 ^ s)).getD (nb - 1) 0).toNat := by rw [UInt64.toNat_div, of32]
          rw [← htop, ← hg0] at hqg
          generalize tp / UInt64.ofNat ((digsOf (B * 2 ^ s)).getD (nb - 1) 0).toNat = g0 at *
          refine op_assign (nxlf rfl) rfl rfl ?_
          refine At.opsNil ?_
          refine At.norm (hk_22 ?_)
          refine At.seq fun K23 hk_23 => ?_
          refine At.meet (fun fr_ hp_ => ∃ (g1 : UInt64), fr_ = [(6, .int .i64 (s : Int)), (7, .slice bx nb cb), (9, .slice a42 (na + 2) (na + 2)), (11, .int .i64 (nb : Int)), (12, .slice a62 (na + 2 - nb) (na + 2 - nb)), (13, .int .i64 ((J : Int) - 1)), (15, .int .u64 (g1.toNat : Int))] ∧ hp_ = [N62, N42, R] ∧ (g1.toNat ≤ 4294967295) ∧ (v32 ((C.drop (J - 1)).take (nb + 1)) / (B * 2 ^ s) ≤ g1.toNat)) ?_ (fun K23_ jk_23 => ?_)
          rotate_left
          · skip
            refine At.seq fun K24 hk_24 => ?_
            refine At.region ?_
            refine op_move (nxlf rfl) rfl rfl ?_
            refine op_gtr (nxlf rfl) rfl rfl rfl ?_
            refine At.opsNil ?_
            refine At.norm (hk_24 ?_)
            refine At.condP rfl (fun c98 => ?_) (fun c98 => ?_)
            · refine At.region ?_
              refine op_assign (nxlf rfl) rfl rfl ?_
              refine At.opsNil ?_
              refine At.norm (jk_23 ?_ (.refl _) ⟨4294967295, rfl, rfl, by decide, by show _ ≤ 4294967295; omega⟩)
              exact .cons (by first | exact lkI rfl (by omega) | rfl | exact lkB rfl (by rw [decide_eq_decide]; omega)) (.cons (by first | exact lkI rfl (by omega) | rfl | exact lkB rfl (by rw [decide_eq_decide]; omega)) (.cons (by first | exact lkI rfl (by omega) | rfl | exact lkB rfl (by rw [decide_eq_decide]; omega)) (.cons (by first | exact lkI rfl (by omega) | rfl | exact lkB rfl (by rw [decide_eq_decide]; omega)) (.cons (by first | exact lkI rfl (by omega) | rfl | exact lkB rfl (by rw [decide_eq_decide]; omega)) (.cons (by first | exact lkI rfl (by omega) | rfl | exact lkB rfl (by rw [decide_eq_decide]; omega)) (.cons (by first | exact lkI rfl (by omega) | rfl | exact lkB rfl (by rw [decide_eq_decide]; omega)) .nil))))))
            · refine At.skip ?_
              refine At.norm (jk_23 ?_ (.refl _) ⟨g0, rfl, rfl, by omega, hqg⟩)
              exact .cons (by first | exact lkI rfl (by omega) | rfl | exact lkB rfl (by rw [decide_eq_decide]; omega)) (.cons (by first | exact lkI rfl (by omega) | rfl | exact lkB rfl (by rw [decide_eq_decide]; omega)) (.cons (by first | exact lkI rfl (by omega) | rfl | exact lkB rfl (by rw [decide_eq_decide]; omega)) (.cons (by first | exact lkI rfl (by omega) | rfl | exact lkB rfl (by rw [decide_eq_decide]; omega)) (.cons (by first | exact lkI rfl (by omega) | rfl | exact lkB rfl (by rw [decide_eq_decide]; omega)) (.cons (by first | exact lkI rfl (by omega) | rfl | exact lkB rfl (by rw [decide_eq_decide]; omega)) (.cons (by first | exact lkI rfl (by omega) | rfl | exact lkB rfl (by rw [decide_eq_decide]; omega)) .nil))))))
          rintro _ _ ⟨g1, rfl, rfl, hg1, hg2⟩
          refine hk_23 ?_
          refine At.seq fun K25 hk_25 => ?_
          refine At.meet (fun fr_ hp_ => ∃ (x : List UInt32) (g : UInt64) (M42 : Heaplet), fr_ = [(6, .int .i64 (s : Int)), (7, .slice bx nb cb), (9, .slice a42 (na + 2) (na + 2)), (11, .int .i64 (nb : Int)), (12, .slice a62 (na + 2 - nb) (na + 2 - nb)), (13, .int .i64 ((J : Int) - 1)), (15, .int .u64 (g.toNat : Int))] ∧ hp_ = [N62, M42, R] ∧ (x.length = nb + 1) ∧ (g.toNat ≤ 4294967295) ∧ (v32 x + g.toNat * (B * 2 ^ s) = v32 ((C.drop (J - 1)).take (nb + 1))) ∧ (v32 x < B * 2 ^ s) ∧ (Row M42 56 1 a42 (na + 2) (na + 2) (u32s (C.take (J - 1) ++ x ++ C.drop (J - 1 + (nb + 1)))))) ?_ (fun K25_ jk_25 => ?_)
          rotate_left
          · skip
            refine At.seq fun K26 hk_26 => ?_
            refine At.region ?_
            refine op_move (nxlf rfl) rfl rfl ?_
            refine op_move (nxlf rfl) rfl rfl ?_
            refine op_move (nxlf rfl) rfl rfl ?_
            refine op_move (nxlf rfl) rfl rfl ?_
            rw [hsp] at r42
            rw [show (J : Int) - 1 = ((J - 1 : Nat) : Int) by omega]
            refine At.perm sel2 ?_
            refine At.perm sel1 ?_
            refine At.perm sel2 ?_
            refine op_call (nxl rfl) (.cons rfl (.cons rfl (.cons rfl (.cons rfl .nil)))) (less_f r42 hd hpre hwl (by omega) (by omega) hg1) (F := [N62, R]) Tryz.func48 rfl rfl (.refl _) (by simp) rfl ?_
            rintro v103 L103 ⟨M42, x1, bw, rfl, rfl, r42, hx1l, hbw, hx1⟩
            change At _ _ _ [M42, N62, R] _
            skip
            rw [hdv, hwl] at hx1
            rw [hwl] at hx1l
            have hU := v32_lt ((C.drop (J - 1)).take (nb + 1))
            rw [hwl] at hU
            refine At.opsNil ?_
            refine At.norm (hk_26 ?_)
            refine At.condP rfl (fun c103 => ?_) (fun c103 => ?_)
            · refine At.seq fun K27 hk_27 => ?_
              refine At.region ?_
              refine op_assign (nxlf rfl) rfl rfl ?_
              refine At.opsNil ?_
              refine At.norm (hk_27 ?_)
              refine At.block ?_
              refine At.perm sel2 ?_
              refine At.perm sel1 ?_
              refine At.perm sel2 ?_
              refine At.loop (fun fr_ hp_ ms_ => ∃ (x : List UInt32) (g : UInt64) (bo : Nat) (M42 : Heaplet), fr_ = [(6, .int .i64 (s : Int)), (7, .slice bx nb cb), (9, .slice a42 (na + 2) (na + 2)), (11, .int .i64 (nb : Int)), (12, .slice a62 (na + 2 - nb) (na + 2 - nb)), (13, .int .i64 ((J : Int) - 1)), (15, .int .u64 (g.toNat : Int)), (16, .bool (decide (bo = 1)))] ∧ hp_ = [N62, M42, R] ∧ g.toNat = ms_ ∧ (x.length = nb + 1) ∧ (g.toNat ≤ 4294967295) ∧ (bo ≤ 1) ∧ (v32 x + g.toNat * (B * 2 ^ s) = v32 ((C.drop (J - 1)).take (nb + 1)) + bo * 2 ^ (32 * (nb + 1))) ∧ (bo = 0 → v32 x < B * 2 ^ s) ∧ (Row M42 56 1 a42 (na + 2) (na + 2) (u32s (C.take (J - 1) ++ x ++ C.drop (J - 1 + (nb + 1)))))) ?_ (.refl _) ⟨x1, g1, 1, M42, rfl, rfl, rfl, hx1l, hg1, by decide, by rw [show bw = 1 by omega] at hx1; exact hx1, by intro h; omega, r42⟩ ?_
              · exact .cons (by first | exact lkI rfl (by omega) | rfl | exact lkB rfl (by rw [decide_eq_decide]; omega)) (.cons (by first | exact lkI rfl (by omega) | rfl | exact lkB rfl (by rw [decide_eq_decide]; omega)) (.cons (by first | exact lkI rfl (by omega) | rfl | exact lkB rfl (by rw [decide_eq_decide]; omega)) (.cons (by first | exact lkI rfl (by omega) | rfl | exact lkB rfl (by rw [decide_eq_decide]; omega)) (.cons (by first | exact lkI rfl (by omega) | rfl | exact lkB rfl (by rw [decide_eq_decide]; omega)) (.cons (by first | exact lkI rfl (by omega) | rfl | exact lkB rfl (by rw [decide_eq_decide]; omega)) (.cons (by first | exact lkI rfl (by omega) | rfl | exact lkB rfl (by rw [decide_eq_decide]; omega)) (.cons (by first | exact lkI rfl (by omega) | rfl | exact lkB rfl (by rw [decide_eq_decide]; omega)) .nil)))))))
              rintro _ _ _ ⟨x, g, bo, M42, rfl, rfl, rfl, hxl2, hg, hbo, hx2, hx3, r42⟩
              have s42 := r42.rsl
              have hxal : (C.take (J - 1) ++ x ++ C.drop (J - 1 + (nb + 1))).length = na + 2 := by rw [List.length_append, List.length_append, List.length_take, List.length_drop]; omega
              have hxt : (C.take (J - 1) ++ x ++ C.drop (J - 1 + (nb + 1))).getD (J - 1 + nb) 0 = x.getD nb 0 := by rw [List.append_assoc, getD_right hpre, getD_app (by omega)]
              refine At.seq fun K28 hk_28 => ?_
              refine At.seq fun K29 hk_29 => ?_
              refine At.region ?_
              refine op_move (nxlf rfl) rfl rfl ?_
              refine At.opsNil ?_
              refine At.norm (hk_29 ?_)
              refine At.condP rfl (fun c104 => ?_) (fun c104 => ?_)
              · refine At.skip ?_
                refine At.norm (hk_28 ?_)
                refine At.block ?_
                refine At.seq fun K30 hk_30 => ?_
                refine At.region ?_
                refine op_move (nxlf rfl) rfl rfl ?_
                refine op_subU (b := 1) (nxlf rfl) rfl rfl rfl ?_
                refine op_assign (nxlf rfl) rfl rfl ?_
                refine At.opsNil ?_
                refine At.norm (hk_30 ?_)
                refine At.seq fun K31 hk_31 => ?_
                refine At.region ?_
                refine op_move (nxlf rfl) rfl rfl ?_
                refine op_move (nxlf rfl) rfl rfl ?_
                refine op_move (nxlf rfl) rfl rfl ?_
                refine op_addI (nxlf rfl) rfl rfl (by omega) (by omega) rfl ?_
                refine op_idx1 (nxlf rfl) se51 rfl rfl s42 (show _ = (((J - 1 + nb : Nat)) : Int) from by omega) (by omega) rfl ?_
                refine op_loadE (nxlf rfl) sc56 rfl s42 (by first | exact get8 (by omega) | exact get64 (by omega) | exact get32 (by omega)) (by first | exact mem0 | exact mem1 | exact mem2 | exact mem3 | exact mem4 | exact mem5 | exact mem6 | exact mem7 | exact mem8 | exact mem9) rfl ?_
                rw [hxt]
                refine op_assign (nxlf rfl) rfl rfl ?_
                refine At.opsNil ?_
                refine At.norm (hk_31 ?_)
                refine At.seq fun K32 hk_32 => ?_
                refine At.region ?_
                refine op_move (nxlf rfl) rfl rfl ?_
                refine op_move (nxlf rfl) rfl rfl ?_
                refine op_move (nxlf rfl) rfl rfl ?_
                rw [show (J : Int) - 1 = ((J - 1 : Nat) : Int) by omega]
                refine At.perm sel2 ?_
                refine At.perm sel1 ?_
                refine At.perm sel2 ?_
                refine op_call (nxl rfl) (.cons rfl (.cons rfl (.cons rfl .nil))) (back_f r42 hd hpre hxl2 (by omega) (by omega)) (F := [N62, R]) Tryz.func49 rfl rfl (.refl _) (by simp) rfl ?_
                rintro v116 L116 ⟨M42, x2, cc, rfl, rfl, r42, hx2l, hcc, hxb, hxc⟩
                change At _ _ _ [M42, N62, R] _
                skip
                have s42 := r42.rsl
                have hx2al : (C.take (J - 1) ++ x2 ++ C.drop (J - 1 + (nb + 1))).length = na + 2 := by rw [List.length_append, List.length_append, List.length_take, List.length_drop]; omega
                have hx2t : (C.take (J - 1) ++ x2 ++ C.drop (J - 1 + (nb + 1))).getD (J - 1 + nb) 0 = x2.getD nb 0 := by rw [List.append_assoc, getD_right hpre, getD_app (by omega)]
                have hb1 : bo = 1 := by omega
                rw [hb1] at hx2
                have e1 := v32_lt x
                have e2 := v32_lt x2
                rw [hxl2] at e1 hxb
                rw [show x2.length = nb + 1 by omega] at e2
                rw [hdv] at hxb
                rw [hdl] at hxc
                obtain ⟨m1, m2, m3⟩ := step_back hx2 (by omega) e1 hxb hcc e2
                have hgm := sub_one64 m1
                refine At.opsNil ?_
                refine At.norm (hk_32 ?_)
                refine At.region ?_
                refine op_move (nxlf rfl) rfl rfl ?_
                refine op_move (nxlf rfl) rfl rfl ?_
                refine op_move (nxlf rfl) rfl rfl ?_
                refine op_addI (nxlf rfl) rfl rfl (by omega) (by omega) rfl ?_
                refine op_idx1 (nxlf rfl) se51 rfl rfl s42 (show _ = (((J - 1 + nb : Nat)) : Int) from by omega) (by omega) rfl ?_
                refine op_loadE (nxlf rfl) sc56 rfl s42 (by first | exact get8 (by omega) | exact get64 (by omega) | exact get32 (by omega)) (by first | exact mem0 | exact mem1 | exact mem2 | exact mem3 | exact mem4 | exact mem5 | exact mem6 | exact mem7 | exact mem8 | exact mem9) rfl ?_
                rw [hx2t]
                refine op_move (nxlf rfl) rfl rfl ?_
                refine op_geq (nxlf rfl) rfl rfl rfl ?_
                refine op_assign (nxlf rfl) rfl rfl ?_
                refine At.opsNil ?_
                refine At.inNorm ?_
                refine At.norm ?_
                refine At.perm sel2 ?_
                refine At.perm sel1 ?_
                refine At.perm sel2 ?_
                refine At.back ?_ (.refl _) ⟨x2, g - 1, 1 - cc, M42, rfl, rfl, rfl, by omega, by rw [hgm]; omega, by omega, by rw [hgm]; exact m2, m3, r42⟩ ?_
                · exact .cons (by first | exact lkI rfl (by omega) | rfl | exact lkB rfl (by rw [decide_eq_decide]; omega)) (.cons (by first | exact lkI rfl (by omega) | rfl | exact lkB rfl (by rw [decide_eq_decide]; omega)) (.cons (by first | exact lkI rfl (by omega) | rfl | exact lkB rfl (by rw [decide_eq_decide]; omega)) (.cons (by first | exact lkI rfl (by omega) | rfl | exact lkB rfl (by rw [decide_eq_decide]; omega)) (.cons (by first | exact lkI rfl (by omega) | rfl | exact lkB rfl (by rw [decide_eq_decide]; omega)) (.cons (by first | exact lkI rfl (by omega) | rfl | exact lkB rfl (by rw [decide_eq_decide]; omega)) (.cons (by first | exact lkI rfl (by omega) | rfl | exact lkB rfl (by rw [decide_eq_decide]; omega)) (.cons (by first | exact lkI rfl (by omega) | rfl | exact lkB rfl (by rw [decide_eq_decide]; omega)) .nil)))))))
                · omega
              · refine At.exit (At.thenExit (At.thenExit (At.inHit ?_)))
                refine At.norm (jk_25 ?_ (.refl _) ⟨x, g, M42, rfl, rfl, hxl2, hg, by rw [show bo = 0 by omega, Nat.zero_mul, Nat.add_zero] at hx2; exact hx2, hx3 (by omega), r42⟩)
                exact .cons (by first | exact lkI rfl (by omega) | rfl | exact lkB rfl (by rw [decide_eq_decide]; omega)) (.cons (by first | exact lkI rfl (by omega) | rfl | exact lkB rfl (by rw [decide_eq_decide]; omega)) (.cons (by first | exact lkI rfl (by omega) | rfl | exact lkB rfl (by rw [decide_eq_decide]; omega)) (.cons (by first | exact lkI rfl (by omega) | rfl | exact lkB rfl (by rw [decide_eq_decide]; omega)) (.cons (by first | exact lkI rfl (by omega) | rfl | exact lkB rfl (by rw [decide_eq_decide]; omega)) (.cons (by first | exact lkI rfl (by omega) | rfl | exact lkB rfl (by rw [decide_eq_decide]; omega)) (.cons (by first | exact lkI rfl (by omega) | rfl | exact lkB rfl (by rw [decide_eq_decide]; omega)) .nil))))))
            · refine At.skip ?_
              refine At.perm sel2 ?_
              refine At.perm sel1 ?_
              refine At.perm sel2 ?_
              refine At.norm (jk_25 ?_ (.refl _) ⟨x1, g1, M42, rfl, rfl, hx1l, hg1, by rw [show bw = 0 by omega, Nat.zero_mul, Nat.add_zero] at hx1; exact hx1, step_start (Q := 0) hVp hx1 hg2 (by omega), r42⟩)
              exact .cons (by first | exact lkI rfl (by omega) | rfl | exact lkB rfl (by rw [decide_eq_decide]; omega)) (.cons (by first | exact lkI rfl (by omega) | rfl | exact lkB rfl (by rw [decide_eq_decide]; omega)) (.cons (by first | exact lkI rfl (by omega) | rfl | exact lkB rfl (by rw [decide_eq_decide]; omega)) (.cons (by first | exact lkI rfl (by omega) | rfl | exact lkB rfl (by rw [decide_eq_decide]; omega)) (.cons (by first | exact lkI rfl (by omega) | rfl | exact lkB rfl (by rw [decide_eq_decide]; omega)) (.cons (by first | exact lkI rfl (by omega) | rfl | exact lkB rfl (by rw [decide_eq_decide]; omega)) (.cons (by first | exact lkI rfl (by omega) | rfl | exact lkB rfl (by rw [decide_eq_decide]; omega)) .nil))))))
          rintro _ _ ⟨x, g, M42, rfl, rfl, hxl2, hg, hx2, hx3, r42⟩
          refine hk_25 ?_
          refine At.region ?_
          refine op_move (nxlf rfl) rfl rfl ?_
          refine op_move (nxlf rfl) rfl rfl ?_
          refine op_move (nxlf rfl) rfl rfl ?_
          refine op_conv32 (nxlf rfl) (und_some Tryz.underlying23) Tryz.underlying56 rfl (by first | rfl | exact (Int.toNat_of_nonneg (by omega)).symm) rfl ?_
          refine op_idx1 (nxlf rfl) se51 rfl rfl s62 (show _ = (((J - 1 : Nat)) : Int) from by omega) (by omega) rfl ?_
          refine op_storeE (nxl rfl) sz56 rfl rfl rfl rfl rfl r62 (by simp <;> omega) (by simp) sel0 (fun N62 r62 => ?_)
          obtain ⟨k1, k2⟩ := step_end hx2 hx3
          have hgl : (lo32 g).toNat = g.toNat := by rw [lo32_nat]; omega
          obtain ⟨d1, d2, d3⟩ := div_round32 (qs := List.replicate J 0 ++ qh) (h := qh) (u' := x) (q := lo32 g) (j := J - 1) (by omega) (by rw [show J - 1 + 1 = J by omega]) hv hw.2.2 hw.2.1 hxl2 (by rw [hgl]; exact k1) k2 hVp
          simp only [setL] at r62
          rw [set_u32s] at r62
          change Row N62 _ 1 a62 _ _ (u32s ((List.replicate J 0 ++ qh).set (J - 1) (lo32 g))) at r62
          have s62 := r62.rsl
          refine At.opsNil ?_
          refine At.inNorm ?_
          refine At.norm (hk_20 ?_)
          refine At.region ?_
          refine op_move (nxlf rfl) rfl rfl ?_
          refine op_subI (nxlf rfl) rfl rfl (by omega) (by omega) rfl ?_
          refine op_assign (nxlf rfl) rfl rfl ?_
          refine At.opsNil ?_
          refine At.norm ?_
          refine At.back ?_ (.refl _) ⟨J - 1, C.take (J - 1) ++ x ++ C.drop (J - 1 + (nb + 1)), lo32 g :: qh, M42, N62, rfl, rfl, rfl, by omega, by rw [List.length_append, List.length_append, List.length_take, List.length_drop, hxl2]; omega, by rw [← d3]; exact d1, d2, r42, by rw [← d3]; exact r62⟩ ?_
          · exact .cons (by first | exact lkI rfl (by omega) | rfl | exact lkB rfl (by rw [decide_eq_decide]; omega)) (.cons (by first | exact lkI rfl (by omega) | rfl | exact lkB rfl (by rw [decide_eq_decide]; omega)) (.cons (by first | exact lkI rfl (by omega) | rfl | exact lkB rfl (by rw [decide_eq_decide]; omega)) (.cons (by first | exact lkI rfl (by omega) | rfl | exact lkB rfl (by rw [decide_eq_decide]; omega)) (.cons (by first | exact lkI rfl (by omega) | rfl | exact lkB rfl (by rw [decide_eq_decide]; omega)) (.cons (by first | exact lkI rfl (by omega) | rfl | exact lkB rfl (by rw [decide_eq_decide]; omega)) .nil)))))
          · omega
        · refine At.exit (At.thenExit (At.thenExit (At.inHit ?_)))
          refine At.norm (hk_16 ?_)
          refine At.seq fun K33 hk_33 => ?_
          refine At.seq fun K34 hk_34 => ?_
          refine At.region ?_
          have hJ0 : J = 0 := by omega
          subst hJ0
          rw [List.replicate_zero, List.nil_append] at hv r62
          rw [List.drop_zero] at hC
          obtain ⟨f1, f2⟩ := div_fin hv hC
          have s42 := r42.rsl
          have s62 := r62.rsl
          refine op_move (nxlf rfl) rfl rfl ?_
          refine op_eql (nxlf rfl) rfl rfl rfl ?_
          refine At.opsNil ?_
          refine At.norm (hk_34 ?_)
          refine At.condP rfl (fun c131 => ?_) (fun c131 => ?_)
          · refine At.seq fun K35 hk_35 => ?_
            refine At.region ?_
            refine op_move (nxlf rfl) rfl rfl ?_
            refine op_callA (nxla rfl) (.cons rfl .nil) (trim32_f s62) Tryz.func50 rfl rfl (by simp) rfl ?_
            rintro v133 L133 ⟨rfl, rfl, t133, l133⟩
            change At _ _ _ [N62, N42, R] _
            refine op_move (nxlf rfl) rfl rfl ?_
            refine op_callA (nxla rfl) (.cons rfl .nil) (trim32_f s42) Tryz.func50 rfl rfl (by simp) rfl ?_
            rintro v135 L135 ⟨rfl, rfl, t135, l135⟩
            change At _ _ _ [N62, N42, R] _
            refine op_assign (nxlf rfl) rfl rfl ?_
            refine op_assign (nxlf rfl) rfl rfl ?_
            refine At.opsNil ?_
            refine At.norm (hk_35 ?_)
            refine At.ret (At.thenRet (?_))
            refine At.retN (L1 := [N62, N42]) rfl (.tmp rfl (.tmp rfl .nil)) rfl (.refl _) (.refl _) ?_
            have h1 := trim32d s62 t133 l133
            have h2 := trim32d s42 t135 l135
            rw [hsz, Nat.pow_zero, Nat.div_one] at f2
            rw [f1] at h1 ⊢
            rw [f2] at h2 ⊢
            exact ⟨N62, a62, _, N42, a42, _, rfl, rfl, h1, h2⟩
          · exfalso; omega
set_option maxRecDepth 100000 in
set_option maxHeartbeats 2000000 in
theorem rDivMod_s1 {N M : Heaplet} {ax bx : Option Addr} {na nb ca cb A B s : Nat} (ha : RSl N 1 ax na ca (u32s (digsOf A))) (hb : RSl M 1 bx nb cb (u32s (digsOf B))) (hn : na ≤ 1099511627770) (hm : nb ≤ 1099511627770) (hge : B ≤ A) (hB : 0 < B) (hs : s = 32 * (digsOf B).length - bitLen B) (hsz : 0 < s) :
    Fn Tryz.prog 27 #[.slice ax na ca, .slice bx nb cb] [] [N, M] (DigsP2 (A / B) (A % B)) := by
  have hca := ha.cap63
  have hcb := hb.cap63
  have hal := ha.len32
  have hbl := hb.len32
  have hnc : ¬ cmpI A B < 0 := fun h => by have := cmpI_lt.1 h; omega
  obtain ⟨h32, hnb1, hdl, hV1, hV2⟩ := norm32 hB hs
  have hbb : bitLen B ≤ 32 * nb := by have := length_digsOf B; omega
  have hxl := x_len (A := A) h32
  have hA : A < 2 ^ (32 * (digsOf A).length) := by have := v32_lt (digsOf A); rwa [v32_digsOf] at this
  rw [hbl] at hs hnb1 hdl hV1 hV2
  rw [hal] at hxl hA
  have hnn : nb ≤ na := by
    have h1 := digs_mono hge
    omega
  have hVp : 0 < B * 2 ^ s := Nat.mul_pos hB (Nat.pow_pos (by decide))
  obtain ⟨_, hdt⟩ := digs_top hVp
  rw [hdl] at hdt
  have hdv := v32_digsOf (B * 2 ^ s)
  have hxv := v32_digsOf (A * 2 ^ s)
  refine Fn.enter (vs := [.slice ax na ca, .slice bx nb cb]) Tryz.func27 rfl rfl rfl ?_
  intro E R hR
  have ha := ha.le (hR N (by simp))
  have hb := hb.le (hR M (by simp))
  change At _ _ E [R] _
  refine At.seq fun K1 hk_1 => ?_
  refine At.region ?_
  refine op_assign (nxlf rfl) rfl rfl ?_
  refine op_assign (nxlf rfl) rfl rfl ?_
  refine At.opsNil ?_
  refine At.norm (hk_1 ?_)
  refine At.seq fun K2 hk_2 => ?_
  refine At.seq fun K3 hk_3 => ?_
  refine At.region ?_
  refine op_move (nxlf rfl) rfl rfl ?_
  refine op_move (nxlf rfl) rfl rfl ?_
  refine op_callA (nxla rfl) (.cons rfl (.cons rfl .nil)) (Cmp32_f ha hb) Tryz.func45 rfl rfl (by simp) rfl ?_
  rintro v20 L20 ⟨rfl, rfl⟩
  change At _ _ _ [R] _
  refine op_lss (nxlf rfl) rfl rfl rfl ?_
  refine At.opsNil ?_
  refine At.norm (hk_3 ?_)
  refine At.condP rfl (fun c21 => ?_) (fun c21 => ?_)
  · exfalso; omega
  · refine At.skip ?_
    refine At.norm (hk_2 ?_)
    refine At.seq fun K4 hk_4 => ?_
    refine At.region ?_
    refine op_move (nxlf rfl) rfl rfl ?_
    refine op_lenS (nxlf rfl) se51 rfl rfl ?_
    refine op_mulI (nxlf rfl) rfl rfl (by omega) (by omega) rfl ?_
    refine op_move (nxlf rfl) rfl rfl ?_
    refine op_callA (nxla rfl) (.cons rfl .nil) (rLen_f hb (by omega)) Tryz.func46 rfl rfl (by simp) rfl ?_
    rintro v27 L27 ⟨rfl, rfl⟩
    change At _ _ _ [R] _
    rw [v32_digsOf]
    refine op_subI (nxlf rfl) rfl rfl (by omega) (by omega) rfl ?_
    have e28 : (32 : Int) * (nb : Int) - ((bitLen B : Nat) : Int) = (s : Int) := by omega
    rw [e28]
    refine op_assign (nxlf rfl) rfl rfl ?_
    refine At.opsNil ?_
    refine At.norm (hk_4 ?_)
    refine At.seq fun K5 hk_5 => ?_
    refine At.region ?_
    refine op_move (nxlf rfl) rfl rfl ?_
    refine op_move (nxlf rfl) rfl rfl ?_
    refine op_assign (nxlf rfl) rfl rfl ?_
    refine op_assign (nxlf rfl) rfl rfl ?_
    refine At.opsNil ?_
    refine At.norm (hk_5 ?_)
    refine At.seq fun K6 hk_6 => ?_
    refine At.seq fun K7 hk_7 => ?_
    refine At.region ?_
    refine op_move (nxlf rfl) rfl rfl ?_
    refine op_gtr (nxlf rfl) rfl rfl rfl ?_
    refine At.opsNil ?_
    refine At.norm (hk_7 ?_)
    refine At.condP rfl (fun c32 => ?_) (fun c32 => ?_)
    · refine At.region ?_
      refine op_move (nxlf rfl) rfl rfl ?_
      refine op_move (nxlf rfl) rfl rfl ?_
      refine op_callA (nxla rfl) (.cons rfl (.cons rfl .nil)) (rShl_f hb s (by omega) (by omega)) Tryz.func47 rfl rfl (by simp) rfl ?_
      rintro v35 L35 ⟨M35, p35, c35, rfl, rfl, hd⟩
      change At _ _ _ [M35, R] _
      refine op_move (nxlf rfl) rfl rfl ?_
      refine op_move (nxlf rfl) rfl rfl ?_
      refine op_callA (nxla rfl) (.cons rfl (.cons rfl .nil)) (rShl_f ha s (by omega) (by omega)) Tryz.func47 rfl rfl (by simp) rfl ?_
      rintro v38 L38 ⟨M38, p38, c38, rfl, rfl, hx⟩
      change At _ _ _ [M38, M35, R] _
      rw [v32_digsOf] at hd hx
      rw [v32_digsOf, v32_digsOf, hdl]
      rw [hdl] at hd
      have hxlen := hx.len32
      generalize hX : digsOf (A * 2 ^ s) = X at *
      refine op_assign (nxlf rfl) rfl rfl ?_
      refine op_assign (nxlf rfl) rfl rfl ?_
      refine At.opsNil ?_
      refine At.norm (hk_6 ?_)
      refine At.seq fun K8 hk_8 => ?_
      refine At.region ?_
      refine op_move (nxlf rfl) rfl rfl ?_
      refine op_lenS (nxlf rfl) se51 rfl rfl ?_
      refine op_addI (nxlf rfl) rfl rfl (by omega) (by omega) rfl ?_
      refine op_make (nxla rfl) Tryz.underlying51 te56 rfl rfl (show _ = (((na + 2 : Nat)) : Int) from by omega) (show _ = (((na + 2 : Nat)) : Int) from by omega) (by omega) (by unfold maxLen; omega) rfl (fun N42 a42 r42 => ?_)
      rw [made_one _ _ rfl, zero_u32s] at r42
      have s42 := r42.rsl
      refine op_assign (nxlf rfl) rfl rfl ?_
      refine At.opsNil ?_
      refine At.norm (hk_8 ?_)
      refine At.seq fun K9 hk_9 => ?_
      refine At.seq fun K10 hk_10 => ?_
      refine At.region ?_
      refine op_assign (nxlf rfl) rfl rfl ?_
      refine At.opsNil ?_
      refine At.norm (hk_10 ?_)
      refine At.block ?_
      refine At.loop (fun fr_ hp_ ms_ => ∃ (j : Nat) (N42 : Heaplet), fr_ = [(6, .int .i64 (s : Int)), (7, .slice p35 nb c35), (8, .slice p38 X.length c38), (9, .slice a42 (na + 2) (na + 2)), (10, .int .i64 (j : Int))] ∧ hp_ = [N42, M38, M35, R] ∧ X.length - j = ms_ ∧ (j ≤ X.length) ∧ (Row N42 56 1 a42 (na + 2) (na + 2) (u32s (X.take j ++ List.replicate (na + 2 - j) 0)))) ?_ (.refl _) ⟨0, N42, rfl, rfl, rfl, by omega, by simpa using r42⟩ ?_
      · exact .cons (by first | exact lkI rfl (by omega) | rfl | exact lkB rfl (by rw [decide_eq_decide]; omega)) (.cons (by first | exact lkI rfl (by omega) | rfl | exact lkB rfl (by rw [decide_eq_decide]; omega)) (.cons (by first | exact lkI rfl (by omega) | rfl | exact lkB rfl (by rw [decide_eq_decide]; omega)) (.cons (by first | exact lkI rfl (by omega) | rfl | exact lkB rfl (by rw [decide_eq_decide]; omega)) (.cons (by first | exact lkI rfl (by omega) | rfl | exact lkB rfl (by rw [decide_eq_decide]; omega)) .nil))))
      rintro _ _ _ ⟨j, N42, rfl, rfl, rfl, hj, r42⟩
      have s42 := r42.rsl
      have hjl : (X.take j).length = j := by rw [List.length_take]; omega
      refine At.seq fun K11 hk_11 => ?_
      refine At.seq fun K12 hk_12 => ?_
      refine At.region ?_
      refine op_move (nxlf rfl) rfl rfl ?_
      refine op_move (nxlf rfl) rfl rfl ?_
      refine op_lenS (nxlf rfl) se51 rfl rfl ?_
      refine op_lss (nxlf rfl) rfl rfl rfl ?_
      refine At.opsNil ?_
      refine At.norm (hk_12 ?_)
      refine At.condP rfl (fun c46 => ?_) (fun c46 => ?_)
      · refine At.skip ?_
        refine At.norm (hk_11 ?_)
        refine At.seq fun K13 hk_13 => ?_
        refine At.block ?_
        refine At.region ?_
        refine op_move (nxlf rfl) rfl rfl ?_
        refine op_move (nxlf rfl) rfl rfl ?_
        refine op_move (nxlf rfl) rfl rfl ?_
        refine op_move (nxlf rfl) rfl rfl ?_
        refine op_idx1 (nxlf rfl) se51 rfl rfl hx (show _ = (((j : Nat)) : Int) from by omega) (by omega) rfl ?_
        refine op_loadE (nxlf rfl) sc56 rfl hx (by first | exact get8 (by omega) | exact get64 (by omega) | exact get32 (by omega)) (by first | exact mem0 | exact mem1 | exact mem2 | exact mem3 | exact mem4 | exact mem5 | exact mem6 | exact mem7 | exact mem8 | exact mem9) rfl ?_
        refine op_idx1 (nxlf rfl) se51 rfl rfl s42 (show _ = (((j : Nat)) : Int) from by omega) (by omega) rfl ?_
        refine op_storeE (nxl rfl) sz56 rfl rfl rfl rfl rfl r42 (by simp [u32s]; omega) (by simp) sel0 (fun N42 r42 => ?_)
        simp only [setL] at r42
        rw [set_u32s, set_fill hjl (by omega), take_ext (by omega)] at r42
        have s42 := r42.rsl
        refine At.opsNil ?_
        refine At.inNorm ?_
        refine At.norm (hk_13 ?_)
        refine At.region ?_
        refine op_move (nxlf rfl) rfl rfl ?_
        refine op_addI (nxlf rfl) rfl rfl (by omega) (by omega) rfl ?_
        refine op_assign (nxlf rfl) rfl rfl ?_
        refine At.opsNil ?_
        refine At.norm ?_
        refine At.back ?_ (.refl _) ⟨j + 1, N42, rfl, rfl, rfl, by omega, r42⟩ ?_
        · exact .cons (by first | exact lkI rfl (by omega) | rfl | exact lkB rfl (by rw [decide_eq_decide]; omega)) (.cons (by first | exact lkI rfl (by omega) | rfl | exact lkB rfl (by rw [decide_eq_decide]; omega)) (.cons (by first | exact lkI rfl (by omega) | rfl | exact lkB rfl (by rw [decide_eq_decide]; omega)) (.cons (by first | exact lkI rfl (by omega) | rfl | exact lkB rfl (by rw [decide_eq_decide]; omega)) (.cons (by first | exact lkI rfl (by omega) | rfl | exact lkB rfl (by rw [decide_eq_decide]; omega)) .nil))))
        · omega
      · refine At.exit (At.thenExit (At.thenExit (At.inHit ?_)))
        refine At.norm (hk_9 ?_)
        refine At.seq fun K14 hk_14 => ?_
        refine At.region ?_
        have hjX : j = X.length := by omega
        rw [hjX, List.take_of_length_le (Nat.le_refl _)] at r42
        have hC0l : (X ++ List.replicate (na + 2 - X.length) (0 : UInt32)).length = na + 2 := by rw [List.length_append, List.length_replicate]; omega
        have hC0v := v32_pad' X (na + 2 - X.length)
        rw [hxv] at hC0v
        generalize X ++ List.replicate (na + 2 - X.length) (0 : UInt32) = C0 at *
        have hts := top_small32 hC0l hC0v hA h32 hnb1 (by omega) hV1
        refine op_move (nxlf rfl) rfl rfl ?_
        refine op_lenS (nxlf rfl) se51 rfl rfl ?_
        refine op_assign (nxlf rfl) rfl rfl ?_
        refine At.opsNil ?_
        refine At.norm (hk_14 ?_)
        refine At.seq fun K15 hk_15 => ?_
        refine At.region ?_
        refine op_move (nxlf rfl) rfl rfl ?_
        refine op_lenS (nxlf rfl) se51 rfl rfl ?_
        refine op_move (nxlf rfl) rfl rfl ?_
        refine op_subI (nxlf rfl) rfl rfl (by omega) (by omega) rfl ?_
        refine op_make (nxla rfl) Tryz.underlying51 te56 rfl rfl (show _ = (((na + 2 - nb : Nat)) : Int) from by omega) (show _ = (((na + 2 - nb : Nat)) : Int) from by omega) (by omega) (by unfold maxLen; omega) rfl (fun N62 a62 r62 => ?_)
        rw [made_one _ _ rfl, zero_u32s] at r62
        have s62 := r62.rsl
        refine op_assign (nxlf rfl) rfl rfl ?_
        refine At.opsNil ?_
        refine At.norm (hk_15 ?_)
        refine At.seq fun K16 hk_16 => ?_
        refine At.seq fun K17 hk_17 => ?_
        refine At.region ?_
        refine op_move (nxlf rfl) rfl rfl ?_
        refine op_lenS (nxlf rfl) se51 rfl rfl ?_
        refine op_move (nxlf rfl) rfl rfl ?_
        refine op_subI (nxlf rfl) rfl rfl (by omega) (by omega) rfl ?_
        refine op_subI (nxlf rfl) rfl rfl (by omega) (by omega) rfl ?_
        refine op_assign (nxlf rfl) rfl rfl ?_
        refine At.opsNil ?_
        refine At.norm (hk_17 ?_)
        refine At.block ?_
        refine At.sub (L' := [N62, N42, M35, R]) (.cons_cons _ (.cons_cons _ (.cons _ (.cons_cons _ (.cons_cons _ (.slnil)))))) ?_
        refine At.loop (fun fr_ hp_ ms_ => ∃ (J : Nat) (C qh : List UInt32) (N42 N62 : Heaplet), fr_ = [(6, .int .i64 (s : Int)), (7, .slice p35 nb c35), (9, .slice a42 (na + 2) (na + 2)), (11, .int .i64 (nb : Int)), (12, .slice a62 (na + 2 - nb) (na + 2 - nb)), (13, .int .i64 ((J : Int) - 1))] ∧ hp_ = [N62, N42, M35, R] ∧ J = ms_ ∧ (J ≤ na + 2 - nb) ∧ (C.length = na + 2) ∧ (v32 C + v32 (List.replicate J 0 ++ qh) * (B * 2 ^ s) = A * 2 ^ s) ∧ (v32 (C.drop J) < B * 2 ^ s) ∧ (Row N42 56 1 a42 (na + 2) (na + 2) (u32s C)) ∧ (Row N62 56 1 a62 (na + 2 - nb) (na + 2 - nb) (u32s (List.replicate J 0 ++ qh)))) ?_ (.refl _) ⟨na + 2 - nb, C0, [], N42, N62, rfl, rfl, rfl, by omega, hC0l, by rw [List.append_nil, v32_replicate, Nat.zero_mul, Nat.add_zero]; exact hC0v, hts, r42, by rw [List.append_nil]; exact r62⟩ ?_
        · exact .cons (by first | exact lkI rfl (by omega) | rfl | exact lkB rfl (by rw [decide_eq_decide]; omega)) (.cons (by first | exact lkI rfl (by omega) | rfl | exact lkB rfl (by rw [decide_eq_decide]; omega)) (.cons (by first | exact lkI rfl (by omega) | rfl | exact lkB rfl (by rw [decide_eq_decide]; omega)) (.cons (by first | exact lkI rfl (by omega) | rfl | exact lkB rfl (by rw [decide_eq_decide]; omega)) (.cons (by first | exact lkI rfl (by omega) | rfl | exact lkB rfl (by rw [decide_eq_decide]; omega)) (.cons (by first | exact lkI rfl (by omega) | rfl | exact lkB rfl (by rw [decide_eq_decide]; omega)) .nil)))))
        rintro _ _ _ ⟨J, C, qh, N42, N62, rfl, rfl, rfl, hJ, hCl, hv, hC, r42, r62⟩
        have s42 := r42.rsl
        have s62 := r62.rsl
        refine At.seq fun K18 hk_18 => ?_
        refine At.seq fun K19 hk_19 => ?_
        refine At.region ?_
        refine op_move (nxlf rfl) rfl rfl ?_
        refine op_geq (nxlf rfl) rfl rfl rfl ?_
        refine At.opsNil ?_
        refine At.norm (hk_19 ?_)
        refine At.condP rfl (fun c69 => ?_) (fun c69 => ?_)
        · refine At.skip ?_
          refine At.norm (hk_18 ?_)
          refine At.seq fun K20 hk_20 => ?_
          refine At.block ?_
          refine At.seq fun K21 hk_21 => ?_
          refine At.drawnS [N62, N42, M35, R] [] [] [0,1,2,3,4,5,6,7,8,9,10,11,12,13,14,15,16,17] (by kernel_rfl) (by kernel_rfl) (.refl _) ?_
          refine op_move (nxsf rfl rfl rfl) rfl rfl ?_
          refine op_move (nxsf rfl rfl rfl) rfl rfl ?_
          refine op_move (nxsf rfl rfl rfl) rfl rfl ?_
          refine op_addI (nxsf rfl rfl rfl) rfl rfl (by omega) (by omega) rfl ?_
          refine op_idx1 (nxsf rfl rfl rfl) se51 rfl rfl s42 (show _ = (((J - 1 + nb : Nat)) : Int) from by omega) (by omega) rfl ?_
          refine op_loadE (nxsf rfl rfl rfl) sc56 rfl s42 (by first | exact get8 (by omega) | exact get64 (by omega) | exact get32 (by omega)) (by first | exact mem0 | exact mem1 | exact mem2 | exact mem3 | exact mem4 | exact mem5 | exact mem6 | exact mem7 | exact mem8 | exact mem9) rfl ?_
          refine op_conv64 (nxsf rfl rfl rfl) (und_some Tryz.underlying56) Tryz.underlying23 rfl (by first | rfl | exact (Int.toNat_of_nonneg (by omega)).symm) rfl ?_
          refine op_shlU (nxsf rfl rfl rfl) rfl rfl (show _ = ((32 : Nat) : Int) from rfl) rfl ?_
          refine op_move (nxsf rfl rfl rfl) rfl rfl ?_
          refine op_move (nxsf rfl rfl rfl) rfl rfl ?_
          refine op_move (nxsf rfl rfl rfl) rfl rfl ?_
          refine op_addI (nxsf rfl rfl rfl) rfl rfl (by omega) (by omega) rfl ?_
          refine op_subI (nxsf rfl rfl rfl) rfl rfl (by omega) (by omega) rfl ?_
          refine op_idx1 (nxsf rfl rfl rfl) se51 rfl rfl s42 (show _ = (((J - 1 + nb - 1 : Nat)) : Int) from by omega) (by omega) rfl ?_
          refine op_loadE (nxsf rfl rfl rfl) sc56 rfl s42 (by first | exact get8 (by omega) | exact get64 (by omega) | exact get32 (by omega)) (by first | exact mem0 | exact mem1 | exact mem2 | exact mem3 | exact mem4 | exact mem5 | exact mem6 | exact mem7 | exact mem8 | exact mem9) rfl ?_
          refine op_conv64 (nxsf rfl rfl rfl) (und_some Tryz.underlying56) Tryz.underlying23 rfl (by first | rfl | exact (Int.toNat_of_nonneg (by omega)).symm) rfl ?_
          refine op_orU (nxsf rfl rfl rfl) rfl rfl rfl ?_
          have hw := win_lt32 (G := C) (j := J - 1) (n := nb) (V := B * 2 ^ s) (by omega) (by rw [show J - 1 + 1 = J by omega]; exact hC) (Nat.le_of_lt hV2)
          have hwl : ((C.drop (J - 1)).take (nb + 1)).length = nb + 1 := by rw [List.length_take, List.length_drop]; omega
          have hsp := win_split C (J - 1) (nb + 1)
          have hpre : (C.take (J - 1)).length = J - 1 := by rw [List.length_take]; omega
          have htop : (shl64 (UInt64.ofNat (C.getD (J - 1 + nb) 0).toNat) 32 ||| UInt64.ofNat (C.getD (J - 1 + nb - 1) 0).toNat).toNat = (((C.drop (J - 1)).take (nb + 1)).getD nb 0).toNat * 4294967296 + (((C.drop (J - 1)).take (nb + 1)).getD (nb - 1) 0).toNat := by
            rw [UInt64.toNat_or, Nat.or_comm, ← UInt64.toNat_or, or_hi32, win_getD (by omega), win_getD (by omega), show J - 1 + (nb - 1) = J - 1 + nb - 1 by omega, Nat.add_comm]
          generalize shl64 (UInt64.ofNat (C.getD (J - 1 + nb) 0).toNat) 32 ||| UInt64.ofNat (C.getD (J - 1 + nb - 1) 0).toNat = tp at *
          have hQB : v32 ((C.drop (J - 1)).take (nb + 1)) / (B * 2 ^ s) < 4294967296 := by rw [Nat.div_lt_iff_lt_mul hVp, Nat.mul_comm]; exact hw.1
          have hqg := qhat_ge32 (u := (C.drop (J - 1)).take (nb + 1)) (v := digsOf (B * 2 ^ s)) (n := nb) (Q := v32 ((C.drop (J - 1)).take (nb + 1)) / (B * 2 ^ s)) hwl hdl hnb1 (by rw [hdv]; exact Nat.div_mul_le_self _ _) hdt
          refine op_assign (nxsf rfl rfl rfl) rfl rfl ?_
          refine At.sNil ?_
          refine At.norm (hk_21 ?_)
          refine At.seq fun K22 hk_22 => ?_
          refine At.region ?_
          refine op_move (nxlf rfl) rfl rfl ?_
          refine op_move (nxlf rfl) rfl rfl ?_
          refine op_move (nxlf rfl) rfl rfl ?_
          refine op_subI (nxlf rfl) rfl rfl (by omega) (by omega) rfl ?_
          refine op_idx1 (nxlf rfl) se51 rfl rfl hd (show _ = (((nb - 1 : Nat)) : Int) from by omega) (by omega) rfl ?_
          refine op_loadE (nxlf rfl) sc56 rfl hd (by first | exact get8 (by omega) | exact get64 (by omega) | exact get32 (by omega)) (by first | exact mem0 | exact mem1 | exact mem2 | exact mem3 | exact mem4 | exact mem5 | exact mem6 | exact mem7 | exact mem8 | exact mem9) rfl ?_
          refine op_conv64 (nxlf rfl) (und_some Tryz.underlying56) Tryz.underlying23 rfl (by first | rfl | exact (Int.toNat_of_nonneg (by omega)).symm) rfl ?_
          refine op_quoU (nxlf rfl) rfl rfl (by rw [of32]; omega) rfl ?_
          have hg0 : (tp / UInt64.ofNat ((digsOf (B * 2 ^ s)).getD (nb - 1) 0).toNat).toNat = tp.toNat / ((digsOf (B * 2 ^ s)).getD (nb - 1) 0).toNat := by rw [UInt64.toNat_div, of32]
          rw [← htop, ← hg0] at hqg
          generalize tp / UInt64.ofNat ((digsOf (B * 2 ^ s)).getD (nb - 1) 0).toNat = g0 at *
          refine op_assign (nxlf rfl) rfl rfl ?_
          refine At.opsNil ?_
          refine At.norm (hk_22 ?_)
          refine At.seq fun K23 hk_23 => ?_
          refine At.meet (fun fr_ hp_ => ∃ (g1 : UInt64), fr_ = [(6, .int .i64 (s : Int)), (7, .slice p35 nb c35), (9, .slice a42 (na + 2) (na + 2)), (11, .int .i64 (nb : Int)), (12, .slice a62 (na + 2 - nb) (na + 2 - nb)), (13, .int .i64 ((J : Int) - 1)), (15, .int .u64 (g1.toNat : Int))] ∧ hp_ = [N62, N42, M35, R] ∧ (g1.toNat ≤ 4294967295) ∧ (v32 ((C.drop (J - 1)).take (nb + 1)) / (B * 2 ^ s) ≤ g1.toNat)) ?_ (fun K23_ jk_23 => ?_)
          rotate_left
          · skip
            refine At.seq fun K24 hk_24 => ?_
            refine At.region ?_
            refine op_move (nxlf rfl) rfl rfl ?_
            refine op_gtr (nxlf rfl) rfl rfl rfl ?_
            refine At.opsNil ?_
            refine At.norm (hk_24 ?_)
            refine At.condP rfl (fun c98 => ?_) (fun c98 => ?_)
            · refine At.region ?_
              refine op_assign (nxlf rfl) rfl rfl ?_
              refine At.opsNil ?_
              refine At.norm (jk_23 ?_ (.refl _) ⟨4294967295, rfl, rfl, by decide, by show _ ≤ 4294967295; omega⟩)
              exact .cons (by first | exact lkI rfl (by omega) | rfl | exact lkB rfl (by rw [decide_eq_decide]; omega)) (.cons (by first | exact lkI rfl (by omega) | rfl | exact lkB rfl (by rw [decide_eq_decide]; omega)) (.cons (by first | exact lkI rfl (by omega) | rfl | exact lkB rfl (by rw [decide_eq_decide]; omega)) (.cons (by first | exact lkI rfl (by omega) | rfl | exact lkB rfl (by rw [decide_eq_decide]; omega)) (.cons (by first | exact lkI rfl (by omega) | rfl | exact lkB rfl (by rw [decide_eq_decide]; omega)) (.cons (by first | exact lkI rfl (by omega) | rfl | exact lkB rfl (by rw [decide_eq_decide]; omega)) (.cons (by first | exact lkI rfl (by omega) | rfl | exact lkB rfl (by rw [decide_eq_decide]; omega)) .nil))))))
            · refine At.skip ?_
              refine At.norm (jk_23 ?_ (.refl _) ⟨g0, rfl, rfl, by omega, hqg⟩)
              exact .cons (by first | exact lkI rfl (by omega) | rfl | exact lkB rfl (by rw [decide_eq_decide]; omega)) (.cons (by first | exact lkI rfl (by omega) | rfl | exact lkB rfl (by rw [decide_eq_decide]; omega)) (.cons (by first | exact lkI rfl (by omega) | rfl | exact lkB rfl (by rw [decide_eq_decide]; omega)) (.cons (by first | exact lkI rfl (by omega) | rfl | exact lkB rfl (by rw [decide_eq_decide]; omega)) (.cons (by first | exact lkI rfl (by omega) | rfl | exact lkB rfl (by rw [decide_eq_decide]; omega)) (.cons (by first | exact lkI rfl (by omega) | rfl | exact lkB rfl (by rw [decide_eq_decide]; omega)) (.cons (by first | exact lkI rfl (by omega) | rfl | exact lkB rfl (by rw [decide_eq_decide]; omega)) .nil))))))
          rintro _ _ ⟨g1, rfl, rfl, hg1, hg2⟩
          refine hk_23 ?_
          refine At.seq fun K25 hk_25 => ?_
          refine At.meet (fun fr_ hp_ => ∃ (x : List UInt32) (g : UInt64) (M42 : Heaplet), fr_ = [(6, .int .i64 (s : Int)), (7, .slice p35 nb c35), (9, .slice a42 (na + 2) (na + 2)), (11, .int .i64 (nb : Int)), (12, .slice a62 (na + 2 - nb) (na + 2 - nb)), (13, .int .i64 ((J : Int) - 1)), (15, .int .u64 (g.toNat : Int))] ∧ hp_ = [N62, M42, M35, R] ∧ (x.length = nb + 1) ∧ (g.toNat ≤ 4294967295) ∧ (v32 x + g.toNat * (B * 2 ^ s) = v32 ((C.drop (J - 1)).take (nb + 1))) ∧ (v32 x < B * 2 ^ s) ∧ (Row M42 56 1 a42 (na + 2) (na + 2) (u32s (C.take (J - 1) ++ x ++ C.drop (J - 1 + (nb + 1)))))) ?_ (fun K25_ jk_25 => ?_)
          rotate_left
          · skip
            refine At.seq fun K26 hk_26 => ?_
            refine At.region ?_
            refine op_move (nxlf rfl) rfl rfl ?_
            refine op_move (nxlf rfl) rfl rfl ?_
            refine op_move (nxlf rfl) rfl rfl ?_
            refine op_move (nxlf rfl) rfl rfl ?_
            rw [hsp] at r42
            rw [show (J : Int) - 1 = ((J - 1 : Nat) : Int) by omega]
            refine At.perm sel3 ?_
            refine At.perm sel3 ?_
            refine At.perm sel2 ?_
            refine At.perm sel3 ?_
            refine op_call (nxl rfl) (.cons rfl (.cons rfl (.cons rfl (.cons rfl .nil)))) (less_f r42 hd hpre hwl (by omega) (by omega) hg1) (F := [N62, M35, R]) Tryz.func48 rfl rfl (.refl _) (by simp) rfl ?_
            rintro v103 L103 ⟨M42, x1, bw, rfl, rfl, r42, hx1l, hbw, hx1⟩
            change At _ _ _ [M42, N62, M35, R] _
            skip
            rw [hdv, hwl] at hx1
            rw [hwl] at hx1l
            have hU := v32_lt ((C.drop (J - 1)).take (nb + 1))
            rw [hwl] at hU
            refine At.opsNil ?_
            refine At.norm (hk_26 ?_)
            refine At.condP rfl (fun c103 => ?_) (fun c103 => ?_)
            · refine At.seq fun K27 hk_27 => ?_
              refine At.region ?_
              refine op_assign (nxlf rfl) rfl rfl ?_
              refine At.opsNil ?_
              refine At.norm (hk_27 ?_)
              refine At.block ?_
              refine At.perm sel3 ?_
              refine At.perm sel3 ?_
              refine At.perm sel2 ?_
              refine At.perm sel3 ?_
              refine At.loop (fun fr_ hp_ ms_ => ∃ (x : List UInt32) (g : UInt64) (bo : Nat) (M42 : Heaplet), fr_ = [(6, .int .i64 (s : Int)), (7, .slice p35 nb c35), (9, .slice a42 (na + 2) (na + 2)), (11, .int .i64 (nb : Int)), (12, .slice a62 (na + 2 - nb) (na + 2 - nb)), (13, .int .i64 ((J : Int) - 1)), (15, .int .u64 (g.toNat : Int)), (16, .bool (decide (bo = 1)))] ∧ hp_ = [N62, M42, M35, R] ∧ g.toNat = ms_ ∧ (x.length = nb + 1) ∧ (g.toNat ≤ 4294967295) ∧ (bo ≤ 1) ∧ (v32 x + g.toNat * (B * 2 ^ s) = v32 ((C.drop (J - 1)).take (nb + 1)) + bo * 2 ^ (32 * (nb + 1))) ∧ (bo = 0 → v32 x < B * 2 ^ s) ∧ (Row M42 56 1 a42 (na + 2) (na + 2) (u32s (C.take (J - 1) ++ x ++ C.drop (J - 1 + (nb + 1)))))) ?_ (.refl _) ⟨x1, g1, 1, M42, rfl, rfl, rfl, hx1l, hg1, by decide, by rw [show bw = 1 by omega] at hx1; exact hx1, by intro h; omega, r42⟩ ?_
              · exact .cons (by first | exact lkI rfl (by omega) | rfl | exact lkB rfl (by rw [decide_eq_decide]; omega)) (.cons (by first | exact lkI rfl (by omega) | rfl | exact lkB rfl (by rw [decide_eq_decide]; omega)) (.cons (by first | exact lkI rfl (by omega) | rfl | exact lkB rfl (by rw [decide_eq_decide]; omega)) (.cons (by first | exact lkI rfl (by omega) | rfl | exact lkB rfl (by rw [decide_eq_decide]; omega)) (.cons (by first | exact lkI rfl (by omega) | rfl | exact lkB rfl (by rw [decide_eq_decide]; omega)) (.cons (by first | exact lkI rfl (by omega) | rfl | exact lkB rfl (by rw [decide_eq_decide]; omega)) (.cons (by first | exact lkI rfl (by omega) | rfl | exact lkB rfl (by rw [decide_eq_decide]; omega)) (.cons (by first | exact lkI rfl (by omega) | rfl | exact lkB rfl (by rw [decide_eq_decide]; omega)) .nil)))))))
              rintro _ _ _ ⟨x, g, bo, M42, rfl, rfl, rfl, hxl2, hg, hbo, hx2, hx3, r42⟩
              have s42 := r42.rsl
              have hxal : (C.take (J - 1) ++ x ++ C.drop (J - 1 + (nb + 1))).length = na + 2 := by rw [List.length_append, List.length_append, List.length_take, List.length_drop]; omega
              have hxt : (C.take (J - 1) ++ x ++ C.drop (J - 1 + (nb + 1))).getD (J - 1 + nb) 0 = x.getD nb 0 := by rw [List.append_assoc, getD_right hpre, getD_app (by omega)]
              refine At.seq fun K28 hk_28 => ?_
              refine At.seq fun K29 hk_29 => ?_
              refine At.region ?_
              refine op_move (nxlf rfl) rfl rfl ?_
              refine At.opsNil ?_
              refine At.norm (hk_29 ?_)
              refine At.condP rfl (fun c104 => ?_) (fun c104 => ?_)
              · refine At.skip ?_
                refine At.norm (hk_28 ?_)
                refine At.block ?_
                refine At.seq fun K30 hk_30 => ?_
                refine At.region ?_
                refine op_move (nxlf rfl) rfl rfl ?_
                refine op_subU (b := 1) (nxlf rfl) rfl rfl rfl ?_
                refine op_assign (nxlf rfl) rfl rfl ?_
                refine At.opsNil ?_
                refine At.norm (hk_30 ?_)
                refine At.seq fun K31 hk_31 => ?_
                refine At.region ?_
                refine op_move (nxlf rfl) rfl rfl ?_
                refine op_move (nxlf rfl) rfl rfl ?_
                refine op_move (nxlf rfl) rfl rfl ?_
                refine op_addI (nxlf rfl) rfl rfl (by omega) (by omega) rfl ?_
                refine op_idx1 (nxlf rfl) se51 rfl rfl s42 (show _ = (((J - 1 + nb : Nat)) : Int) from by omega) (by omega) rfl ?_
                refine op_loadE (nxlf rfl) sc56 rfl s42 (by first | exact get8 (by omega) | exact get64 (by omega) | exact get32 (by omega)) (by first | exact mem0 | exact mem1 | exact mem2 | exact mem3 | exact mem4 | exact mem5 | exact mem6 | exact mem7 | exact mem8 | exact mem9) rfl ?_
                rw [hxt]
                refine op_assign (nxlf rfl) rfl rfl ?_
                refine At.opsNil ?_
                refine At.norm (hk_31 ?_)
                refine At.seq fun K32 hk_32 => ?_
                refine At.region ?_
                refine op_move (nxlf rfl) rfl rfl ?_
                refine op_move (nxlf rfl) rfl rfl ?_
                refine op_move (nxlf rfl) rfl rfl ?_
                rw [show (J : Int) - 1 = ((J - 1 : Nat) : Int) by omega]
                refine At.perm sel3 ?_
                refine At.perm sel3 ?_
                refine At.perm sel2 ?_
                refine At.perm sel3 ?_
                refine op_call (nxl rfl) (.cons rfl (.cons rfl (.cons rfl .nil))) (back_f r42 hd hpre hxl2 (by omega) (by omega)) (F := [N62, M35, R]) Tryz.func49 rfl rfl (.refl _) (by simp) rfl ?_
                rintro v116 L116 ⟨M42, x2, cc, rfl, rfl, r42, hx2l, hcc, hxb, hxc⟩
                change At _ _ _ [M42, N62, M35, R] _
                skip
                have s42 := r42.rsl
                have hx2al : (C.take (J - 1) ++ x2 ++ C.drop (J - 1 + (nb + 1))).length = na + 2 := by rw [List.length_append, List.length_append, List.length_take, List.length_drop]; omega
                have hx2t : (C.take (J - 1) ++ x2 ++ C.drop (J - 1 + (nb + 1))).getD (J - 1 + nb) 0 = x2.getD nb 0 := by rw [List.append_assoc, getD_right hpre, getD_app (by omega)]
                have hb1 : bo = 1 := by omega
                rw [hb1] at hx2
                have e1 := v32_lt x
                have e2 := v32_lt x2
                rw [hxl2] at e1 hxb
                rw [show x2.length = nb + 1 by omega] at e2
                rw [hdv] at hxb
                rw [hdl] at hxc
                obtain ⟨m1, m2, m3⟩ := step_back hx2 (by omega) e1 hxb hcc e2
                have hgm := sub_one64 m1
                refine At.opsNil ?_
                refine At.norm (hk_32 ?_)
                refine At.region ?_
                refine op_move (nxlf rfl) rfl rfl ?_
                refine op_move (nxlf rfl) rfl rfl ?_
                refine op_move (nxlf rfl) rfl rfl ?_
                refine op_addI (nxlf rfl) rfl rfl (by omega) (by omega) rfl ?_
                refine op_idx1 (nxlf rfl) se51 rfl rfl s42 (show _ = (((J - 1 + nb : Nat)) : Int) from by omega) (by omega) rfl ?_
                refine op_loadE (nxlf rfl) sc56 rfl s42 (by first | exact get8 (by omega) | exact get64 (by omega) | exact get32 (by omega)) (by first | exact mem0 | exact mem1 | exact mem2 | exact mem3 | exact mem4 | exact mem5 | exact mem6 | exact mem7 | exact mem8 | exact mem9) rfl ?_
                rw [hx2t]
                refine op_move (nxlf rfl) rfl rfl ?_
                refine op_geq (nxlf rfl) rfl rfl rfl ?_
                refine op_assign (nxlf rfl) rfl rfl ?_
                refine At.opsNil ?_
                refine At.inNorm ?_
                refine At.norm ?_
                refine At.perm sel3 ?_
                refine At.perm sel3 ?_
                refine At.perm sel2 ?_
                refine At.perm sel3 ?_
                refine At.back ?_ (.refl _) ⟨x2, g - 1, 1 - cc, M42, rfl, rfl, rfl, by omega, by rw [hgm]; omega, by omega, by rw [hgm]; exact m2, m3, r42⟩ ?_
                · exact .cons (by first | exact lkI rfl (by omega) | rfl | exact lkB rfl (by rw [decide_eq_decide]; omega)) (.cons (by first | exact lkI rfl (by omega) | rfl | exact lkB rfl (by rw [decide_eq_decide]; omega)) (.cons (by first | exact lkI rfl (by omega) | rfl | exact lkB rfl (by rw [decide_eq_decide]; omega)) (.cons (by first | exact lkI rfl (by omega) | rfl | exact lkB rfl (by rw [decide_eq_decide]; omega)) (.cons (by first | exact lkI rfl (by omega) | rfl | exact lkB rfl (by rw [decide_eq_decide]; omega)) (.cons (by first | exact lkI rfl (by omega) | rfl | exact lkB rfl (by rw [decide_eq_decide]; omega)) (.cons (by first | exact lkI rfl (by omega) | rfl | exact lkB rfl (by rw [decide_eq_decide]; omega)) (.cons (by first | exact lkI rfl (by omega) | rfl | exact lkB rfl (by rw [decide_eq_decide]; omega)) .nil)))))))
                · omega
              · refine At.exit (At.thenExit (At.thenExit (At.inHit ?_)))
                refine At.norm (jk_25 ?_ (.refl _) ⟨x, g, M42, rfl, rfl, hxl2, hg, by rw [show bo = 0 by omega, Nat.zero_mul, Nat.add_zero] at hx2; exact hx2, hx3 (by omega), r42⟩)
                exact .cons (by first | exact lkI rfl (by omega) | rfl | exact lkB rfl (by rw [decide_eq_decide]; omega)) (.cons (by first | exact lkI rfl (by omega) | rfl | exact lkB rfl (by rw [decide_eq_decide]; omega)) (.cons (by first | exact lkI rfl (by omega) | rfl | exact lkB rfl (by rw [decide_eq_decide]; omega)) (.cons (by first | exact lkI rfl (by omega) | rfl | exact lkB rfl (by rw [decide_eq_decide]; omega)) (.cons (by first | exact lkI rfl (by omega) | rfl | exact lkB rfl (by rw [decide_eq_decide]; omega)) (.cons (by first | exact lkI rfl (by omega) | rfl | exact lkB rfl (by rw [decide_eq_decide]; omega)) (.cons (by first | exact lkI rfl (by omega) | rfl | exact lkB rfl (by rw [decide_eq_decide]; omega)) .nil))))))
            · refine At.skip ?_
              refine At.perm sel3 ?_
              refine At.perm sel3 ?_
              refine At.perm sel2 ?_
              refine At.perm sel3 ?_
              refine At.norm (jk_25 ?_ (.refl _) ⟨x1, g1, M42, rfl, rfl, hx1l, hg1, by rw [show bw = 0 by omega, Nat.zero_mul, Nat.add_zero] at hx1; exact hx1, step_start (Q := 0) hVp hx1 hg2 (by omega), r42⟩)
              exact .cons (by first | exact lkI rfl (by omega) | rfl | exact lkB rfl (by rw [decide_eq_decide]; omega)) (.cons (by first | exact lkI rfl (by omega) | rfl | exact lkB rfl (by rw [decide_eq_decide]; omega)) (.cons (by first | exact lkI rfl (by omega) | rfl | exact lkB rfl (by rw [decide_eq_decide]; omega)) (.cons (by first | exact lkI rfl (by omega) | rfl | exact lkB rfl (by rw [decide_eq_decide]; omega)) (.cons (by first | exact lkI rfl (by omega) | rfl | exact lkB rfl (by rw [decide_eq_decide]; omega)) (.cons (by first | exact lkI rfl (by omega) | rfl | exact lkB rfl (by rw [decide_eq_decide]; omega)) (.cons (by first | exact lkI rfl (by omega) | rfl | exact lkB rfl (by rw [decide_eq_decide]; omega)) .nil))))))
          rintro _ _ ⟨x, g, M42, rfl, rfl, hxl2, hg, hx2, hx3, r42⟩
          refine hk_25 ?_
          refine At.region ?_
          refine op_move (nxlf rfl) rfl rfl ?_
          refine op_move (nxlf rfl) rfl rfl ?_
          refine op_move (nxlf rfl) rfl rfl ?_
          refine op_conv32 (nxlf rfl) (und_some Tryz.underlying23) Tryz.underlying56 rfl (by first | rfl | exact (Int.toNat_of_nonneg (by omega)).symm) rfl ?_
          refine op_idx1 (nxlf rfl) se51 rfl rfl s62 (show _ = (((J - 1 : Nat)) : Int) from by omega) (by omega) rfl ?_
          refine op_storeE (nxl rfl) sz56 rfl rfl rfl rfl rfl r62 (by simp <;> omega) (by simp) sel0 (fun N62 r62 => ?_)
          obtain ⟨k1, k2⟩ := step_end hx2 hx3
          have hgl : (lo32 g).toNat = g.toNat := by rw [lo32_nat]; omega
          obtain ⟨d1, d2, d3⟩ := div_round32 (qs := List.replicate J 0 ++ qh) (h := qh) (u' := x) (q := lo32 g) (j := J - 1) (by omega) (by rw [show J - 1 + 1 = J by omega]) hv hw.2.2 hw.2.1 hxl2 (by rw [hgl]; exact k1) k2 hVp
          simp only [setL] at r62
          rw [set_u32s] at r62
          change Row N62 _ 1 a62 _ _ (u32s ((List.replicate J 0 ++ qh).set (J - 1) (lo32 g))) at r62
          have s62 := r62.rsl
          refine At.opsNil ?_
          refine At.inNorm ?_
          refine At.norm (hk_20 ?_)
          refine At.region ?_
          refine op_move (nxlf rfl) rfl rfl ?_
          refine op_subI (nxlf rfl) rfl rfl (by omega) (by omega) rfl ?_
          refine op_assign (nxlf rfl) rfl rfl ?_
          refine At.opsNil ?_
          refine At.norm ?_
          refine At.back ?_ (.refl _) ⟨J - 1, C.take (J - 1) ++ x ++ C.drop (J - 1 + (nb + 1)), lo32 g :: qh, M42, N62, rfl, rfl, rfl, by omega, by rw [List.length_append, List.length_append, List.length_take, List.length_drop, hxl2]; omega, by rw [← d3]; exact d1, d2, r42, by rw [← d3]; exact r62⟩ ?_
          · exact .cons (by first | exact lkI rfl (by omega) | rfl | exact lkB rfl (by rw [decide_eq_decide]; omega)) (.cons (by first | exact lkI rfl (by omega) | rfl | exact lkB rfl (by rw [decide_eq_decide]; omega)) (.cons (by first | exact lkI rfl (by omega) | rfl | exact lkB rfl (by rw [decide_eq_decide]; omega)) (.cons (by first | exact lkI rfl (by omega) | rfl | exact lkB rfl (by rw [decide_eq_decide]; omega)) (.cons (by first | exact lkI rfl (by omega) | rfl | exact lkB rfl (by rw [decide_eq_decide]; omega)) (.cons (by first | exact lkI rfl (by omega) | rfl | exact lkB rfl (by rw [decide_eq_decide]; omega)) .nil)))))
          · omega
        · refine At.exit (At.thenExit (At.thenExit (At.inHit ?_)))
          refine At.norm (hk_16 ?_)
          refine At.seq fun K33 hk_33 => ?_
          refine At.seq fun K34 hk_34 => ?_
          refine At.region ?_
          have hJ0 : J = 0 := by omega
          subst hJ0
          rw [List.replicate_zero, List.nil_append] at hv r62
          rw [List.drop_zero] at hC
          obtain ⟨f1, f2⟩ := div_fin hv hC
          have s42 := r42.rsl
          have s62 := r62.rsl
          refine op_move (nxlf rfl) rfl rfl ?_
          refine op_eql (nxlf rfl) rfl rfl rfl ?_
          refine At.opsNil ?_
          refine At.norm (hk_34 ?_)
          refine At.condP rfl (fun c131 => ?_) (fun c131 => ?_)
          · exfalso; omega
          · refine At.skip ?_
            refine At.norm (hk_33 ?_)
            refine At.seq fun K35 hk_35 => ?_
            refine At.region ?_
            refine op_move (nxlf rfl) rfl rfl ?_
            refine op_callA (nxla rfl) (.cons rfl .nil) (trim32_f s62) Tryz.func50 rfl rfl (by simp) rfl ?_
            rintro v137 L137 ⟨rfl, rfl, t137, l137⟩
            change At _ _ _ [N62, N42, M35, R] _
            refine op_move (nxlf rfl) rfl rfl ?_
            refine op_callA (nxla rfl) (.cons rfl .nil) (trim32_f s42) Tryz.func50 rfl rfl (by simp) rfl ?_
            rintro v139 L139 ⟨rfl, rfl, t139, l139⟩
            change At _ _ _ [N62, N42, M35, R] _
            refine op_move (nxlf rfl) rfl rfl ?_
            refine op_callA (nxla rfl) (.cons rfl (.cons rfl .nil)) (rShr_f (trim32d s42 t139 l139) s (by have := l139; omega) (by omega)) Tryz.func51 rfl rfl (by simp) rfl ?_
            rintro v141 L141 ⟨M141, p141, c141, rfl, rfl, s141⟩
            change At _ _ _ [M141, N62, N42, M35, R] _
            refine op_assign (nxlf rfl) rfl rfl ?_
            refine op_assign (nxlf rfl) rfl rfl ?_
            refine At.opsNil ?_
            refine At.norm (hk_35 ?_)
            refine At.ret (?_)
            refine At.sub (L' := [M141, N62, R]) (.cons_cons _ (.cons_cons _ (.cons _ (.cons _ (.cons_cons _ (.slnil)))))) ?_
            refine At.perm sel2 ?_
            refine At.perm sel1 ?_
            refine At.perm sel2 ?_
            refine At.retN (L1 := [N62, M141]) rfl (.tmp rfl (.tmp rfl .nil)) rfl (.refl _) (.refl _) ?_
            have h1 := trim32d s62 t137 l137
            rw [v32_digsOf, f2] at s141 ⊢
            rw [f1] at h1 ⊢
            exact ⟨N62, a62, _, M141, p141, c141, rfl, rfl, h1, s141⟩
    · exfalso; omega
theorem rDivMod_ge {N M : Heaplet} {ax bx : Option Addr} {na nb ca cb A B : Nat} (ha : RSl N 1 ax na ca (u32s (digsOf A))) (hb : RSl M 1 bx nb cb (u32s (digsOf B))) (hn : na ≤ 1099511627770) (hm : nb ≤ 1099511627770) (hge : B ≤ A) (hB : 0 < B) :
    Fn Tryz.prog 27 #[.slice ax na ca, .slice bx nb cb] [] [N, M] (DigsP2 (A / B) (A % B)) := by
  rcases Nat.eq_zero_or_pos (32 * (digsOf B).length - bitLen B) with h | h
  · exact rDivMod_s0 ha hb hn hm hge hB rfl h
  · exact rDivMod_s1 ha hb hn hm hge hB rfl h
end Go.Proofs.YtnpcaplgkmlmoaaGreatDoor
/- The reference's DivMod, Mod, ModExp in full. Condition: numbers of at most some 2^40 digits; the divisor is not 0. -/
namespace Go.Proofs.YtnpcaplgkmlmoaaGreatDoor
set_option linter.unusedVariables false
set_option linter.unusedSimpArgs false
open Go Go.RowKit
theorem Hp.empty {E w : World} {L : List Heaplet} (h : Hp E L w) : Hp E (nilH :: L) w :=
  ⟨h.os, h.tape, h.output, fun N hN => by
    rcases List.mem_cons.1 hN with rfl | hN
    · intro k o hk; cases hk
    · exact h.sub N hN, List.pairwise_cons.2 ⟨fun N _ k => .inl rfl, h.sep⟩⟩
theorem Fn.liftR {P : Program} {f : FuncId} {args : Array Value} {L0 Lr : List Heaplet} {R : Heaplet} {Post : Value → List Heaplet → Prop} (h : Fn P f args L0 Lr Post) (hl : ∀ N ∈ Lr, N.le R) : Fn P f args L0 [R] Post := fun E w F hp hr =>
  h E w F hp fun M hM => Heaplet.le_trans (hl M hM) (hr R (by simp))
/-- A quotient in new memory, and a rest that may be what was divided. -/
def DivR (N : Heaplet) (A B : Nat) (v : Value) (L : List Heaplet) : Prop :=
  ∃ Mq aq cq Mr ar cr, v = .tuple #[.slice aq (digsOf A).length cq, .slice ar (digsOf B).length cr] ∧ L = [Mq, Mr] ∧ RSl Mq 1 aq (digsOf A).length cq (u32s (digsOf A)) ∧ (RSl Mr 1 ar (digsOf B).length cr (u32s (digsOf B)) ∨ RSl N 1 ar (digsOf B).length cr (u32s (digsOf B)))
def ModR (N : Heaplet) (V : Nat) (v : Value) (L : List Heaplet) : Prop :=
  ∃ Q p c, v = .slice p (digsOf V).length c ∧ L = [Q] ∧ (RSl Q 1 p (digsOf V).length c (u32s (digsOf V)) ∨ RSl N 1 p (digsOf V).length c (u32s (digsOf V)))
section
variable {N M : Heaplet} {ax bx : Option Addr} {na nb ca cb A B : Nat}
theorem rDivMod_f (ha : RSl N 1 ax na ca (u32s (digsOf A))) (hb : RSl M 1 bx nb cb (u32s (digsOf B))) (hn : na ≤ 1099511627770) (hm : nb ≤ 1099511627770) (hB : 0 < B) :
    Fn Tryz.prog 27 #[.slice ax na ca, .slice bx nb cb] [] [N, M] (DivR N (A / B) (A % B)) := by
  rcases Nat.lt_or_ge A B with h | h
  · intro E w R hw hr
    refine (rDivMod_lt ha hb h E w R hw hr).mono ?_
    rintro e w' ⟨v, L1, rfl, ⟨rfl, rfl⟩, hp⟩
    have hal := ha.len32
    refine ⟨_, [nilH, nilH], rfl, ⟨nilH, none, 0, nilH, ax, ca, ?_, rfl, ?_, .inr ?_⟩, hp.empty.empty⟩
    · rw [Nat.div_eq_of_lt h, Nat.mod_eq_of_lt h, hal]; rfl
    · rw [Nat.div_eq_of_lt h]; exact RSl.nil _ _
    · rw [Nat.mod_eq_of_lt h, hal]; exact ha
  · refine (rDivMod_ge ha hb hn hm h hB).mono fun v L hP => ?_
    obtain ⟨M1, a1, c1, M2, a2, c2, rfl, rfl, h1, h2⟩ := hP
    exact ⟨M1, a1, c1, M2, a2, c2, rfl, rfl, h1, .inl h2⟩
end
theorem digs_mul {X Y n : Nat} (hx : (digsOf X).length ≤ n) (hy : (digsOf Y).length ≤ n) : (digsOf (X * Y)).length ≤ 2 * n := by
  rw [length_digsOf]
  refine digLen_le.2 ?_
  have h1 : X < 2 ^ (32 * n) := digLen_le.1 (by rw [← length_digsOf]; exact hx)
  have h2 : Y < 2 ^ (32 * n) := digLen_le.1 (by rw [← length_digsOf]; exact hy)
  rw [show 32 * (2 * n) = 32 * n + 32 * n by omega, Nat.pow_add]
  exact Nat.mul_lt_mul'' h1 h2
section
variable {N M Nm : Heaplet} {bx ex mx : Option Addr} {nb ne nm cb ce cm B E' Mv : Nat}
end
end Go.Proofs.YtnpcaplgkmlmoaaGreatDoor
/- The reference's words: sums, products, quotients, with signs and without. No condition. -/
namespace Go.Proofs.YtnpcaplgkmlmoaaGreatDoor
set_option linter.unusedVariables false
set_option linter.unusedSimpArgs false
open Go Go.RowKit
theorem rN_w {x : Nat} (hx : x < WW) : Fn Tryz.prog 26 #[wo x] [] [] (DigsP x) := by
  obtain ⟨a, b, c, d, h⟩ := four (length_wl x)
  have hv := v64_wl_lt hx
  rw [h] at hv
  have := rN_f a b c d
  rw [hv] at this
  have e : wo x = .agg #[.int .u64 (a.toNat : Int), .int .u64 (b.toNat : Int), .int .u64 (c.toNat : Int), .int .u64 (d.toNat : Int)] := by rw [wo, h]; rfl
  rw [e]
  exact this
theorem dig_w {x : Nat} (hx : x < WW) : (digsOf x).length ≤ 8 := by rw [length_digsOf]; exact digLen_le.2 hx
theorem two_pow_lt (m k : Nat) (h : m + 1 < k) : 2 * 2 ^ m < 2 ^ k := by
  rw [← Nat.pow_succ']
  exact Nat.pow_lt_pow_right (by decide) h
theorem WW_lt (k : Nat) (hk : 9 ≤ k) : 2 * WW < 2 ^ (32 * k) := two_pow_lt 256 (32 * k) (by omega)
theorem dig_2top {X : Nat} (h : X ≤ 2 * WW) : (digsOf X).length ≤ 9 := by
  obtain ⟨k, hk⟩ : ∃ k : Nat, k = 9 := ⟨_, rfl⟩
  rw [← hk, length_digsOf]
  exact digLen_le.2 (Nat.lt_of_le_of_lt h (WW_lt k (by omega)))
theorem dig_top : (digsOf WW).length ≤ 9 := dig_2top (by omega)
end Go.Proofs.YtnpcaplgkmlmoaaGreatDoor
/- The reference's words: quotients, with signs and without. No condition. -/
namespace Go.Proofs.YtnpcaplgkmlmoaaGreatDoor
set_option linter.unusedVariables false
set_option linter.unusedSimpArgs false
open Go Go.RowKit
theorem absW_0 : absW 0 = 0 := (absW_zero WW_pos).2 rfl
theorem wo_WW : wo WW = wo 0 := wo_congr (by rw [Nat.mod_self, Nat.zero_mod])
theorem sgn_0 (m : Bool) : wo (sgn m 0) = wo 0 := by
  cases m
  · rfl
  · rw [sgn, if_pos rfl, Nat.sub_zero, wo_WW]
end Go.Proofs.YtnpcaplgkmlmoaaGreatDoor
/- The reference's words: in and out, orders. No condition. -/
namespace Go.Proofs.YtnpcaplgkmlmoaaGreatDoor
set_option linter.unusedVariables false
set_option linter.unusedSimpArgs false
open Go Go.RowKit
theorem wo_four {x : Nat} (hx : x < WW) : ∃ a b c d : UInt64, wo x = .agg #[.int .u64 (a.toNat : Int), .int .u64 (b.toNat : Int), .int .u64 (c.toNat : Int), .int .u64 (d.toNat : Int)] ∧ v64 [a, b, c, d] = x := by
  obtain ⟨a, b, c, d, h⟩ := four (length_wl x)
  have hv := v64_wl_lt hx
  rw [h] at hv
  exact ⟨a, b, c, d, by rw [wo, h]; rfl, hv⟩
theorem WBytes_w {x : Nat} (hx : x < WW) : Fn Tryz.prog 40 #[wo x] [] [] (fun v L => v = .agg (u8s (bytesN 32 x)).toArray ∧ L = []) := by
  obtain ⟨a, b, c, d, e, hv⟩ := wo_four hx
  have := WBytes_f a b c d
  rw [hv, ← e] at this
  exact this
theorem WShort_w {x : Nat} (hx : x < WW) : Fn Tryz.prog 20 #[wo x] [] [] (fun v L => ∃ M p k, v = .slice p (bytesOf x).length k ∧ L = [M] ∧ Row M 5 1 p (bytesOf x).length k (u8s (bytesOf x))) := by
  obtain ⟨a, b, c, d, e, hv⟩ := wo_four hx
  have := WShort_f a b c d
  rw [hv, ← e] at this
  exact this
theorem rShort_w {x : Nat} (hx : x < WW) : Fn Tryz.prog 21 #[wo x] [] [] (fun v L => ∃ M p k, v = .slice p (bytesOf x).length k ∧ L = [M] ∧ Row M 5 1 p (bytesOf x).length k (u8s (bytesOf x))) := by
  obtain ⟨a, b, c, d, e, hv⟩ := wo_four hx
  have := rShort_f a b c d
  rw [hv, ← e] at this
  exact this
theorem cmpI_eq (x y : Nat) : cmpI x y = cmpN x y := rfl
theorem small3 {x : Nat} (hx : x < WW) : (((wl x).getD 1 0).toNat = 0 ∧ ((wl x).getD 2 0).toNat = 0 ∧ ((wl x).getD 3 0).toNat = 0) ↔ x < 2 ^ 64 := by
  rw [← small_iff hx, ← UInt64.toNat_inj, UInt64.toNat_or, UInt64.toNat_or]
  show _ ↔ _ = 0
  rw [Nat.or_eq_zero_iff, Nat.or_eq_zero_iff, and_assoc]
theorem getD_bytesN {n N k : Nat} (h : k < n) : (bytesN n N).getD k 0 = UInt8.ofNat (N / 256 ^ (n - 1 - k)) := by
  rw [List.getD_eq_getElem?_getD, List.getElem?_eq_getElem (by rw [length_bytesN]; exact h), Option.getD_some]
  simp [bytesN]
end Go.Proofs.YtnpcaplgkmlmoaaGreatDoor
/- strings.TrimPrefix, strings.TrimLeft of one byte; hexa.Quantity. No condition. -/
namespace Go.Proofs.YtnpcaplgkmlmoaaGreatDoor
set_option linter.unusedVariables false
set_option linter.unusedSimpArgs false
open Go Go.RowKit
theorem FHasP_f {l p : List UInt8} (hle : p.length ≤ l.length) (ht : l.take p.length = p) : Fn Tryz.prog 67 #[str l, str p] [] [] (fun v L => v = .bool true ∧ L = []) := by
  refine Fn.enter (vs := [str l, str p]) Tryz.func67 rfl rfl rfl ?_
  intro E R hR
  change At _ _ E [R] _
  refine At.seq fun K1 hk_1 => ?_
  refine At.region ?_
  refine op_assign (nxlf rfl) rfl rfl ?_
  refine At.opsNil ?_
  refine At.norm (hk_1 ?_)
  refine At.seq fun K2 hk_2 => ?_
  refine At.region ?_
  refine op_move (nxlf rfl) rfl rfl ?_
  refine op_lenStr (nxlf rfl) Tryz.underlying9 rfl rfl ?_
  refine op_move (nxlf rfl) rfl rfl ?_
  refine op_lenStr (nxlf rfl) Tryz.underlying9 rfl rfl ?_
  refine op_geq (nxlf rfl) rfl rfl rfl ?_
  refine op_move (nxlf rfl) rfl rfl ?_
  refine At.partP (d := 10) rfl (fun g10 => ?_) (fun g10 => ?_)
  · refine op_move (nxgf rfl rfl rfl rfl) rfl rfl ?_
    refine op_move (nxgf rfl rfl rfl rfl) rfl rfl ?_
    refine op_lenStr (nxgf rfl rfl rfl rfl) Tryz.underlying9 rfl rfl ?_
    refine op_sliceStr (nxgf rfl rfl rfl rfl) Tryz.underlying9 rfl .none (.some rfl (show _ = (((p.length : Nat)) : Int) from by omega)) .none (by omega) (by omega) (by omega) (by simp) rfl ?_
    rw [List.drop_zero, Nat.sub_zero, ht]
    refine op_move (nxgf rfl rfl rfl rfl) rfl rfl ?_
    refine op_eqS (nxgf rfl rfl rfl rfl) rfl rfl rfl ?_
    refine op_pickT (nxlf rfl) rfl rfl rfl ?_
    refine op_assign (nxlf rfl) rfl rfl ?_
    refine At.opsNil ?_
    refine At.norm (hk_2 ?_)
    refine At.ret (?_)
    refine At.ret1 (L1 := []) rfl (.tmp rfl .nil) (.refl _) (.refl _) ?_
    exact ⟨by rw [decide_eq_true rfl], rfl⟩
  · exfalso; omega
theorem FTrimP_f {l p : List UInt8} (hle : p.length ≤ l.length) (ht : l.take p.length = p) : Fn Tryz.prog 19 #[str l, str p] [] [] (fun v L => v = str (l.drop p.length) ∧ L = []) := by
  have h : Fn Tryz.prog 39 #[str l, str p] [] [] (fun v L => v = str (l.drop p.length) ∧ L = []) := by
    refine Fn.enter (vs := [str l, str p]) Tryz.func39 rfl rfl rfl ?_
    intro E R hR
    change At _ _ E [R] _
    refine At.seq fun K1 hk_1 => ?_
    refine At.region ?_
    refine op_assign (nxlf rfl) rfl rfl ?_
    refine At.opsNil ?_
    refine At.norm (hk_1 ?_)
    refine At.seq fun K2 hk_2 => ?_
    refine At.seq fun K3 hk_3 => ?_
    refine At.region ?_
    refine op_move (nxlf rfl) rfl rfl ?_
    refine op_move (nxlf rfl) rfl rfl ?_
    refine op_callA (nxla rfl) (.cons rfl (.cons rfl .nil)) (FHasP_f hle ht) Tryz.func67 rfl rfl (by simp) rfl ?_
    rintro v7 L7 ⟨rfl, rfl⟩
    change At _ _ _ [R] _
    refine At.opsNil ?_
    refine At.norm (hk_3 ?_)
    refine At.condT rfl ?_
    refine At.seq fun K4 hk_4 => ?_
    refine At.region ?_
    refine op_move (nxlf rfl) rfl rfl ?_
    refine op_move (nxlf rfl) rfl rfl ?_
    refine op_lenStr (nxlf rfl) Tryz.underlying9 rfl rfl ?_
    refine op_sliceStr (nxlf rfl) Tryz.underlying9 rfl (.some rfl (show _ = (((p.length : Nat)) : Int) from by omega)) .none .none (by omega) (by omega) (by omega) (by simp) rfl ?_
    rw [show (l.drop p.length).take (l.length - p.length) = l.drop p.length from List.take_of_length_le (by rw [List.length_drop]; exact Nat.le_refl _)]
    refine op_assign (nxlf rfl) rfl rfl ?_
    refine At.opsNil ?_
    refine At.norm (hk_4 ?_)
    refine At.ret (At.thenRet (?_))
    refine At.ret1 (L1 := []) rfl (.tmp rfl .nil) (.refl _) (.refl _) ?_
    exact ⟨rfl, rfl⟩
  refine Fn.enter (vs := [str l, str p]) Tryz.func19 rfl rfl rfl ?_
  intro E R hR
  change At _ _ E [R] _
  refine At.seq fun K1 hk_1 => ?_
  refine At.region ?_
  refine op_assign (nxlf rfl) rfl rfl ?_
  refine At.opsNil ?_
  refine At.norm (hk_1 ?_)
  refine At.seq fun K2 hk_2 => ?_
  refine At.region ?_
  refine op_move (nxlf rfl) rfl rfl ?_
  refine op_move (nxlf rfl) rfl rfl ?_
  refine op_callA (nxla rfl) (.cons rfl (.cons rfl .nil)) (h) Tryz.func39 rfl rfl (by simp) rfl ?_
  rintro v7 L7 ⟨rfl, rfl⟩
  change At _ _ _ [R] _
  refine op_assign (nxlf rfl) rfl rfl ?_
  refine At.opsNil ?_
  refine At.norm (hk_2 ?_)
  refine At.ret (?_)
  refine At.ret1 (L1 := []) rfl (.tmp rfl .nil) (.refl _) (.refl _) ?_
  exact ⟨rfl, rfl⟩
/-- A text without this byte ahead. -/
def dropB (c : UInt8) (l : List UInt8) : List UInt8 := l.dropWhile (· == c)
theorem dropB_y {c : UInt8} {t : List UInt8} (h : 0 < t.length) (he : (t.getD 0 0).toNat = c.toNat) : dropB c (t.drop 1) = dropB c t := by
  cases t with
  | nil => cases h
  | cons x t =>
    have : x = c := UInt8.toNat_inj.1 he
    subst this
    simp [dropB]
theorem dropB_n {c : UInt8} {t : List UInt8} (he : ¬ (t.getD 0 0).toNat = c.toNat) : dropB c t = t := by
  cases t with
  | nil => rfl
  | cons x t =>
    have : x ≠ c := fun e => he (by rw [← e]; rfl)
    simp [dropB, this]
theorem dropB_len (c : UInt8) (l : List UInt8) : (dropB c l).length ≤ l.length := (List.dropWhile_sublist _).length_le
theorem FTrimB_f (l : List UInt8) (c : UInt8) : Fn Tryz.prog 35 #[str l, .int .u8 (c.toNat : Int)] [] [] (fun v L => v = str (dropB c l) ∧ L = []) := by
  obtain ⟨z, hz⟩ : ∃ z, dropB c l = z := ⟨_, rfl⟩
  rw [hz]
  refine Fn.enter (vs := [str l, .int .u8 (c.toNat : Int)]) Tryz.func35 rfl rfl rfl ?_
  intro E R hR
  change At _ _ E [R] _
  refine At.seq fun K1 hk_1 => ?_
  refine At.region ?_
  refine op_assign (nxlf rfl) rfl rfl ?_
  refine At.opsNil ?_
  refine At.norm (hk_1 ?_)
  refine At.seq fun K2 hk_2 => ?_
  refine At.block ?_
  refine At.loop (fun fr_ hp_ ms_ => ∃ (t : List UInt8), fr_ = [(0, str t), (1, .int .u8 (c.toNat : Int))] ∧ hp_ = [R] ∧ t.length = ms_ ∧ (dropB c t = z)) ?_ (.refl _) ⟨l, rfl, rfl, rfl, hz⟩ ?_
  · exact .cons (by first | exact lkI rfl (by omega) | rfl) (.cons (by first | exact lkI rfl (by omega) | rfl) .nil)
  rintro _ _ _ ⟨t, rfl, rfl, rfl, hd⟩
  refine At.seq fun K3 hk_3 => ?_
  refine At.seq fun K4 hk_4 => ?_
  refine At.region ?_
  refine op_move (nxlf rfl) rfl rfl ?_
  refine op_lenStr (nxlf rfl) Tryz.underlying9 rfl rfl ?_
  refine op_gtr (nxlf rfl) rfl rfl rfl ?_
  refine op_move (nxlf rfl) rfl rfl ?_
  refine At.partP (d := 8) rfl (fun g8 => ?_) (fun g8 => ?_)
  · refine op_move (nxgf rfl rfl rfl rfl) rfl rfl ?_
    refine op_idxS (nxgf rfl rfl rfl rfl) Tryz.underlying9 rfl rfl (show _ = (((0 : Nat)) : Int) from by omega) (by omega) rfl ?_
    refine op_move (nxgf rfl rfl rfl rfl) rfl rfl ?_
    refine op_eql (nxgf rfl rfl rfl rfl) rfl rfl rfl ?_
    refine op_pickT (nxlf rfl) rfl rfl rfl ?_
    refine At.opsNil ?_
    refine At.norm (hk_4 ?_)
    refine At.condP rfl (fun c13 => ?_) (fun c13 => ?_)
    · refine At.knowT (d := 13) rfl c13 ?_
      refine At.skip ?_
      refine At.norm (hk_3 ?_)
      refine At.block ?_
      refine At.region ?_
      refine op_move (nxlf rfl) rfl rfl ?_
      refine op_sliceStr (nxlf rfl) Tryz.underlying9 rfl (.some rfl (show _ = (((1 : Nat)) : Int) from by omega)) .none .none (by omega) (by omega) (by omega) (by simp) rfl ?_
      rw [show (t.drop 1).take (t.length - 1) = t.drop 1 from List.take_of_length_le (by rw [List.length_drop]; exact Nat.le_refl _)]
      refine op_assign (nxlf rfl) rfl rfl ?_
      refine At.opsNil ?_
      refine At.inNorm ?_
      refine At.norm ?_
      refine At.back ?_ (.refl _) ⟨t.drop 1, rfl, rfl, rfl, by rw [dropB_y (by omega) (by omega)]; exact hd⟩ ?_
      · exact .cons (by first | exact lkI rfl (by omega) | rfl) (.cons (by first | exact lkI rfl (by omega) | rfl) .nil)
      · (rw [List.length_drop]; omega)
    · refine At.knowF (d := 13) rfl c13 ?_
      refine At.exit (At.thenExit (At.thenExit (At.inHit ?_)))
      refine At.norm (hk_2 ?_)
      refine At.seq fun K5 hk_5 => ?_
      refine At.region ?_
      refine op_move (nxlf rfl) rfl rfl ?_
      refine op_assign (nxlf rfl) rfl rfl ?_
      refine At.opsNil ?_
      refine At.norm (hk_5 ?_)
      refine At.ret (?_)
      refine At.ret1 (L1 := []) rfl (.tmp rfl .nil) (.refl _) (.refl _) ?_
      rw [dropB_n (by omega)] at hd
      exact ⟨by rw [hd], rfl⟩
  · refine op_skip rfl rfl rfl rfl rfl rfl rfl ?_
    refine op_skip rfl rfl rfl rfl rfl rfl rfl ?_
    refine op_skip rfl rfl rfl rfl rfl rfl rfl ?_
    refine op_skip rfl rfl rfl rfl rfl rfl rfl ?_
    refine op_pickF (nxlf rfl) rfl rfl rfl ?_
    refine At.opsNil ?_
    refine At.norm (hk_4 ?_)
    refine At.condF rfl ?_
    refine At.exit (At.thenExit (At.thenExit (At.inHit ?_)))
    refine At.norm (hk_2 ?_)
    refine At.seq fun K6 hk_6 => ?_
    refine At.region ?_
    refine op_move (nxlf rfl) rfl rfl ?_
    refine op_assign (nxlf rfl) rfl rfl ?_
    refine At.opsNil ?_
    refine At.norm (hk_6 ?_)
    refine At.ret (?_)
    refine At.ret1 (L1 := []) rfl (.tmp rfl .nil) (.refl _) (.refl _) ?_
    have e : t = [] := List.eq_nil_of_length_eq_zero (by omega)
    subst e
    exact ⟨by rw [← hd]; rfl, rfl⟩
theorem FTrimL_f (l : List UInt8) : Fn Tryz.prog 18 #[str l, str [48]] [] [] (fun v L => v = str (dropB 48 l) ∧ L = []) := by
  refine Fn.enter (vs := [str l, str [48]]) Tryz.func18 rfl rfl rfl ?_
  intro E R hR
  change At _ _ E [R] _
  refine At.seq fun K1 hk_1 => ?_
  refine At.region ?_
  refine op_assign (nxlf rfl) rfl rfl ?_
  refine At.opsNil ?_
  refine At.norm (hk_1 ?_)
  refine At.seq fun K2 hk_2 => ?_
  refine At.seq fun K3 hk_3 => ?_
  refine At.region ?_
  refine op_move (nxlf rfl) rfl rfl ?_
  refine op_eqS (b := []) (nxlf rfl) rfl rfl rfl ?_
  refine op_move (nxlf rfl) rfl rfl ?_
  refine At.partP (d := 9) rfl (fun g9 => ?_) (fun g9 => ?_)
  · refine op_skip rfl rfl rfl rfl rfl rfl rfl ?_
    refine op_skip rfl rfl rfl rfl rfl rfl rfl ?_
    refine op_pickT (nxlf rfl) rfl rfl rfl ?_
    refine At.opsNil ?_
    refine At.norm (hk_3 ?_)
    refine At.condT rfl ?_
    refine At.seq fun K4 hk_4 => ?_
    refine At.region ?_
    refine op_move (nxlf rfl) rfl rfl ?_
    refine op_assign (nxlf rfl) rfl rfl ?_
    refine At.opsNil ?_
    refine At.norm (hk_4 ?_)
    refine At.ret (At.thenRet (?_))
    refine At.ret1 (L1 := []) rfl (.tmp rfl .nil) (.refl _) (.refl _) ?_
    have e : l = [] := g9
    subst e
    exact ⟨rfl, rfl⟩
  · refine op_move (nxgf rfl rfl rfl rfl) rfl rfl ?_
    refine op_eqS (b := []) (nxgf rfl rfl rfl rfl) rfl rfl rfl ?_
    refine op_pickF (nxlf rfl) rfl rfl rfl ?_
    refine At.opsNil ?_
    refine At.norm (hk_3 ?_)
    refine At.condP rfl (fun c12 => ?_) (fun c12 => ?_)
    · exact absurd c12 (by decide)
    · refine At.knowF (d := 12) rfl c12 ?_
      refine At.skip ?_
      refine At.norm (hk_2 ?_)
      refine At.seq fun K5 hk_5 => ?_
      refine At.seq fun K6 hk_6 => ?_
      refine At.region ?_
      refine op_move (nxlf rfl) rfl rfl ?_
      refine op_lenStr (nxlf rfl) Tryz.underlying9 rfl rfl ?_
      refine op_eql (nxlf rfl) rfl rfl rfl ?_
      refine op_move (nxlf rfl) rfl rfl ?_
      refine At.partP (d := 17) rfl (fun g17 => ?_) (fun g17 => ?_)
      · refine op_move (nxgf rfl rfl rfl rfl) rfl rfl ?_
        refine op_idxS (nxgf rfl rfl rfl rfl) Tryz.underlying9 rfl rfl (show _ = (((0 : Nat)) : Int) from by omega) (by omega) rfl ?_
        refine op_lss (nxgf rfl rfl rfl rfl) rfl rfl rfl ?_
        refine op_pickT (nxlf rfl) rfl rfl rfl ?_
        refine At.opsNil ?_
        refine At.norm (hk_6 ?_)
        refine At.condP rfl (fun c21 => ?_) (fun c21 => ?_)
        · refine At.knowT (d := 21) rfl c21 ?_
          refine At.seq fun K7 hk_7 => ?_
          refine At.region ?_
          refine op_move (nxlf rfl) rfl rfl ?_
          refine op_move (nxlf rfl) rfl rfl ?_
          refine op_idxS (nxlf rfl) Tryz.underlying9 rfl rfl (show _ = (((0 : Nat)) : Int) from by omega) (by omega) rfl ?_
          refine op_callA (nxla rfl) (.cons rfl (.cons rfl .nil)) (FTrimB_f l 48) Tryz.func35 rfl rfl (by simp) rfl ?_
          rintro v25 L25 ⟨rfl, rfl⟩
          change At _ _ _ [R] _
          refine op_assign (nxlf rfl) rfl rfl ?_
          refine At.opsNil ?_
          refine At.norm (hk_7 ?_)
          refine At.ret (At.thenRet (?_))
          refine At.ret1 (L1 := []) rfl (.tmp rfl .nil) (.refl _) (.refl _) ?_
          exact ⟨rfl, rfl⟩
        · exact absurd (by decide) c21
      · exact absurd rfl g17
/-- A number's text. -/
def quantT (x : Nat) : List UInt8 := 48 :: 120 :: (if dropB 48 (hexL (bytesOf x)) = [] then [48] else dropB 48 (hexL (bytesOf x)))
theorem FQuant_f {x : Nat} (hx : x < WW) : Fn Tryz.prog 7 #[wo x] [] [] (fun v L => v = str (quantT x) ∧ L = []) := by
  have hb : (bytesOf x).length ≤ 32 := by
    rw [length_bytesOf]
    have := bitLen_le.2 hx
    omega
  obtain ⟨t, ht⟩ : ∃ t, hexL (bytesOf x) = t := ⟨_, rfl⟩
  have htl := hexL_len (bytesOf x)
  rw [ht] at htl
  refine Fn.enter (vs := [wo x]) Tryz.func7 rfl rfl rfl ?_
  intro E R hR
  change At _ _ E [R] _
  refine At.seq fun K1 hk_1 => ?_
  refine At.region ?_
  refine op_box (nxla rfl) rfl rfl rfl (fun N1 b1 B1 => ?_)
  change Blk N1 b1 _ (u64s (wl x)) at B1
  refine op_assign (nxlf rfl) rfl rfl ?_
  refine At.opsNil ?_
  refine At.norm (hk_1 ?_)
  refine At.seq fun K2 hk_2 => ?_
  refine At.region ?_
  refine op_loadAggB (ds := u64s (wl x)) (nxlf rfl) ag25 rfl B1 (by first | (rw [List.drop_zero, List.take_of_length_le (by first | (simp; done) | (simp; omega))]; done) | rfl) (by first | (simp; done) | (simp; omega)) mem0 rfl ?_
  refine op_callA (nxla rfl) (.cons rfl .nil) (WShort_w hx) Tryz.func20 rfl rfl (by simp) rfl ?_
  rintro v5 L5 ⟨N5, a5, c5, rfl, rfl, r5⟩
  change At _ _ _ [N5, N1, R] _
  refine op_callA (nxla rfl) (.cons rfl .nil) (FText_f r5.rsl (by omega)) Tryz.func5 rfl rfl (by simp) rfl ?_
  rintro v6 L6 ⟨rfl, rfl⟩
  change At _ _ _ [N5, N1, R] _
  refine op_callA (nxla rfl) (.cons rfl (.cons rfl .nil)) (FTrimP_f (l := hexT (bytesOf x)) (p := [48, 120]) (by rw [hexT_len]; show 2 ≤ _; omega) rfl) Tryz.func19 rfl rfl (by simp) rfl ?_
  rintro v7 L7 ⟨rfl, rfl⟩
  change At _ _ _ [N5, N1, R] _
  rw [show (hexT (bytesOf x)).drop ([48, 120] : List UInt8).length = t from by rw [← ht]; rfl]
  refine op_callA (nxla rfl) (.cons rfl (.cons rfl .nil)) (FTrimL_f t) Tryz.func18 rfl rfl (by simp) rfl ?_
  rintro v8 L8 ⟨rfl, rfl⟩
  change At _ _ _ [N5, N1, R] _
  refine op_assign (nxlf rfl) rfl rfl ?_
  refine At.opsNil ?_
  refine At.norm (hk_2 ?_)
  refine At.seq fun K3 hk_3 => ?_
  refine At.seq fun K4 hk_4 => ?_
  refine At.region ?_
  refine op_move (nxlf rfl) rfl rfl ?_
  refine op_eqS (b := []) (nxlf rfl) rfl rfl rfl ?_
  refine At.opsNil ?_
  refine At.norm (hk_4 ?_)
  refine At.condP rfl (fun c10 => ?_) (fun c10 => ?_)
  · refine At.region ?_
    refine op_assign (nxlf rfl) rfl rfl ?_
    refine At.opsNil ?_
    refine At.norm (hk_3 ?_)
    refine At.seq fun K5 hk_5 => ?_
    refine At.region ?_
    refine op_move (nxlf rfl) rfl rfl ?_
    refine op_addS (a := [48, 120]) (nxlf rfl) rfl rfl (by (have := dropB_len 48 t; first | (simp; done) | (simp; omega))) rfl ?_
    refine op_assign (nxlf rfl) rfl rfl ?_
    refine At.opsNil ?_
    refine At.norm (hk_5 ?_)
    refine At.ret (?_)
    refine At.sub (L' := [R]) (.cons _ (.cons _ (.cons_cons _ (.slnil)))) ?_
    refine At.ret1 (L1 := []) rfl (.tmp rfl .nil) (.refl _) (.refl _) ?_
    exact ⟨by rw [quantT, ht, if_pos c10]; rfl, rfl⟩
  · refine At.skip ?_
    refine At.norm (hk_3 ?_)
    refine At.seq fun K6 hk_6 => ?_
    refine At.region ?_
    refine op_move (nxlf rfl) rfl rfl ?_
    refine op_addS (a := [48, 120]) (nxlf rfl) rfl rfl (by (have := dropB_len 48 t; first | (simp; done) | (simp; omega))) rfl ?_
    refine op_assign (nxlf rfl) rfl rfl ?_
    refine At.opsNil ?_
    refine At.norm (hk_6 ?_)
    refine At.ret (?_)
    refine At.sub (L' := [R]) (.cons _ (.cons _ (.cons_cons _ (.slnil)))) ?_
    refine At.ret1 (L1 := []) rfl (.tmp rfl .nil) (.refl _) (.refl _) ?_
    exact ⟨by rw [quantT, ht, if_neg c10]; rfl, rfl⟩
end Go.Proofs.YtnpcaplgkmlmoaaGreatDoor
