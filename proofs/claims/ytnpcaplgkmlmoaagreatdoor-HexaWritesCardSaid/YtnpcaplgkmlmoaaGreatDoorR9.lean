/- Several texts in one: see the remarks ahead of each part. No condition but those told there. -/
import Derived.Test.YtnpcaplgkmlmoaaGreatDoorR8
import Derived.Test.YtnpcaplgkmlmoaaGreatDoorR7
import Derived.Test.YtnpcaplgkmlmoaaGreatDoorR3
import Derived.Test.YtnpcaplgkmlmoaaGreatDoorR5
import Derived.Test.YtnpcaplgkmlmoaaGreatDoorR4
/- limb.DivMod: a number in limbs divided by one that is not 0. Condition: numbers of at most 2^40 limbs. -/
namespace Go.Proofs.YtnpcaplgkmlmoaaGreatDoor
set_option linter.unusedVariables false
set_option linter.unusedSimpArgs false
open Go Go.RowKit
theorem Row.blk {N : Heaplet} {e : TypeId} {ao : Option Addr} {n : Nat} {xs : List Value} (h : Row N e 1 ao n n xs) (h0 : 0 < n) : ∃ b, ao = some ⟨b, 0, none⟩ ∧ Blk N b e xs := by
  obtain ⟨h1, h2, h3, h4⟩ := h
  rcases h4 with ⟨_, h5, _⟩ | ⟨b, cur, rfl, hN, hs, ht⟩
  · omega
  · refine ⟨b, rfl, ?_⟩
    have hl : cur.toList.length = n := by simpa using hs
    rw [List.take_of_length_le (by omega)] at ht
    rw [Blk, hN, ← ht]
theorem sadr_in (b o j cap : Nat) (h : cap ≠ j) : sadr (some ⟨b, o, none⟩) j cap 1 = some ⟨b, o + j, none⟩ := by
  rw [sadr, if_neg h, Option.map_some, addr_add, Nat.mul_one]
/-- Two numbers in limbs, in new memory. -/
def LimbsP2 (A B : Nat) (v : Value) (L : List Heaplet) : Prop :=
  ∃ M1 a1 c1 M2 a2 c2, v = .tuple #[.slice a1 (limbsOf A).length c1, .slice a2 (limbsOf B).length c2] ∧ L = [M1, M2] ∧ RSl M1 1 a1 (limbsOf A).length c1 (u64s (limbsOf A)) ∧ RSl M2 1 a2 (limbsOf B).length c2 (u64s (limbsOf B))
theorem limbs_top {V : Nat} (h : 0 < V) : 1 ≤ (limbsOf V).length ∧ 0 < ((limbsOf V).getD ((limbsOf V).length - 1) 0).toNat := by
  have hl := length_limbsOf V
  have hb := bitLen_pos h
  have h1 : 1 ≤ (limbsOf V).length := by omega
  refine ⟨h1, ?_⟩
  rcases Nat.eq_zero_or_pos ((limbsOf V).getD ((limbsOf V).length - 1) 0).toNat with h0 | h0
  · exfalso
    have e := v64_top1 (v := limbsOf V) rfl h1
    rw [h0, Nat.mul_zero, Nat.add_zero, v64_limbsOf] at e
    have hlt := v64_take_lt (limbsOf V) ((limbsOf V).length - 1)
    rw [← e] at hlt
    have := limbLen_le.2 hlt
    omega
  · exact h0
theorem div_fin {A B s G Q : Nat} (h : G + Q * (B * 2 ^ s) = A * 2 ^ s) (hG : G < B * 2 ^ s) : Q = A / B ∧ G / 2 ^ s = A % B := by
  have hp : 0 < 2 ^ s := Nat.pow_pos (by decide)
  obtain ⟨h1, h2⟩ := step_end h hG
  rw [Nat.mul_div_mul_right _ _ hp] at h1
  rw [Nat.mul_mod_mul_right] at h2
  exact ⟨h1, by rw [h2, Nat.mul_div_cancel _ hp]⟩
/-- What the loop begins with. -/
theorem top_small {A n m s V : Nat} (hA : A < 2 ^ (64 * m)) (hs : s < 64) (hV : 2 ^ (64 * (n - 1)) * 9223372036854775808 ≤ V) (hn : 1 ≤ n) (hnm : n ≤ m) : v64 ((limbsN (m + 1) (A * 2 ^ s)).drop (m - n + 1)) < V ∧ v64 (limbsN (m + 1) (A * 2 ^ s)) = A * 2 ^ s := by
  have h2s : 2 ^ s ≤ 9223372036854775808 := by rw [show (9223372036854775808 : Nat) = 2 ^ 63 from rfl]; exact Nat.pow_le_pow_right (by decide) (by omega)
  have hp : 0 < 2 ^ s := Nat.pow_pos (by decide)
  have hlt : A * 2 ^ s < 2 ^ (64 * m) * 2 ^ s := Nat.mul_lt_mul_of_pos_right hA hp
  have e : v64 (limbsN (m + 1) (A * 2 ^ s)) = A * 2 ^ s := by
    rw [v64_limbsN, Nat.mod_eq_of_lt]
    refine Nat.lt_of_lt_of_le hlt ?_
    rw [← Nat.pow_add]
    exact Nat.pow_le_pow_right (by decide) (by omega)
  refine ⟨?_, e⟩
  have hl : (limbsN (m + 1) (A * 2 ^ s)).length = m + 1 := by simp [limbsN]
  have h := v64_take_drop (limbsN (m + 1) (A * 2 ^ s)) (k := m - n + 1) (by omega)
  rw [e] at h
  have h3 : 2 ^ (64 * m) * 2 ^ s ≤ 2 ^ (64 * (m - n + 1)) * V := by
    have e2 : (2 : Nat) ^ (64 * m) = 2 ^ (64 * (m - n + 1)) * 2 ^ (64 * (n - 1)) := by rw [← Nat.pow_add]; congr 1; omega
    rw [e2, Nat.mul_assoc]
    refine Nat.mul_le_mul_left _ (Nat.le_trans ?_ hV)
    exact Nat.mul_le_mul_left _ h2s
  have h4 : 2 ^ (64 * (m - n + 1)) * v64 ((limbsN (m + 1) (A * 2 ^ s)).drop (m - n + 1)) < 2 ^ (64 * (m - n + 1)) * V := by omega
  exact Nat.lt_of_mul_lt_mul_left h4
theorem win_split {α : Type} (G : List α) (j n : Nat) : G = G.take j ++ (G.drop j).take n ++ G.drop (j + n) := by
  rw [← List.drop_drop, List.append_assoc, List.take_append_drop, List.take_append_drop]
set_option maxRecDepth 100000 in
theorem DivMod_f {N M : Heaplet} {ao bo : Option Addr} {n m ca cb : Nat} {a b : List UInt64} (ha : RSl N 1 ao n ca (u64s a)) (hb : RSl M 1 bo m cb (u64s b)) (hn : n ≤ 1099511627774) (hm : m ≤ 1099511627774) (hpos : 0 < v64 b) :
    Fn Tryz.prog 79 #[.slice ao n ca, .slice bo m cb] [] [N, M] (LimbsP2 (v64 a / v64 b) (v64 a % v64 b)) := by
  have hca := ha.cap63
  have hcb := hb.cap63
  obtain ⟨ht1, ht2⟩ := limbs_top hpos
  refine Fn.enter (vs := [.slice ao n ca, .slice bo m cb]) Tryz.func79 rfl rfl rfl ?_
  intro E R hR
  have ha := ha.le (hR N (by simp))
  have hb := hb.le (hR M (by simp))
  change At _ _ E [R] _
  refine At.seq fun K1 hk_1 => ?_
  refine At.region ?_
  refine op_assign (nxlf rfl) rfl rfl ?_
  refine op_assign (nxlf rfl) rfl rfl ?_
  refine At.opsNil ?_
  refine At.norm (hk_1 ?_)
  refine At.seq fun K2 hk_2 => ?_
  refine At.region ?_
  refine op_move (nxlf rfl) rfl rfl ?_
  refine op_callA (nxla rfl) (.cons rfl .nil) (Trim_f ha) Tryz.func91 rfl rfl (by simp) rfl ?_
  rintro v14 L14 ⟨rfl, rfl, t14, l14⟩
  change At _ _ _ [R] _
  have hx := ha.trimmed t14 l14
  refine op_move (nxlf rfl) rfl rfl ?_
  refine op_callA (nxla rfl) (.cons rfl .nil) (Trim_f hb) Tryz.func91 rfl rfl (by simp) rfl ?_
  rintro v16 L16 ⟨rfl, rfl, t16, l16⟩
  change At _ _ _ [R] _
  have hy := hb.trimmed t16 l16
  have hxv := v64_limbsOf (v64 a)
  have hyv := v64_limbsOf (v64 b)
  have h12 : (limbsOf (v64 a)).length < (limbsOf (v64 b)).length → v64 a < v64 b := limbs_len_lt
  have hA : v64 a < 2 ^ (64 * (limbsOf (v64 a)).length) := by
    have := v64_lt (limbsOf (v64 a)); rwa [v64_limbsOf] at this
  generalize hxe : limbsOf (v64 a) = x at *
  generalize hye : limbsOf (v64 b) = y at *
  refine op_assign (nxlf rfl) rfl rfl ?_
  refine op_assign (nxlf rfl) rfl rfl ?_
  refine At.opsNil ?_
  refine At.norm (hk_2 ?_)
  refine At.seq fun K3 hk_3 => ?_
  refine At.region ?_
  refine op_move (nxlf rfl) rfl rfl ?_
  refine op_lenS (nxlf rfl) se111 rfl rfl ?_
  refine op_move (nxlf rfl) rfl rfl ?_
  refine op_lenS (nxlf rfl) se111 rfl rfl ?_
  refine op_assign (nxlf rfl) rfl rfl ?_
  refine op_assign (nxlf rfl) rfl rfl ?_
  refine At.opsNil ?_
  refine At.norm (hk_3 ?_)
  refine At.seq fun K4 hk_4 => ?_
  refine At.seq fun K5 hk_5 => ?_
  refine At.region ?_
  refine op_move (nxlf rfl) rfl rfl ?_
  refine op_move (nxlf rfl) rfl rfl ?_
  refine op_lss (nxlf rfl) rfl rfl rfl ?_
  refine At.opsNil ?_
  refine At.norm (hk_5 ?_)
  refine At.condP rfl (fun c23 => ?_) (fun c23 => ?_)
  · refine At.seq fun K6 hk_6 => ?_
    refine At.region ?_
    refine op_move (nxlf rfl) rfl rfl ?_
    refine op_append0 (nxla rfl) Tryz.underlying111 Tryz.underlying111 te23 rfl rfl hx (by first | exact mem0 | exact mem1 | exact mem2 | exact mem3 | exact mem4 | exact mem5 | exact mem6 | exact mem7 | exact mem8 | exact mem9) (by first | exact one_u8s _ | exact one_u64s _ | exact one_u32s _ | (intro u hu; simp at hu; subst hu; rfl)) (by omega) (by omega) rfl (fun N25 a25 p25 r25 => ?_)
    have s25 := r25.rsl
    refine op_callA (nxla rfl) (.cons rfl .nil) (Trim_f s25) Tryz.func91 rfl rfl (by simp) rfl ?_
    rintro v26 L26 ⟨rfl, rfl, t26, l26⟩
    change At _ _ _ [N25, R] _
    refine op_assign (nxlf rfl) rfl rfl ?_
    refine op_assign (nxlf rfl) rfl rfl ?_
    refine At.opsNil ?_
    refine At.norm (hk_6 ?_)
    refine At.ret (At.thenRet (?_))
    have h := s25.trimmed t26 l26
    have hlt := h12 (by omega)
    refine At.empty ?_
    refine At.retN (L1 := [nilH, N25]) rfl (.tmp rfl (.tmp rfl .nil)) rfl (.refl _) (.refl _) ?_
    rw [hxv] at h ⊢
    rw [LimbsP2, Nat.div_eq_of_lt hlt, Nat.mod_eq_of_lt hlt]
    exact ⟨nilH, none, 0, N25, a25, _, rfl, rfl, RSl.nil _ _, h⟩
  · refine At.skip ?_
    refine At.norm (hk_4 ?_)
    refine At.seq fun K7 hk_7 => ?_
    refine At.region ?_
    refine op_move (nxlf rfl) rfl rfl ?_
    refine op_move (nxlf rfl) rfl rfl ?_
    refine op_subI (nxlf rfl) rfl rfl (by omega) (by omega) rfl ?_
    refine op_idx1 (nxlf rfl) se111 rfl rfl hy (show _ = (((y.length - 1 : Nat)) : Int) from by omega) (by omega) rfl ?_
    refine op_loadE (nxlf rfl) sc23 rfl hy (by first | exact get8 (by omega) | exact get64 (by omega) | exact get32 (by omega)) (by first | exact mem0 | exact mem1 | exact mem2 | exact mem3 | exact mem4 | exact mem5 | exact mem6 | exact mem7 | exact mem8 | exact mem9) rfl ?_
    refine op_callA (nxla rfl) (.cons rfl .nil) (LeadingZeros64_f (y.getD (y.length - 1) 0)) Tryz.func92 rfl rfl (by simp) rfl ?_
    rintro v32 L32 ⟨rfl, rfl⟩
    change At _ _ _ [R] _
    have hbl := bitLen64 (y.getD (y.length - 1) 0)
    have hbp := bitLen_pos ht2
    have e64 : (64 : Int) - (bitLen (y.getD (y.length - 1) 0).toNat : Nat) = ((64 - bitLen (y.getD (y.length - 1) 0).toNat : Nat) : Int) := by omega
    have hnorm := norm_ge rfl ht1 ht2
    have hs : 64 - bitLen (y.getD (y.length - 1) 0).toNat < 64 := by omega
    rw [e64]
    generalize 64 - bitLen (y.getD (y.length - 1) 0).toNat = s at *
    refine op_assign (nxlf rfl) rfl rfl ?_
    refine At.opsNil ?_
    refine At.norm (hk_7 ?_)
    refine At.seq fun K8 hk_8 => ?_
    refine At.region ?_
    refine op_move (nxlf rfl) rfl rfl ?_
    refine op_move (nxlf rfl) rfl rfl ?_
    refine op_move (nxlf rfl) rfl rfl ?_
    refine op_callA (nxla rfl) (.cons rfl (.cons rfl (.cons rfl .nil))) (shifted_f hy s y.length hs (Nat.le_refl _) (by omega)) Tryz.func93 rfl rfl (by simp) rfl ?_
    rintro v36 L36 ⟨M36, p36, rfl, rfl, r36⟩
    change At _ _ _ [M36, R] _
    rw [hyv] at hnorm r36
    have s36 := r36.rsl
    refine op_move (nxlf rfl) rfl rfl ?_
    refine op_move (nxlf rfl) rfl rfl ?_
    refine op_move (nxlf rfl) rfl rfl ?_
    refine op_addI (nxlf rfl) rfl rfl (by omega) (by omega) rfl ?_
    refine op_callA (nxla rfl) (.cons rfl (.cons rfl (.cons rfl .nil))) (shifted_f hx s (x.length + 1) hs (by omega) (by omega)) Tryz.func93 rfl rfl (by simp) rfl ?_
    rintro v41 L41 ⟨M41, p41, rfl, rfl, r41⟩
    change At _ _ _ [M41, M36, R] _
    obtain ⟨bb, rfl, B41⟩ := r41.blk (by omega)
    rw [hxv] at B41
    have hvl : (limbsN y.length (v64 b * 2 ^ s)).length = y.length := by simp [limbsN]
    have hvv : v64 (limbsN y.length (v64 b * 2 ^ s)) = v64 b * 2 ^ s := by
      rw [v64_limbsN, Nat.mod_eq_of_lt hnorm.2]
    generalize limbsN y.length (v64 b * 2 ^ s) = vv at *
    have hV0 : 0 < v64 vv := by rw [hvv]; exact Nat.mul_pos hpos (Nat.pow_pos (by decide))
    refine op_assign (nxlf rfl) rfl rfl ?_
    refine op_assign (nxlf rfl) rfl rfl ?_
    refine At.opsNil ?_
    refine At.norm (hk_8 ?_)
    refine At.seq fun K9 hk_9 => ?_
    refine At.region ?_
    refine op_move (nxlf rfl) rfl rfl ?_
    refine op_move (nxlf rfl) rfl rfl ?_
    refine op_subI (nxlf rfl) rfl rfl (by omega) (by omega) rfl ?_
    refine op_addI (nxlf rfl) rfl rfl (by omega) (by omega) rfl ?_
    refine op_make (nxla rfl) Tryz.underlying111 te23 rfl rfl (show _ = (((x.length - y.length + 1 : Nat)) : Int) from by omega) (show _ = (((x.length - y.length + 1 : Nat)) : Int) from by omega) (by omega) (by unfold maxLen; omega) rfl (fun N46 a46 r46 => ?_)
    rw [made_one _ _ rfl, zero_u64s] at r46
    have s46 := r46.rsl
    refine op_assign (nxlf rfl) rfl rfl ?_
    refine At.opsNil ?_
    refine At.norm (hk_9 ?_)
    refine At.seq fun K10 hk_10 => ?_
    refine At.seq fun K11 hk_11 => ?_
    refine At.region ?_
    refine op_move (nxlf rfl) rfl rfl ?_
    refine op_move (nxlf rfl) rfl rfl ?_
    refine op_subI (nxlf rfl) rfl rfl (by omega) (by omega) rfl ?_
    refine op_assign (nxlf rfl) rfl rfl ?_
    refine At.opsNil ?_
    refine At.norm (hk_11 ?_)
    refine At.block ?_
    refine At.loop (fun fr_ hp_ ms_ => ∃ (J : Nat) (G qh : List UInt64) (M41 N46 : Heaplet), fr_ = [(4, .slice a46 (x.length - y.length + 1) (x.length - y.length + 1)), (6, .int .i64 (y.length : Int)), (8, .int .i64 (s : Int)), (9, .slice p36 y.length y.length), (10, .slice (some ⟨bb, 0, none⟩) (x.length + 1) (x.length + 1)), (11, .int .i64 ((J : Int) - 1))] ∧ hp_ = [N46, M41, M36, R] ∧ J = ms_ ∧ (J ≤ x.length - y.length + 1) ∧ (G.length = x.length + 1) ∧ (v64 G + v64 (List.replicate J 0 ++ qh) * (v64 b * 2 ^ s) = v64 a * 2 ^ s) ∧ (v64 (G.drop J) < v64 b * 2 ^ s) ∧ (Blk M41 bb 23 (u64s G)) ∧ (Row N46 23 1 a46 (x.length - y.length + 1) (x.length - y.length + 1) (u64s (List.replicate J 0 ++ qh)))) ?_ (.refl _) ⟨x.length - y.length + 1, limbsN (x.length + 1) (v64 a * 2 ^ s), [], M41, N46, rfl, rfl, rfl, by omega, by simp [limbsN], by rw [List.append_nil, v64_replicate, Nat.zero_mul, Nat.add_zero]; exact (top_small hA hs hnorm.1 ht1 (by omega)).2, (top_small hA hs hnorm.1 ht1 (by omega)).1, B41, by rw [List.append_nil]; exact r46⟩ ?_
    · exact .cons (by first | exact lkI rfl (by omega) | rfl) (.cons (by first | exact lkI rfl (by omega) | rfl) (.cons (by first | exact lkI rfl (by omega) | rfl) (.cons (by first | exact lkI rfl (by omega) | rfl) (.cons (by first | exact lkI rfl (by omega) | rfl) (.cons (by first | exact lkI rfl (by omega) | rfl) .nil)))))
    rintro _ _ _ ⟨J, G, qh, M41, N46, rfl, rfl, rfl, hJ, hGl, hv, hG, B41, r46⟩
    have s46 := r46.rsl
    have s36 := s36
    refine At.seq fun K12 hk_12 => ?_
    refine At.seq fun K13 hk_13 => ?_
    refine At.region ?_
    refine op_move (nxlf rfl) rfl rfl ?_
    refine op_geq (nxlf rfl) rfl rfl rfl ?_
    refine At.opsNil ?_
    refine At.norm (hk_13 ?_)
    refine At.condP rfl (fun c51 => ?_) (fun c51 => ?_)
    · refine At.skip ?_
      refine At.norm (hk_12 ?_)
      refine At.seq fun K14 hk_14 => ?_
      refine At.block ?_
      refine At.region ?_
      refine op_move (nxlf rfl) rfl rfl ?_
      refine op_move (nxlf rfl) rfl rfl ?_
      refine op_move (nxlf rfl) rfl rfl ?_
      refine op_move (nxlf rfl) rfl rfl ?_
      refine op_move (nxlf rfl) rfl rfl ?_
      refine op_move (nxlf rfl) rfl rfl ?_
      refine op_addI (nxlf rfl) rfl rfl (by omega) (by omega) rfl ?_
      refine op_addI (nxlf rfl) rfl rfl (by omega) (by omega) rfl ?_
      have hw := win_lt (G := G) (j := J - 1) (n := y.length) (V := v64 b * 2 ^ s) (by omega) (by rw [show J - 1 + 1 = J by omega]; exact hG) (Nat.le_of_lt hnorm.2)
      have hwl : ((G.drop (J - 1)).take (y.length + 1)).length = y.length + 1 := by rw [List.length_take, List.length_drop]; omega
      have hsp := win_split G (J - 1) (y.length + 1)
      rw [hsp] at B41
      have hpre : (G.take (J - 1)).length = 0 + (J - 1) := by rw [List.length_take]; omega
      refine op_slice (nxlf rfl) se111 rfl (.some rfl (show _ = (((J - 1 : Nat)) : Int) from by omega)) (.some rfl (show _ = (((J - 1 + y.length + 1 : Nat)) : Int) from by omega)) .none (by omega) (by omega) (by omega) (by simp) rfl ?_
      rw [sadr_in _ _ _ _ (by omega), show J - 1 + y.length + 1 - (J - 1) = y.length + 1 by omega]
      refine op_move (nxlf rfl) rfl rfl ?_
      refine At.perm sel3 ?_
      refine At.perm sel3 ?_
      refine At.perm sel2 ?_
      refine At.perm sel3 ?_
      refine op_call (nxl rfl) (.cons rfl (.cons rfl .nil)) (step_f B41 s36 hpre hwl (by omega) (by omega) ht1 (by omega) hV0 (by rw [hvv]; exact hw.1)) (F := [N46, M36, R]) Tryz.func94 rfl rfl (.refl _) (by simp) rfl ?_
      rintro v64 L64 ⟨M41, u', q, rfl, rfl, B41, hul', hq, hr⟩
      change At _ _ _ [M41, N46, M36, R] _
      skip
      rw [hwl] at hul'
      rw [hvv] at hq hr
      obtain ⟨d1, d2, d3⟩ := div_round (qs := List.replicate J 0 ++ qh) (h := qh) (j := J - 1) (by omega) (by rw [show J - 1 + 1 = J by omega]) hv hw.2.2 hw.2.1 hul' hq hr (by rw [← hvv]; exact hV0)
      refine op_idx1 (nxlf rfl) se111 rfl rfl s46 (show _ = (((J - 1 : Nat)) : Int) from by omega) (by omega) rfl ?_
      refine op_storeE (nxl rfl) sz23 rfl rfl rfl rfl rfl r46 (by simp <;> omega) (by simp) sel1 (fun N46 r46 => ?_)
      simp only [setL] at r46
      rw [set_u64s] at r46
      have s46 := r46.rsl
      refine At.opsNil ?_
      refine At.inNorm ?_
      refine At.norm (hk_14 ?_)
      refine At.region ?_
      refine op_move (nxlf rfl) rfl rfl ?_
      refine op_subI (nxlf rfl) rfl rfl (by omega) (by omega) rfl ?_
      refine op_assign (nxlf rfl) rfl rfl ?_
      refine At.opsNil ?_
      refine At.norm ?_
      refine At.back ?_ (.refl _) ⟨J - 1, G.take (J - 1) ++ u' ++ G.drop (J - 1 + (y.length + 1)), q :: qh, M41, N46, rfl, rfl, rfl, by omega, by rw [List.length_append, List.length_append, List.length_take, List.length_drop, hul']; omega, by rw [← d3]; exact d1, d2, B41, by rw [← d3]; exact r46⟩ ?_
      · exact .cons (by first | exact lkI rfl (by omega) | rfl) (.cons (by first | exact lkI rfl (by omega) | rfl) (.cons (by first | exact lkI rfl (by omega) | rfl) (.cons (by first | exact lkI rfl (by omega) | rfl) (.cons (by first | exact lkI rfl (by omega) | rfl) (.cons (by first | exact lkI rfl (by omega) | rfl) .nil)))))
      · omega
    · refine At.exit (At.thenExit (At.thenExit (At.inHit ?_)))
      refine At.norm (hk_10 ?_)
      refine At.seq fun K15 hk_15 => ?_
      refine At.region ?_
      have hJ0 : J = 0 := by omega
      subst hJ0
      rw [List.replicate_zero, List.nil_append] at hv r46
      rw [List.drop_zero] at hG
      obtain ⟨f1, f2⟩ := div_fin hv hG
      have s41 := Blk.win (pre := []) (post := []) (x := G) (o := 0) (cu := x.length + 1) (show Blk M41 bb 23 (u64s ([] ++ G ++ [])) by simpa using B41) rfl (by omega) (by omega)
      rw [hGl] at s41
      refine op_move (nxlf rfl) rfl rfl ?_
      refine op_make (nxla rfl) Tryz.underlying111 te23 rfl rfl (show _ = (((y.length : Nat)) : Int) from by omega) (show _ = (((y.length : Nat)) : Int) from by omega) (by omega) (by unfold maxLen; omega) rfl (fun N67 a67 r67 => ?_)
      rw [made_one _ _ rfl, zero_u64s] at r67
      have s67 := r67.rsl
      refine op_assign (nxlf rfl) rfl rfl ?_
      refine At.opsNil ?_
      refine At.norm (hk_15 ?_)
      refine At.seq fun K16 hk_16 => ?_
      refine At.seq fun K17 hk_17 => ?_
      refine At.region ?_
      refine op_move (nxlf rfl) rfl rfl ?_
      refine op_move (nxlf rfl) rfl rfl ?_
      refine At.opsNil ?_
      refine At.norm (hk_17 ?_)
      refine At.block ?_
      refine At.sub (L' := [N67, N46, M41, R]) (.cons_cons _ (.cons_cons _ (.cons_cons _ (.cons _ (.cons_cons _ (.slnil)))))) ?_
      refine At.loop (fun fr_ hp_ ms_ => ∃ (k : Nat) (N67 : Heaplet), fr_ = [(4, .slice a46 (x.length - y.length + 1) (x.length - y.length + 1)), (5, .slice a67 y.length y.length), (8, .int .i64 (s : Int)), (10, .slice (some ⟨bb, 0, none⟩) (x.length + 1) (x.length + 1)), (68, .int .i64 (y.length : Int)), (69, .int .i64 (k : Int))] ∧ hp_ = [N67, N46, M41, R] ∧ y.length - k = ms_ ∧ (k ≤ y.length) ∧ (Row N67 23 1 a67 y.length y.length (u64s (limbsN k (v64 G / 2 ^ s) ++ List.replicate (y.length - k) 0)))) ?_ (.refl _) ⟨0, N67, rfl, rfl, rfl, by omega, by simpa [limbsN] using r67⟩ ?_
      · exact .cons (by first | exact lkI rfl (by omega) | rfl) (.cons (by first | exact lkI rfl (by omega) | rfl) (.cons (by first | exact lkI rfl (by omega) | rfl) (.cons (by first | exact lkI rfl (by omega) | rfl) (.cons (by first | exact lkI rfl (by omega) | rfl) (.cons (by first | exact lkI rfl (by omega) | rfl) .nil)))))
      rintro _ _ _ ⟨k, N67, rfl, rfl, rfl, hk, r67⟩
      have s67 := r67.rsl
      have hlk : (limbsN k (v64 G / 2 ^ s)).length = k := by simp [limbsN]
      refine At.seq fun K18 hk_18 => ?_
      refine At.region ?_
      refine op_lss (nxlf rfl) rfl rfl rfl ?_
      refine At.opsNil ?_
      refine At.norm (hk_18 ?_)
      refine At.seq fun K19 hk_19 => ?_
      refine At.condP rfl (fun c70 => ?_) (fun c70 => ?_)
      · refine At.skip ?_
        refine At.norm (hk_19 ?_)
        refine At.seq fun K20 hk_20 => ?_
        refine At.block ?_
        refine At.seq fun K21 hk_21 => ?_
        refine At.region ?_
        refine op_move (nxlf rfl) rfl rfl ?_
        refine op_assign (nxlf rfl) rfl rfl ?_
        refine At.opsNil ?_
        refine At.norm (hk_21 ?_)
        refine At.seq fun K22 hk_22 => ?_
        refine At.region ?_
        refine op_move (nxlf rfl) rfl rfl ?_
        refine op_move (nxlf rfl) rfl rfl ?_
        refine op_move (nxlf rfl) rfl rfl ?_
        refine op_move (nxlf rfl) rfl rfl ?_
        refine op_idx1 (nxlf rfl) se111 rfl rfl s41 (show _ = (((k : Nat)) : Int) from by omega) (by omega) rfl ?_
        refine op_loadE (nxlf rfl) sc23 rfl s41 (by first | exact get8 (by omega) | exact get64 (by omega) | exact get32 (by omega)) (by first | exact mem0 | exact mem1 | exact mem2 | exact mem3 | exact mem4 | exact mem5 | exact mem6 | exact mem7 | exact mem8 | exact mem9) rfl ?_
        refine op_move (nxlf rfl) rfl rfl ?_
        refine op_shrU (nxlf rfl) rfl rfl (by first | rfl | exact (Int.toNat_of_nonneg (by omega)).symm) rfl ?_
        refine op_idx1 (nxlf rfl) se111 rfl rfl s67 (show _ = (((k : Nat)) : Int) from by omega) (by omega) rfl ?_
        refine op_storeE (nxl rfl) sz23 rfl rfl rfl rfl rfl r67 (by simp <;> omega) (by simp) sel0 (fun N67 r67 => ?_)
        simp only [setL] at r67
        rw [set_u64s, set_fill hlk (by omega)] at r67
        have s67 := r67.rsl
        refine At.opsNil ?_
        refine At.norm (hk_22 ?_)
        refine At.seq fun K23 hk_23 => ?_
        refine At.region ?_
        refine op_move (nxlf rfl) rfl rfl ?_
        refine op_gtr (nxlf rfl) rfl rfl rfl ?_
        refine At.opsNil ?_
        refine At.norm (hk_23 ?_)
        refine At.condP rfl (fun c82 => ?_) (fun c82 => ?_)
        · have hl2 : (limbsN k (v64 G / 2 ^ s) ++ [shr64 (G.getD k 0) s] ++ List.replicate (y.length - (k + 1)) 0).length = y.length := by simp; omega
          refine At.perm sel3 ?_
          refine At.perm sel3 ?_
          refine At.perm sel2 ?_
          refine At.perm sel3 ?_
          refine At.drawnS [N67, M41, R] [14] [] [0,1,2,3,4,5,6,7,8,9,10,11,12,13,14] (by kernel_rfl) (by kernel_rfl) (.cons _ (.refl _)) ?_
          refine op_move (nxsf rfl rfl rfl) rfl rfl ?_
          refine op_move (nxsf rfl rfl rfl) rfl rfl ?_
          refine op_idx1 (nxsf rfl rfl rfl) se111 rfl rfl s67 (show _ = (((k : Nat)) : Int) from by omega) (by omega) rfl ?_
          refine op_loadE (nxsf rfl rfl rfl) sc23 rfl s67 (by first | exact get8 (by omega) | exact get64 (by omega) | exact get32 (by omega)) (by first | exact mem0 | exact mem1 | exact mem2 | exact mem3 | exact mem4 | exact mem5 | exact mem6 | exact mem7 | exact mem8 | exact mem9) rfl ?_
          have e86 : (limbsN k (v64 G / 2 ^ s) ++ [shr64 (G.getD k 0) s] ++ List.replicate (y.length - (k + 1)) (0 : UInt64)).getD k 0 = shr64 (G.getD k 0) s := by
            rw [List.append_assoc]; exact getD_mid hlk
          rw [e86]
          refine op_move (nxsf rfl rfl rfl) rfl rfl ?_
          refine op_move (nxsf rfl rfl rfl) rfl rfl ?_
          refine op_addI (nxsf rfl rfl rfl) rfl rfl (by omega) (by omega) rfl ?_
          refine op_idx1 (nxsf rfl rfl rfl) se111 rfl rfl s41 (show _ = (((k + 1 : Nat)) : Int) from by omega) (by omega) rfl ?_
          refine op_loadE (nxsf rfl rfl rfl) sc23 rfl s41 (by first | exact get8 (by omega) | exact get64 (by omega) | exact get32 (by omega)) (by first | exact mem0 | exact mem1 | exact mem2 | exact mem3 | exact mem4 | exact mem5 | exact mem6 | exact mem7 | exact mem8 | exact mem9) rfl ?_
          refine op_move (nxsf rfl rfl rfl) rfl rfl ?_
          refine op_subI (nxsf rfl rfl rfl) rfl rfl (by omega) (by omega) rfl ?_
          refine op_shlU (nxsf rfl rfl rfl) rfl rfl (show _ = (((64 - s : Nat)) : Int) from by omega) rfl ?_
          refine op_orU (nxsf rfl rfl rfl) rfl rfl rfl ?_
          refine op_idx1 (nxsf rfl rfl rfl) se111 rfl rfl s67 (show _ = (((k : Nat)) : Int) from by omega) (by omega) rfl ?_
          refine op_storeE (nxsl rfl rfl rfl rfl) sz23 rfl rfl rfl rfl rfl r67 (by simp <;> omega) (by simp) sel1 (fun N67 r67 => ?_)
          simp only [setL] at r67
          rw [set_u64s, List.append_assoc, List.singleton_append, set_mid hlk, ← rest_at (by omega), ← limbsN_succ] at r67
          have s67 := r67.rsl
          refine At.sNil ?_
          refine At.inNorm ?_
          refine At.norm (hk_20 ?_)
          refine At.region ?_
          refine op_addI (nxlf rfl) rfl rfl (by omega) (by omega) rfl ?_
          refine op_move (nxlf rfl) rfl rfl ?_
          refine At.opsNil ?_
          refine At.norm ?_
          refine At.back ?_ (.refl _) ⟨k + 1, N67, rfl, rfl, rfl, by omega, r67⟩ ?_
          · exact .cons (by first | exact lkI rfl (by omega) | rfl) (.cons (by first | exact lkI rfl (by omega) | rfl) (.cons (by first | exact lkI rfl (by omega) | rfl) (.cons (by first | exact lkI rfl (by omega) | rfl) (.cons (by first | exact lkI rfl (by omega) | rfl) (.cons (by first | exact lkI rfl (by omega) | rfl) .nil)))))
          · omega
        · have hs0 : s = 0 := by omega
          have e : shr64 (G.getD k 0) s = UInt64.ofNat (v64 G / 2 ^ s / 2 ^ (64 * k)) := by rw [hs0]; exact rest_at0.symm
          rw [e, ← limbsN_succ] at r67
          refine At.skip ?_
          refine At.inNorm ?_
          refine At.norm (hk_20 ?_)
          refine At.region ?_
          refine op_addI (nxlf rfl) rfl rfl (by omega) (by omega) rfl ?_
          refine op_move (nxlf rfl) rfl rfl ?_
          refine At.opsNil ?_
          refine At.norm ?_
          refine At.back ?_ (.refl _) ⟨k + 1, N67, rfl, rfl, rfl, by omega, r67⟩ ?_
          · exact .cons (by first | exact lkI rfl (by omega) | rfl) (.cons (by first | exact lkI rfl (by omega) | rfl) (.cons (by first | exact lkI rfl (by omega) | rfl) (.cons (by first | exact lkI rfl (by omega) | rfl) (.cons (by first | exact lkI rfl (by omega) | rfl) (.cons (by first | exact lkI rfl (by omega) | rfl) .nil)))))
          · omega
      · refine At.exit (At.thenExit (At.thenExit (At.inHit ?_)))
        refine At.norm (hk_16 ?_)
        refine At.seq fun K24 hk_24 => ?_
        refine At.region ?_
        have hkk : k = y.length := by omega
        subst hkk
        rw [Nat.sub_self, List.replicate_zero, List.append_nil] at s67
        have s46 := r46.rsl
        refine op_move (nxlf rfl) rfl rfl ?_
        refine op_callA (nxla rfl) (.cons rfl .nil) (Trim_f s46) Tryz.func91 rfl rfl (by simp) rfl ?_
        rintro v99 L99 ⟨rfl, rfl, t99, l99⟩
        change At _ _ _ [N67, N46, M41, R] _
        refine op_move (nxlf rfl) rfl rfl ?_
        refine op_callA (nxla rfl) (.cons rfl .nil) (Trim_f s67) Tryz.func91 rfl rfl (by simp) rfl ?_
        rintro v101 L101 ⟨rfl, rfl, t101, l101⟩
        change At _ _ _ [N67, N46, M41, R] _
        refine op_assign (nxlf rfl) rfl rfl ?_
        refine op_assign (nxlf rfl) rfl rfl ?_
        refine At.opsNil ?_
        refine At.norm (hk_24 ?_)
        refine At.ret (?_)
        refine At.sub (L' := [N67, N46, R]) (.cons_cons _ (.cons_cons _ (.cons _ (.cons_cons _ (.slnil))))) ?_
        refine At.perm sel2 ?_
        refine At.perm sel1 ?_
        refine At.perm sel2 ?_
        refine At.retN (L1 := [N46, N67]) rfl (.tmp rfl (.tmp rfl .nil)) rfl (.refl _) (.refl _) ?_
        have h1 := s46.trimmed t99 l99
        have h2 := s67.trimmed t101 l101
        have e2 : v64 (limbsN y.length (v64 G / 2 ^ s)) = v64 a % v64 b := by
          rw [f2, v64_limbsN]
          refine Nat.mod_eq_of_lt (Nat.lt_trans (Nat.mod_lt _ hpos) ?_)
          rw [← hyv]; exact v64_lt y
        rw [f1] at h1 ⊢
        rw [e2] at h2 ⊢
        exact ⟨N46, a46, _, N67, a67, _, rfl, rfl, h1, h2⟩
end Go.Proofs.YtnpcaplgkmlmoaaGreatDoor
/- Plain laws: numbers in digits of 32 bits and their bytes. No condition. -/
namespace Go.Proofs.YtnpcaplgkmlmoaaGreatDoor
set_option linter.unusedVariables false
set_option linter.unusedSimpArgs false
theorem bytesOf_zero : bytesOf 0 = [] := rfl
theorem bytesOf_step {x : Nat} (h : x ≠ 0) : bytesOf x = bytesOf (x / 256) ++ [UInt8.ofNat x] := by
  have hb : (bitLen x + 7) / 8 = (bitLen (x / 256) + 7) / 8 + 1 := by
    have h1 : bitLen (x / 256) = bitLen x - 8 := bitLen_div x 8
    have h2 := bitLen_pos (Nat.pos_of_ne_zero h)
    omega
  rw [bytesOf, hb, bytesN_succ]; rfl
theorem trim_len32 {l : List UInt32} {k : Nat} (hk : k ≤ l.length) (hz : ∀ i, k ≤ i → l.getD i 0 = 0) (hl : k = 0 ∨ (0 < k ∧ l.getD (k - 1) 0 ≠ 0)) : l.take k = digsOf (v32 l) ∧ (digsOf (v32 l)).length = k := by
  have h1 : l.take k = digsOf (v32 l) := trim_eq32 hk (fun i h hki => by
    have := hz i hki
    rwa [List.getD_eq_getElem?_getD, List.getElem?_eq_getElem h] at this) (by
    rcases hl with h | ⟨h0, h⟩
    · exact .inl h
    · refine .inr ⟨by omega, ?_⟩
      rwa [List.getD_eq_getElem?_getD, List.getElem?_eq_getElem (by omega)] at h)
  exact ⟨h1, by rw [← h1, List.length_take]; omega⟩
theorem v32_two (x : UInt64) : v32 [UInt32.ofNat x.toNat, UInt32.ofNat (shr64 x 32).toNat] = x.toNat := by
  have hx := x.toNat_lt
  simp only [v32, n32, val, List.map_cons, List.map_nil, shr64, UInt32.toNat_ofNat', UInt64.toNat_ofNat']
  omega
theorem byte32_at {l : List UInt32} {i : Nat} (h : i / 4 < l.length) : UInt8.ofNat (shr32 (l.getD (i / 4) 0) (8 * (i % 4))).toNat = UInt8.ofNat (v32 l / 256 ^ i) := by
  rw [shr32, UInt32.toNat_ofNat', Nat.mod_eq_of_lt (Nat.lt_of_le_of_lt (Nat.div_le_self _ _) (UInt32.toNat_lt _)), List.getD_eq_getElem?_getD, List.getElem?_eq_getElem h, Option.getD_some, ← dig_v32 h]
  apply UInt8.toNat_inj.1
  rw [UInt8.toNat_ofNat', UInt8.toNat_ofNat']
  obtain ⟨q, r, hqr, hr⟩ : ∃ q r, i = 4 * q + r ∧ r < 4 := ⟨i / 4, i % 4, by omega, Nat.mod_lt _ (by decide)⟩
  have e1 : i / 4 = q := by omega
  have e2 : i % 4 = r := by omega
  rw [e1, e2, hqr, show (256 : Nat) ^ (4 * q + r) = 2 ^ (32 * q) * 2 ^ (8 * r) from by rw [← Nat.pow_add, show (256 : Nat) = 2 ^ 8 from rfl, ← Nat.pow_mul]; congr 1; omega, ← Nat.div_div_eq_div_mul]
  generalize v32 l / 2 ^ (32 * q) = X
  rw [show (2 : Nat) ^ 32 = 2 ^ (8 * r) * 2 ^ (32 - 8 * r) from by rw [← Nat.pow_add]; congr 1; omega, Nat.mod_mul_right_div_self]
  exact Nat.mod_mod_of_dvd _ (Nat.pow_dvd_pow 2 (by omega : 8 ≤ 32 - 8 * r))
theorem bytesOf_down {N i : Nat} (h : N / 256 ^ i ≠ 0) : bytesOf (N / 256 ^ i) = bytesOf (N / 256 ^ (i + 1)) ++ [UInt8.ofNat (N / 256 ^ i)] := by
  rw [bytesOf_step h, Nat.div_div_eq_div_mul, Nat.pow_succ]
theorem bytesOf_len0 {n : Nat} (h : (bytesOf n).length = 0) : n = 0 := by
  rw [length_bytesOf] at h
  have := byteLen_le (N := n) (k := 0)
  have h2 := this.1 (by omega)
  simpa using h2
theorem down_ne {N i : Nat} (h : 0 < (bytesOf (N / 256 ^ (i + 1))).length ∨ (UInt8.ofNat (N / 256 ^ i)).toNat ≠ 0) : N / 256 ^ i ≠ 0 := by
  intro e
  rcases h with h | h
  · have : N / 256 ^ (i + 1) = 0 := by rw [Nat.pow_succ, ← Nat.div_div_eq_div_mul, e, Nat.zero_div]
    rw [this, bytesOf_zero] at h; simp at h
  · rw [e] at h; exact h rfl
theorem down_eq {N i : Nat} (h1 : ¬ 0 < (bytesOf (N / 256 ^ (i + 1))).length) (h2 : ¬ (UInt8.ofNat (N / 256 ^ i)).toNat ≠ 0) : bytesOf (N / 256 ^ i) = bytesOf (N / 256 ^ (i + 1)) := by
  have e1 := bytesOf_len0 (Nat.eq_zero_of_not_pos h1)
  have e2 : N / 256 ^ i % 256 = 0 := by
    have : (UInt8.ofNat (N / 256 ^ i)).toNat = 0 := by omega
    rwa [UInt8.toNat_ofNat'] at this
  have e3 : N / 256 ^ i = 0 := by
    have h3 : N / 256 ^ i / 256 = 0 := by rw [Nat.div_div_eq_div_mul, ← Nat.pow_succ]; exact e1
    omega
  rw [e1, e3]
end Go.Proofs.YtnpcaplgkmlmoaaGreatDoor
/- quarryref02's trim, Of, Bytes: numbers in digits of 32 bits. No condition. -/
namespace Go.Proofs.YtnpcaplgkmlmoaaGreatDoor
set_option linter.unusedVariables false
set_option linter.unusedSimpArgs false
open Go Go.RowKit
theorem u32_zero {x : UInt32} (h : (x.toNat : Int) = 0) : x = 0 := by rw [← UInt32.toNat_inj]; simpa using h
theorem trim32_f {N : Heaplet} {ao : Option Addr} {n cap : Nat} {l : List UInt32} (h : RSl N 1 ao n cap (u32s l)) :
    Fn Tryz.prog 50 #[.slice ao n cap] [] [N] (fun v L => v = .slice ao (digsOf (v32 l)).length cap ∧ L = [] ∧ l.take (digsOf (v32 l)).length = digsOf (v32 l) ∧ (digsOf (v32 l)).length ≤ n) := by
  have hlen := h.len32
  have hcap := h.cap63
  refine Fn.enter (vs := [.slice ao n cap]) Tryz.func50 rfl rfl rfl ?_
  intro E R hR
  have h := h.le (hR N (by simp))
  change At _ _ E [R] _
  refine At.seq fun K1 hk_1 => ?_
  refine At.region ?_
  refine op_assign (nxlf rfl) rfl rfl ?_
  refine At.opsNil ?_
  refine At.norm (hk_1 ?_)
  refine At.seq fun K2 hk_2 => ?_
  refine At.region ?_
  refine op_move (nxlf rfl) rfl rfl ?_
  refine op_lenS (nxlf rfl) se51 rfl rfl ?_
  refine op_assign (nxlf rfl) rfl rfl ?_
  refine At.opsNil ?_
  refine At.norm (hk_2 ?_)
  refine At.seq fun K3 hk_3 => ?_
  refine At.block ?_
  refine At.loop (fun fr_ hp_ ms_ => ∃ (k : Nat), fr_ = [(0, .slice ao n cap), (3, .int .i64 (k : Int))] ∧ hp_ = [R] ∧ k = ms_ ∧ (k ≤ n) ∧ (∀ i, k ≤ i → l.getD i 0 = 0)) ?_ (.refl _) ⟨n, rfl, rfl, rfl, Nat.le_refl _, fun i hi => by rw [List.getD_eq_getElem?_getD, List.getElem?_eq_none (by omega)]; rfl⟩ ?_
  · exact .cons (by first | exact lkI rfl (by omega) | rfl) (.cons (by first | exact lkI rfl (by omega) | rfl) .nil)
  rintro _ _ _ ⟨k, rfl, rfl, rfl, hk, hz⟩
  refine At.seq fun K4 hk_4 => ?_
  refine At.seq fun K5 hk_5 => ?_
  refine At.region ?_
  refine op_move (nxlf rfl) rfl rfl ?_
  refine op_gtr (nxlf rfl) rfl rfl rfl ?_
  refine op_move (nxlf rfl) rfl rfl ?_
  refine At.partP (d := 8) rfl (fun g8 => ?_) (fun g8 => ?_)
  · refine op_move (nxgf rfl rfl rfl rfl) rfl rfl ?_
    refine op_move (nxgf rfl rfl rfl rfl) rfl rfl ?_
    refine op_subI (nxgf rfl rfl rfl rfl) rfl rfl (by omega) (by omega) rfl ?_
    refine op_idx1 (nxgf rfl rfl rfl rfl) se51 rfl rfl (by assumption) (show _ = (((k - 1 : Nat)) : Int) from by omega) (by omega) rfl ?_
    refine op_loadE (nxgf rfl rfl rfl rfl) sc56 rfl (by assumption) (by first | exact get8 (by omega) | exact get64 (by omega) | exact get32 (by omega)) (by first | exact mem0 | exact mem1 | exact mem2 | exact mem3 | exact mem4 | exact mem5 | exact mem6 | exact mem7 | exact mem8 | exact mem9) rfl ?_
    refine op_eql (nxgf rfl rfl rfl rfl) rfl rfl rfl ?_
    refine op_pickT (nxlf rfl) rfl rfl rfl ?_
    refine At.opsNil ?_
    refine At.norm (hk_5 ?_)
    refine At.condP rfl (fun c15 => ?_) (fun c15 => ?_)
    · refine At.skip ?_
      refine At.norm (hk_4 ?_)
      refine At.block ?_
      refine At.region ?_
      refine op_move (nxlf rfl) rfl rfl ?_
      refine op_subI (nxlf rfl) rfl rfl (by omega) (by omega) rfl ?_
      refine op_assign (nxlf rfl) rfl rfl ?_
      refine At.opsNil ?_
      refine At.inNorm ?_
      refine At.norm ?_
      refine At.back ?_ (.refl _) ⟨k - 1, rfl, rfl, rfl, by omega, fun i hi => by rcases Nat.lt_or_ge i k with h | h; (rw [show i = k - 1 by omega]; exact u32_zero c15); exact hz i h⟩ ?_
      · exact .cons (by first | exact lkI rfl (by omega) | rfl) (.cons (by first | exact lkI rfl (by omega) | rfl) .nil)
      · omega
    · refine At.exit (At.thenExit (At.thenExit (At.inHit ?_)))
      refine At.norm (hk_3 ?_)
      refine At.seq fun K6 hk_6 => ?_
      refine At.region ?_
      refine op_move (nxlf rfl) rfl rfl ?_
      refine op_move (nxlf rfl) rfl rfl ?_
      refine op_slice0 (nxlf rfl) se51 rfl (.some rfl (show _ = (((k : Nat)) : Int) from by omega)) .none (by omega) (by omega) (by simp) rfl ?_
      refine op_assign (nxlf rfl) rfl rfl ?_
      refine At.opsNil ?_
      refine At.norm (hk_6 ?_)
      refine At.ret (?_)
      refine At.ret1 (L1 := []) rfl (.tmp rfl .nil) (.refl _) (.refl _) ?_
      have ⟨e1, e2⟩ := trim_len32 (by omega) hz (.inr ⟨by omega, fun e => c15 (by rw [e]; rfl)⟩); rw [e2]; exact ⟨rfl, rfl, e1, hk⟩
  · refine op_skip rfl rfl rfl rfl rfl rfl rfl ?_
    refine op_skip rfl rfl rfl rfl rfl rfl rfl ?_
    refine op_skip rfl rfl rfl rfl rfl rfl rfl ?_
    refine op_skip rfl rfl rfl rfl rfl rfl rfl ?_
    refine op_skip rfl rfl rfl rfl rfl rfl rfl ?_
    refine op_skip rfl rfl rfl rfl rfl rfl rfl ?_
    refine op_pickF (nxlf rfl) rfl rfl rfl ?_
    refine At.opsNil ?_
    refine At.norm (hk_5 ?_)
    refine At.condF rfl ?_
    refine At.exit (At.thenExit (At.thenExit (At.inHit ?_)))
    refine At.norm (hk_3 ?_)
    refine At.seq fun K7 hk_7 => ?_
    refine At.region ?_
    refine op_move (nxlf rfl) rfl rfl ?_
    refine op_move (nxlf rfl) rfl rfl ?_
    refine op_slice0 (nxlf rfl) se51 rfl (.some rfl (show _ = (((k : Nat)) : Int) from by omega)) .none (by omega) (by omega) (by simp) rfl ?_
    refine op_assign (nxlf rfl) rfl rfl ?_
    refine At.opsNil ?_
    refine At.norm (hk_7 ?_)
    refine At.ret (?_)
    refine At.ret1 (L1 := []) rfl (.tmp rfl .nil) (.refl _) (.refl _) ?_
    have ⟨e1, e2⟩ := trim_len32 (by omega) hz (.inl (by omega)); rw [e2]; exact ⟨rfl, rfl, e1, hk⟩
theorem Of32_f (x : UInt64) : Fn Tryz.prog 28 #[.int .u64 (x.toNat : Int)] [] [] (fun v L => ∃ M a cap, v = .slice a (digsOf x.toNat).length cap ∧ L = [M] ∧ RSl M 1 a (digsOf x.toNat).length cap (u32s (digsOf x.toNat))) := by
  refine Fn.enter (vs := [.int .u64 (x.toNat : Int)]) Tryz.func28 rfl rfl rfl ?_
  intro E R hR
  change At _ _ E [R] _
  refine At.seq fun K1 hk_1 => ?_
  refine At.region ?_
  refine op_assign (nxlf rfl) rfl rfl ?_
  refine At.opsNil ?_
  refine At.norm (hk_1 ?_)
  refine At.seq fun K2 hk_2 => ?_
  refine At.region ?_
  refine op_move (nxlf rfl) rfl rfl ?_
  refine op_conv32 (nxlf rfl) (und_some Tryz.underlying23) Tryz.underlying56 rfl (by first | rfl | exact (Int.toNat_of_nonneg (by omega)).symm) rfl ?_
  refine op_move (nxlf rfl) rfl rfl ?_
  refine op_shrU (nxlf rfl) rfl rfl (show _ = ((32 : Nat) : Int) from rfl) rfl ?_
  refine op_conv32 (nxlf rfl) (und_some Tryz.underlying23) Tryz.underlying56 rfl (by first | rfl | exact (Int.toNat_of_nonneg (by omega)).symm) rfl ?_
  refine op_lit (nxla rfl) Tryz.underlying51 ze56 sz56 (.cons rfl (.cons rfl .nil)) rfl rfl (by simp [Value.cells]) rfl rfl rfl (fun N8 a8 r8 => ?_)
  simp only [flatV, List.flatMap_cons, List.flatMap_nil, Value.cells, List.append_nil, List.cons_append, List.nil_append] at r8
  have s8 := r8.rsl
  refine op_callA (nxla rfl) (.cons rfl .nil) (trim32_f (l := [UInt32.ofNat x.toNat, UInt32.ofNat (shr64 x 32).toNat]) s8) Tryz.func50 rfl rfl (by simp) rfl ?_
  rintro v9 L9 ⟨rfl, rfl, e1, e2⟩
  change At _ _ _ [N8, R] _
  rw [v32_two] at e1 e2 ⊢
  have s9 := s8.take e2 (Nat.le_refl _) e2
  refine op_assign (nxlf rfl) rfl rfl ?_
  refine At.opsNil ?_
  refine At.norm (hk_2 ?_)
  refine At.ret (?_)
  refine At.ret1 (L1 := [N8]) rfl (.tmp rfl .nil) (.refl _) (.refl _) ?_
  refine ⟨N8, a8, 2, rfl, rfl, ?_⟩
  have e : List.take ((digsOf x.toNat).length * 1) [Value.int IntKind.u32 ↑(UInt32.ofNat x.toNat).toNat, Value.int IntKind.u32 ↑(UInt32.ofNat (shr64 x 32).toNat).toNat] = u32s (digsOf x.toNat) := by
    rw [Nat.mul_one, ← e1, ← u32s_take, e1]; rfl
  rw [e] at s9
  exact s9
theorem Bytes32_f {N : Heaplet} {ao : Option Addr} {n cap : Nat} {l : List UInt32} (h : RSl N 1 ao n cap (u32s l)) (hn : n ≤ 17592186044416) :
    Fn Tryz.prog 42 #[.slice ao n cap] [] [N] (fun v L => ∃ M a cap, v = .slice a (bytesOf (v32 l)).length cap ∧ L = [M] ∧ Row M 5 1 a (bytesOf (v32 l)).length cap (u8s (bytesOf (v32 l)))) := by
  have hlen := h.len32
  have hcap := h.cap63
  have hlim : v32 l < 256 ^ (4 * n) := by
    rw [show (256 : Nat) = 2 ^ 8 from rfl, ← Nat.pow_mul, show 8 * (4 * n) = 32 * l.length from by omega]; exact v32_lt l
  have hb4 : ∀ j, (bytesOf (v32 l / 256 ^ j)).length ≤ 4 * n := fun j => by
    rw [length_bytesOf]; exact byteLen_le.2 (Nat.lt_of_le_of_lt (Nat.div_le_self _ _) hlim)
  refine Fn.enter (vs := [.slice ao n cap]) Tryz.func42 rfl rfl rfl ?_
  intro E R hR
  have h := h.le (hR N (by simp))
  change At _ _ E [R] _
  refine At.seq fun K1 hk_1 => ?_
  refine At.region ?_
  refine op_assign (nxlf rfl) rfl rfl ?_
  refine At.opsNil ?_
  refine At.norm (hk_1 ?_)
  refine At.seq fun K2 hk_2 => ?_
  refine At.region ?_
  refine op_assign (nxlf rfl) rfl rfl ?_
  refine At.opsNil ?_
  refine At.norm (hk_2 ?_)
  refine At.seq fun K3 hk_3 => ?_
  refine At.seq fun K4 hk_4 => ?_
  refine At.region ?_
  refine op_move (nxlf rfl) rfl rfl ?_
  refine op_lenS (nxlf rfl) se51 rfl rfl ?_
  refine op_mulI (nxlf rfl) rfl rfl (by omega) (by omega) rfl ?_
  refine op_subI (nxlf rfl) rfl rfl (by omega) (by omega) rfl ?_
  refine op_assign (nxlf rfl) rfl rfl ?_
  refine At.opsNil ?_
  refine At.norm (hk_4 ?_)
  refine At.block ?_
  refine At.empty ?_
  refine At.loop (fun fr_ hp_ ms_ => ∃ (j : Nat) (ap : Option Addr) (np cp : Nat) (Np : Heaplet), fr_ = [(0, .slice ao n cap), (3, .slice ap np cp), (4, .int .i64 ((j : Int) - 1))] ∧ hp_ = [Np, R] ∧ j = ms_ ∧ (j ≤ 4 * n) ∧ (np = (bytesOf (v32 l / 256 ^ j)).length) ∧ (Row Np 5 1 ap np cp (u8s (bytesOf (v32 l / 256 ^ j))))) ?_ (.refl _) ⟨4 * n, none, 0, 0, nilH, rfl, rfl, rfl, Nat.le_refl _, by rw [Nat.div_eq_of_lt hlim]; rfl, by rw [Nat.div_eq_of_lt hlim]; exact Row.nil _ _ _⟩ ?_
  · exact .cons (by first | exact lkI rfl (by omega) | rfl) (.cons (by first | exact lkI rfl (by omega) | rfl) (.cons (by first | exact lkI rfl (by omega) | rfl) .nil))
  rintro _ _ _ ⟨j, ap, np, cp, Np, rfl, rfl, rfl, hj, hnp, rp⟩
  have hb := hb4 j
  refine At.seq fun K5 hk_5 => ?_
  refine At.seq fun K6 hk_6 => ?_
  refine At.region ?_
  refine op_move (nxlf rfl) rfl rfl ?_
  refine op_geq (nxlf rfl) rfl rfl rfl ?_
  refine At.opsNil ?_
  refine At.norm (hk_6 ?_)
  refine At.condP rfl (fun c11 => ?_) (fun c11 => ?_)
  · have hbyte := byte32_at (l := l) (i := j - 1) (by omega)
    obtain ⟨i, hi⟩ : ∃ i, j = i + 1 := ⟨j - 1, by omega⟩
    have hj1 : j - 1 = i := by omega
    have hj1' : j = i + 1 := hi
    have hst : (0 < np ∨ (UInt8.ofNat (shr32 (l.getD ((j - 1) / 4) 0) (8 * ((j - 1) % 4))).toNat).toNat ≠ 0) → bytesOf (v32 l / 256 ^ (j - 1)) = bytesOf (v32 l / 256 ^ j) ++ [UInt8.ofNat (shr32 (l.getD ((j - 1) / 4) 0) (8 * ((j - 1) % 4))).toNat] := fun hh => by
      rw [hbyte] at hh ⊢
      rw [hnp] at hh
      rw [hj1, hj1'] at *
      exact bytesOf_down (down_ne hh)
    refine At.skip ?_
    refine At.norm (hk_5 ?_)
    refine At.seq fun K7 hk_7 => ?_
    refine At.block ?_
    refine At.seq fun K8 hk_8 => ?_
    refine At.region ?_
    refine op_move (nxlf rfl) rfl rfl ?_
    refine op_move (nxlf rfl) rfl rfl ?_
    refine op_quoI (nxlf rfl) rfl rfl (by omega) (by omega) (by omega) rfl ?_
    refine op_idx1 (nxlf rfl) se51 rfl rfl (by assumption) (show _ = ((((j - 1) / 4 : Nat)) : Int) from by omega) (by omega) rfl ?_
    refine op_loadE (nxlf rfl) sc56 rfl (by assumption) (by first | exact get8 (by omega) | exact get64 (by omega) | exact get32 (by omega)) (by first | exact mem0 | exact mem1 | exact mem2 | exact mem3 | exact mem4 | exact mem5 | exact mem6 | exact mem7 | exact mem8 | exact mem9) rfl ?_
    refine op_move (nxlf rfl) rfl rfl ?_
    refine op_rem (nxlf rfl) rfl rfl (by omega) (by omega) rfl ?_
    refine op_mulI (nxlf rfl) rfl rfl (by omega) (by omega) rfl ?_
    refine op_shrU32 (nxlf rfl) rfl rfl (show _ = (((8 * ((j - 1) % 4) : Nat)) : Int) from by omega) rfl ?_
    refine op_conv8 (nxlf rfl) (und_some Tryz.underlying56) Tryz.underlying5 rfl (by first | rfl | exact (Int.toNat_of_nonneg (by omega)).symm) rfl ?_
    refine op_assign (nxlf rfl) rfl rfl ?_
    refine At.opsNil ?_
    refine At.norm (hk_8 ?_)
    refine At.seq fun K9 hk_9 => ?_
    refine At.region ?_
    refine op_move (nxlf rfl) rfl rfl ?_
    refine op_lenS (nxlf rfl) se22 rfl rfl ?_
    refine op_gtr (nxlf rfl) rfl rfl rfl ?_
    refine op_move (nxlf rfl) rfl rfl ?_
    refine At.partP (d := 27) rfl (fun g27 => ?_) (fun g27 => ?_)
    · refine op_skip rfl rfl rfl rfl rfl rfl rfl ?_
      refine op_skip rfl rfl rfl rfl rfl rfl rfl ?_
      refine op_pickT (nxlf rfl) rfl rfl rfl ?_
      refine At.opsNil ?_
      refine At.norm (hk_9 ?_)
      refine At.condT rfl ?_
      refine At.region ?_
      refine op_move (nxlf rfl) rfl rfl ?_
      refine op_move (nxlf rfl) rfl rfl ?_
      refine op_lit (nxla rfl) Tryz.underlying22 ze5 sz5 (.cons rfl .nil) rfl rfl (by simp [Value.cells]) rfl rfl rfl (fun N33 a33 r33 => ?_)
      simp only [flatV, List.flatMap_cons, List.flatMap_nil, Value.cells, List.append_nil, List.cons_append, List.nil_append] at r33
      have s33 := r33.rsl
      refine op_append (nxl rfl) Tryz.underlying22 Tryz.underlying22 te5 rfl rfl rp (by assumption) (by first | exact mem0 | exact mem1 | exact mem2 | exact mem3 | exact mem4 | exact mem5 | exact mem6 | exact mem7 | exact mem8 | exact mem9) (by first | exact one_u8s _ | exact one_u64s _ | exact one_u32s _ | (intro u hu; simp at hu; subst hu; rfl)) (by omega) (by omega) sel1 rfl (fun N34 a34 p34 r34 => ?_)
      have s34 := r34.rsl
      refine op_assign (nxlf rfl) rfl rfl ?_
      refine At.opsNil ?_
      refine At.inNorm ?_
      refine At.norm (hk_7 ?_)
      refine At.region ?_
      refine op_move (nxlf rfl) rfl rfl ?_
      refine op_subI (nxlf rfl) rfl rfl (by omega) (by omega) rfl ?_
      refine op_assign (nxlf rfl) rfl rfl ?_
      refine At.opsNil ?_
      refine At.norm ?_
      refine At.sub (L' := [N34, R]) (.cons_cons _ (.cons _ (.cons_cons _ (.slnil)))) ?_
      refine At.back ?_ (.refl _) ⟨j - 1, a34, np + 1, p34, N34, rfl, rfl, rfl, by omega, by rw [hst (.inl (by omega)), List.length_append, hnp]; rfl, by rw [hst (.inl (by omega)), u8s, List.map_append]; exact r34⟩ ?_
      · exact .cons (by first | exact lkI rfl (by omega) | rfl) (.cons (by first | exact lkI rfl (by omega) | rfl) (.cons (by first | exact lkI rfl (by omega) | rfl) .nil))
      · omega
    · refine op_move (nxgf rfl rfl rfl rfl) rfl rfl ?_
      refine op_neq (nxgf rfl rfl rfl rfl) rfl rfl rfl ?_
      refine op_pickF (nxlf rfl) rfl rfl rfl ?_
      refine At.opsNil ?_
      refine At.norm (hk_9 ?_)
      refine At.condP rfl (fun c30 => ?_) (fun c30 => ?_)
      · refine At.region ?_
        refine op_move (nxlf rfl) rfl rfl ?_
        refine op_move (nxlf rfl) rfl rfl ?_
        refine op_lit (nxla rfl) Tryz.underlying22 ze5 sz5 (.cons rfl .nil) rfl rfl (by simp [Value.cells]) rfl rfl rfl (fun N33 a33 r33 => ?_)
        simp only [flatV, List.flatMap_cons, List.flatMap_nil, Value.cells, List.append_nil, List.cons_append, List.nil_append] at r33
        have s33 := r33.rsl
        refine op_append (nxl rfl) Tryz.underlying22 Tryz.underlying22 te5 rfl rfl rp (by assumption) (by first | exact mem0 | exact mem1 | exact mem2 | exact mem3 | exact mem4 | exact mem5 | exact mem6 | exact mem7 | exact mem8 | exact mem9) (by first | exact one_u8s _ | exact one_u64s _ | exact one_u32s _ | (intro u hu; simp at hu; subst hu; rfl)) (by omega) (by omega) sel1 rfl (fun N34 a34 p34 r34 => ?_)
        have s34 := r34.rsl
        refine op_assign (nxlf rfl) rfl rfl ?_
        refine At.opsNil ?_
        refine At.inNorm ?_
        refine At.norm (hk_7 ?_)
        refine At.region ?_
        refine op_move (nxlf rfl) rfl rfl ?_
        refine op_subI (nxlf rfl) rfl rfl (by omega) (by omega) rfl ?_
        refine op_assign (nxlf rfl) rfl rfl ?_
        refine At.opsNil ?_
        refine At.norm ?_
        refine At.sub (L' := [N34, R]) (.cons_cons _ (.cons _ (.cons_cons _ (.slnil)))) ?_
        refine At.back ?_ (.refl _) ⟨j - 1, a34, np + 1, p34, N34, rfl, rfl, rfl, by omega, by rw [hst (.inr (by omega)), List.length_append, hnp]; rfl, by rw [hst (.inr (by omega)), u8s, List.map_append]; exact r34⟩ ?_
        · exact .cons (by first | exact lkI rfl (by omega) | rfl) (.cons (by first | exact lkI rfl (by omega) | rfl) (.cons (by first | exact lkI rfl (by omega) | rfl) .nil))
        · omega
      · refine At.skip ?_
        refine At.inNorm ?_
        refine At.norm (hk_7 ?_)
        refine At.region ?_
        refine op_move (nxlf rfl) rfl rfl ?_
        refine op_subI (nxlf rfl) rfl rfl (by omega) (by omega) rfl ?_
        refine op_assign (nxlf rfl) rfl rfl ?_
        refine At.opsNil ?_
        refine At.norm ?_
        have hc0 : ¬ (UInt8.ofNat (v32 l / 256 ^ (j - 1))).toNat ≠ 0 := by rw [← hbyte]; omega
        have hl0 : ¬ 0 < (bytesOf (v32 l / 256 ^ (i + 1))).length := by rw [← hj1', ← hnp]; omega
        rw [hj1] at hc0
        refine At.back ?_ (.refl _) ⟨j - 1, ap, np, cp, Np, rfl, rfl, rfl, by omega, by rw [hj1, down_eq hl0 hc0, ← hj1']; exact hnp, by rw [hj1, down_eq hl0 hc0, ← hj1']; exact rp⟩ ?_
        · exact .cons (by first | exact lkI rfl (by omega) | rfl) (.cons (by first | exact lkI rfl (by omega) | rfl) (.cons (by first | exact lkI rfl (by omega) | rfl) .nil))
        · omega
  · refine At.exit (At.thenExit (At.thenExit (At.inHit ?_)))
    refine At.norm (hk_3 ?_)
    refine At.seq fun K10 hk_10 => ?_
    refine At.region ?_
    refine op_move (nxlf rfl) rfl rfl ?_
    refine op_assign (nxlf rfl) rfl rfl ?_
    refine At.opsNil ?_
    refine At.norm (hk_10 ?_)
    refine At.ret (?_)
    refine At.ret1 (L1 := [Np]) rfl (.tmp rfl .nil) (.refl _) (.refl _) ?_
    obtain rfl : j = 0 := by omega
    rw [Nat.pow_zero, Nat.div_one] at hnp rp
    subst hnp
    exact ⟨Np, ap, cp, rfl, rfl, rp⟩
end Go.Proofs.YtnpcaplgkmlmoaaGreatDoor
/- quarryref02's From, Cmp; quarryref01's W. No condition but that bytes are not more than a machine holds. -/
namespace Go.Proofs.YtnpcaplgkmlmoaaGreatDoor
set_option linter.unusedVariables false
set_option linter.unusedSimpArgs false
open Go Go.RowKit
theorem ofNat_shl32 (x : UInt8) (m : Nat) : shl32 (UInt32.ofNat x.toNat) m = UInt32.ofNat (x.toNat * 2 ^ m) := shl32_of _ (by have := x.toNat_lt; omega) m
theorem rFrom_f {N : Heaplet} {ao : Option Addr} {n cap : Nat} {l : List UInt8} (h : RSl N 1 ao n cap (u8s l)) (hn : n ≤ 140737488351232) :
    Fn Tryz.prog 44 #[.slice ao n cap] [] [N] (fun v L => ∃ M a c, v = .slice a (digsOf (be l)).length c ∧ L = [M] ∧ RSl M 1 a (digsOf (be l)).length c (u32s (digsOf (be l)))) := by
  have hlen := h.len8
  have hcap := h.cap63
  refine Fn.enter (vs := [.slice ao n cap]) Tryz.func44 rfl rfl rfl ?_
  intro E R hR
  have h := h.le (hR N (by simp))
  change At _ _ E [R] _
  refine At.seq fun K1 hk_1 => ?_
  refine At.region ?_
  refine op_assign (nxlf rfl) rfl rfl ?_
  refine At.opsNil ?_
  refine At.norm (hk_1 ?_)
  refine At.seq fun K2 hk_2 => ?_
  refine At.region ?_
  refine op_move (nxlf rfl) rfl rfl ?_
  refine op_lenS (nxlf rfl) se22 rfl rfl ?_
  refine op_addI (nxlf rfl) rfl rfl (by omega) (by omega) rfl ?_
  refine op_quoI (nxlf rfl) rfl rfl (by omega) (by omega) (by omega) rfl ?_
  refine op_make (nxla rfl) Tryz.underlying51 te56 rfl rfl (show _ = ((((n + 3) / 4 : Nat)) : Int) from by omega) (show _ = ((((n + 3) / 4 : Nat)) : Int) from by omega) (by omega) (by unfold maxLen; omega) rfl (fun N10 a10 r10 => ?_)
  rw [made_one _ _ rfl, zero_u32s] at r10
  have s10 := r10.rsl
  refine op_assign (nxlf rfl) rfl rfl ?_
  refine At.opsNil ?_
  refine At.norm (hk_2 ?_)
  refine At.seq fun K3 hk_3 => ?_
  refine At.seq fun K4 hk_4 => ?_
  refine At.region ?_
  refine op_assign (nxlf rfl) rfl rfl ?_
  refine At.opsNil ?_
  refine At.norm (hk_4 ?_)
  refine At.block ?_
  refine At.loop (fun fr_ hp_ ms_ => ∃ (k : Nat) (Nq : Heaplet), fr_ = [(0, .slice ao n cap), (3, .slice a10 ((n + 3) / 4) ((n + 3) / 4)), (4, .int .i64 (k : Int))] ∧ hp_ = [Nq, R] ∧ n - k = ms_ ∧ (k ≤ n) ∧ (Row Nq 56 1 a10 ((n + 3) / 4) ((n + 3) / 4) (u32s (rfromSt l k)))) ?_ (.refl _) ⟨0, N10, rfl, rfl, rfl, by omega, by simpa [rfromSt, hlen] using r10⟩ ?_
  · exact .cons (by first | exact lkI rfl (by omega) | rfl) (.cons (by first | exact lkI rfl (by omega) | rfl) (.cons (by first | exact lkI rfl (by omega) | rfl) .nil))
  rintro _ _ _ ⟨k, Nq, rfl, rfl, rfl, hk, rq⟩
  have sq := rq.rsl
  have hlq := sq.len32
  refine At.seq fun K5 hk_5 => ?_
  refine At.seq fun K6 hk_6 => ?_
  refine At.region ?_
  refine op_move (nxlf rfl) rfl rfl ?_
  refine op_move (nxlf rfl) rfl rfl ?_
  refine op_lenS (nxlf rfl) se22 rfl rfl ?_
  refine op_lss (nxlf rfl) rfl rfl rfl ?_
  refine At.opsNil ?_
  refine At.norm (hk_6 ?_)
  refine At.condP rfl (fun c14 => ?_) (fun c14 => ?_)
  · refine At.skip ?_
    refine At.norm (hk_5 ?_)
    refine At.seq fun K7 hk_7 => ?_
    refine At.block ?_
    refine At.seq fun K8 hk_8 => ?_
    refine At.region ?_
    refine op_move (nxlf rfl) rfl rfl ?_
    refine op_lenS (nxlf rfl) se22 rfl rfl ?_
    refine op_subI (nxlf rfl) rfl rfl (by omega) (by omega) rfl ?_
    refine op_move (nxlf rfl) rfl rfl ?_
    refine op_subI (nxlf rfl) rfl rfl (by omega) (by omega) rfl ?_
    refine op_assign (nxlf rfl) rfl rfl ?_
    refine At.opsNil ?_
    refine At.norm (hk_8 ?_)
    refine At.drawn [19] [0,1,2,3,4,5,6,7,8,9,10,11,12,13,14,15,16,17,18,19] (by kernel_rfl) (by kernel_rfl) ?_
    refine op_move (nxof rfl rfl rfl (by kernel_rfl)) rfl rfl ?_
    refine op_move (nxof rfl rfl rfl (by kernel_rfl)) rfl rfl ?_
    refine op_quoI (nxof rfl rfl rfl (by kernel_rfl)) rfl rfl (by omega) (by omega) (by omega) rfl ?_
    refine op_move (nxof rfl rfl rfl (by kernel_rfl)) rfl rfl ?_
    refine op_move (nxof rfl rfl rfl (by kernel_rfl)) rfl rfl ?_
    refine op_quoI (nxof rfl rfl rfl (by kernel_rfl)) rfl rfl (by omega) (by omega) (by omega) rfl ?_
    refine op_idx1 (nxof rfl rfl rfl (by kernel_rfl)) se51 rfl rfl (by assumption) (show _ = (((k / 4 : Nat)) : Int) from by omega) (by omega) rfl ?_
    refine op_loadE (nxof rfl rfl rfl (by kernel_rfl)) sc56 rfl (by assumption) (by first | exact get8 (by omega) | exact get64 (by omega) | exact get32 (by omega)) (by first | exact mem0 | exact mem1 | exact mem2 | exact mem3 | exact mem4 | exact mem5 | exact mem6 | exact mem7 | exact mem8 | exact mem9) rfl ?_
    refine op_move (nxof rfl rfl rfl (by kernel_rfl)) rfl rfl ?_
    refine op_move (nxof rfl rfl rfl (by kernel_rfl)) rfl rfl ?_
    refine op_idx1 (nxof rfl rfl rfl (by kernel_rfl)) se22 rfl rfl (by assumption) (show _ = (((n - 1 - k : Nat)) : Int) from by omega) (by omega) rfl ?_
    refine op_loadE (nxof rfl rfl rfl (by kernel_rfl)) sc5 rfl (by assumption) (by first | exact get8 (by omega) | exact get64 (by omega) | exact get32 (by omega)) (by first | exact mem0 | exact mem1 | exact mem2 | exact mem3 | exact mem4 | exact mem5 | exact mem6 | exact mem7 | exact mem8 | exact mem9) rfl ?_
    refine op_conv32 (nxof rfl rfl rfl (by kernel_rfl)) (und_some Tryz.underlying5) Tryz.underlying56 rfl (by first | rfl | exact (Int.toNat_of_nonneg (by omega)).symm) rfl ?_
    refine op_move (nxof rfl rfl rfl (by kernel_rfl)) rfl rfl ?_
    refine op_rem (nxof rfl rfl rfl (by kernel_rfl)) rfl rfl (by omega) (by omega) rfl ?_
    refine op_mulI (nxof rfl rfl rfl (by kernel_rfl)) rfl rfl (by omega) (by omega) rfl ?_
    refine op_shlU32 (nxof rfl rfl rfl (by kernel_rfl)) rfl rfl (show _ = (((8 * (k % 4) : Nat)) : Int) from by omega) rfl ?_
    refine op_orU32 (nxof rfl rfl rfl (by kernel_rfl)) rfl rfl rfl ?_
    refine op_idx1 (nxof rfl rfl rfl (by kernel_rfl)) se51 rfl rfl (by assumption) (show _ = (((k / 4 : Nat)) : Int) from by omega) (by omega) rfl ?_
    refine op_storeE (nxos rfl rfl rfl rfl) sz56 rfl rfl rfl rfl rfl rq (by simp <;> omega) (by simp) sel0 (fun Nq rq => ?_)
    simp only [setL] at rq
    have sq := rq.rsl
    refine At.oneNil ?_
    refine At.inNorm ?_
    refine At.norm (hk_7 ?_)
    refine At.region ?_
    refine op_move (nxlf rfl) rfl rfl ?_
    refine op_addI (nxlf rfl) rfl rfl (by omega) (by omega) rfl ?_
    refine op_assign (nxlf rfl) rfl rfl ?_
    refine At.opsNil ?_
    refine At.norm ?_
    refine At.back ?_ (.refl _) ⟨k + 1, Nq, rfl, rfl, rfl, by omega, by rw [rfromSt, rfromStep, hlen, ← ofNat_shl32, ← set_u32s]; exact rq⟩ ?_
    · exact .cons (by first | exact lkI rfl (by omega) | rfl) (.cons (by first | exact lkI rfl (by omega) | rfl) (.cons (by first | exact lkI rfl (by omega) | rfl) .nil))
    · omega
  · refine At.exit (At.thenExit (At.thenExit (At.inHit ?_)))
    refine At.norm (hk_3 ?_)
    refine At.seq fun K9 hk_9 => ?_
    refine At.region ?_
    refine op_move (nxlf rfl) rfl rfl ?_
    refine op_callA (nxla rfl) (.cons rfl .nil) (trim32_f sq) Tryz.func50 rfl rfl (by simp) rfl ?_
    rintro v42 L42 ⟨rfl, rfl, e1, e2⟩
    change At _ _ _ [Nq, R] _
    refine op_assign (nxlf rfl) rfl rfl ?_
    refine At.opsNil ?_
    refine At.norm (hk_9 ?_)
    refine At.ret (?_)
    refine At.ret1 (L1 := [Nq]) rfl (.tmp rfl .nil) (.refl _) (.refl _) ?_
    obtain rfl : k = l.length := by omega
    rw [rfromSt_all] at e1 e2 ⊢
    have h2 := sq.take e2 (Nat.le_refl _) e2
    rw [Nat.mul_one, u32s_take, e1] at h2
    exact ⟨Nq, a10, _, rfl, rfl, h2⟩
/-- How two numbers stand to each other. -/
def cmpI (x y : Nat) : Int := if x < y then -1 else if y < x then 1 else 0
theorem digs_lt {x y : Nat} (h : (digsOf x).length < (digsOf y).length) : x < y := by
  rw [length_digsOf, length_digsOf] at h
  rcases Nat.lt_or_ge x y with h1 | h1
  · exact h1
  · have := bitLen_mono h1; omega
theorem digs_eq_len {x y : Nat} (h : (digsOf x).length = (digsOf y).length) : x / 2 ^ (32 * (digsOf x).length) = y / 2 ^ (32 * (digsOf x).length) := by
  have h1 := v32_lt (digsOf x)
  have h2 := v32_lt (digsOf y)
  rw [v32_digsOf] at h1 h2
  rw [Nat.div_eq_of_lt h1, h, Nat.div_eq_of_lt h2]
theorem digs_at {x j : Nat} (h : j < (digsOf x).length) : x / 2 ^ (32 * j) = x / 2 ^ (32 * (j + 1)) * 2 ^ 32 + ((digsOf x).getD j 0).toNat := by
  have e := dig_v32 h
  rw [v32_digsOf] at e
  rw [List.getD_eq_getElem?_getD, List.getElem?_eq_getElem h, Option.getD_some, ← e, show 32 * (j + 1) = 32 * j + 32 by omega, Nat.pow_add, ← Nat.div_div_eq_div_mul]
  omega
theorem lt_of_div {x y p : Nat} (h : x / p < y / p) : x < y := by
  rcases Nat.lt_or_ge x y with h1 | h1
  · exact h1
  · have := Nat.div_le_div_right (c := p) h1; omega
theorem cmpI_le {x y : Nat} : cmpI x y ≤ 0 ↔ x ≤ y := by
  unfold cmpI
  split
  · omega
  · split <;> omega
theorem Cmp32_f {N M : Heaplet} {ax ay : Option Addr} {nx ny cx cy x y : Nat} (hx : RSl N 1 ax nx cx (u32s (digsOf x))) (hy : RSl M 1 ay ny cy (u32s (digsOf y))) :
    Fn Tryz.prog 45 #[.slice ax nx cx, .slice ay ny cy] [] [N, M] (fun v L => v = .int .i64 (cmpI x y) ∧ L = []) := by
  have lx := hx.len32
  have ly := hy.len32
  have hcx := hx.cap63
  have hcy := hy.cap63
  refine Fn.enter (vs := [.slice ax nx cx, .slice ay ny cy]) Tryz.func45 rfl rfl rfl ?_
  intro E R hR
  have hx := hx.le (hR N (by simp))
  have hy := hy.le (hR M (by simp))
  change At _ _ E [R] _
  refine At.seq fun K1 hk_1 => ?_
  refine At.region ?_
  refine op_assign (nxlf rfl) rfl rfl ?_
  refine At.opsNil ?_
  refine At.norm (hk_1 ?_)
  refine At.seq fun K2 hk_2 => ?_
  refine At.seq fun K3 hk_3 => ?_
  refine At.region ?_
  refine op_move (nxlf rfl) rfl rfl ?_
  refine op_lenS (nxlf rfl) se51 rfl rfl ?_
  refine op_move (nxlf rfl) rfl rfl ?_
  refine op_lenS (nxlf rfl) se51 rfl rfl ?_
  refine op_neq (nxlf rfl) rfl rfl rfl ?_
  refine At.opsNil ?_
  refine At.norm (hk_3 ?_)
  refine At.condP rfl (fun c10 => ?_) (fun c10 => ?_)
  · refine At.seq fun K4 hk_4 => ?_
    refine At.seq fun K5 hk_5 => ?_
    refine At.region ?_
    refine op_move (nxlf rfl) rfl rfl ?_
    refine op_lenS (nxlf rfl) se51 rfl rfl ?_
    refine op_move (nxlf rfl) rfl rfl ?_
    refine op_lenS (nxlf rfl) se51 rfl rfl ?_
    refine op_lss (nxlf rfl) rfl rfl rfl ?_
    refine At.opsNil ?_
    refine At.norm (hk_5 ?_)
    refine At.condP rfl (fun c15 => ?_) (fun c15 => ?_)
    · refine At.seq fun K6 hk_6 => ?_
      refine At.region ?_
      refine op_assign (nxlf rfl) rfl rfl ?_
      refine At.opsNil ?_
      refine At.norm (hk_6 ?_)
      refine At.ret (At.thenRet (At.thenRet (?_)))
      refine At.ret1 (L1 := []) rfl (.tmp rfl .nil) (.refl _) (.refl _) ?_
      have := @digs_lt x y (by omega); exact ⟨by rw [cmpI, if_pos this], rfl⟩
    · refine At.skip ?_
      refine At.norm (hk_4 ?_)
      refine At.seq fun K7 hk_7 => ?_
      refine At.region ?_
      refine op_assign (nxlf rfl) rfl rfl ?_
      refine At.opsNil ?_
      refine At.norm (hk_7 ?_)
      refine At.ret (At.thenRet (?_))
      refine At.ret1 (L1 := []) rfl (.tmp rfl .nil) (.refl _) (.refl _) ?_
      have := @digs_lt y x (by omega); exact ⟨by rw [cmpI, if_neg (by omega), if_pos this], rfl⟩
  · refine At.skip ?_
    refine At.norm (hk_2 ?_)
    refine At.seq fun K8 hk_8 => ?_
    refine At.seq fun K9 hk_9 => ?_
    refine At.region ?_
    refine op_move (nxlf rfl) rfl rfl ?_
    refine op_lenS (nxlf rfl) se51 rfl rfl ?_
    refine op_subI (nxlf rfl) rfl rfl (by omega) (by omega) rfl ?_
    refine op_assign (nxlf rfl) rfl rfl ?_
    refine At.opsNil ?_
    refine At.norm (hk_9 ?_)
    refine At.block ?_
    refine At.loop (fun fr_ hp_ ms_ => ∃ (j : Nat), fr_ = [(0, .slice ax nx cx), (1, .slice ay ny cy), (5, .int .i64 ((j : Int) - 1))] ∧ hp_ = [R] ∧ j = ms_ ∧ (j ≤ nx) ∧ (x / 2 ^ (32 * j) = y / 2 ^ (32 * j))) ?_ (.refl _) ⟨nx, rfl, rfl, rfl, Nat.le_refl _, by have e := digs_eq_len (x := x) (y := y) (by omega); rwa [lx] at e⟩ ?_
    · exact .cons (by first | exact lkI rfl (by omega) | rfl) (.cons (by first | exact lkI rfl (by omega) | rfl) (.cons (by first | exact lkI rfl (by omega) | rfl) .nil))
    rintro _ _ _ ⟨j, rfl, rfl, rfl, hj, hd⟩
    have hat : 0 < j → x / 2 ^ (32 * (j - 1)) = x / 2 ^ (32 * j) * 2 ^ 32 + ((digsOf x).getD (j - 1) 0).toNat ∧ y / 2 ^ (32 * (j - 1)) = y / 2 ^ (32 * j) * 2 ^ 32 + ((digsOf y).getD (j - 1) 0).toNat := fun h0 => by
      have e1 := digs_at (x := x) (j := j - 1) (by omega)
      have e2 := digs_at (x := y) (j := j - 1) (by omega)
      rw [show j - 1 + 1 = j by omega] at e1 e2
      exact ⟨e1, e2⟩
    refine At.seq fun K10 hk_10 => ?_
    refine At.seq fun K11 hk_11 => ?_
    refine At.region ?_
    refine op_move (nxlf rfl) rfl rfl ?_
    refine op_geq (nxlf rfl) rfl rfl rfl ?_
    refine At.opsNil ?_
    refine At.norm (hk_11 ?_)
    refine At.condP rfl (fun c20 => ?_) (fun c20 => ?_)
    · refine At.skip ?_
      refine At.norm (hk_10 ?_)
      refine At.seq fun K12 hk_12 => ?_
      refine At.block ?_
      refine At.seq fun K13 hk_13 => ?_
      refine At.seq fun K14 hk_14 => ?_
      refine At.drawn [] [0,1,2,3,4,5,6,7,8] (by kernel_rfl) (by kernel_rfl) ?_
      refine op_move (nxof rfl rfl rfl (by kernel_rfl)) rfl rfl ?_
      refine op_move (nxof rfl rfl rfl (by kernel_rfl)) rfl rfl ?_
      refine op_idx1 (nxof rfl rfl rfl (by kernel_rfl)) se51 rfl rfl (by assumption) (show _ = (((j - 1 : Nat)) : Int) from by omega) (by omega) rfl ?_
      refine op_loadE (nxof rfl rfl rfl (by kernel_rfl)) sc56 rfl (by assumption) (by first | exact get8 (by omega) | exact get64 (by omega) | exact get32 (by omega)) (by first | exact mem0 | exact mem1 | exact mem2 | exact mem3 | exact mem4 | exact mem5 | exact mem6 | exact mem7 | exact mem8 | exact mem9) rfl ?_
      refine op_move (nxof rfl rfl rfl (by kernel_rfl)) rfl rfl ?_
      refine op_move (nxof rfl rfl rfl (by kernel_rfl)) rfl rfl ?_
      refine op_idx1 (nxof rfl rfl rfl (by kernel_rfl)) se51 rfl rfl (by assumption) (show _ = (((j - 1 : Nat)) : Int) from by omega) (by omega) rfl ?_
      refine op_loadE (nxof rfl rfl rfl (by kernel_rfl)) sc56 rfl (by assumption) (by first | exact get8 (by omega) | exact get64 (by omega) | exact get32 (by omega)) (by first | exact mem0 | exact mem1 | exact mem2 | exact mem3 | exact mem4 | exact mem5 | exact mem6 | exact mem7 | exact mem8 | exact mem9) rfl ?_
      refine op_lss (nxof rfl rfl rfl (by kernel_rfl)) rfl rfl rfl ?_
      refine At.oneNil ?_
      refine At.norm (hk_14 ?_)
      refine At.condP rfl (fun c31 => ?_) (fun c31 => ?_)
      · refine At.seq fun K15 hk_15 => ?_
        refine At.region ?_
        refine op_assign (nxlf rfl) rfl rfl ?_
        refine At.opsNil ?_
        refine At.norm (hk_15 ?_)
        refine At.ret (At.thenRet (At.inRet (At.thenRet (At.thenRet (At.inRet (At.thenRet (?_)))))))
        refine At.ret1 (L1 := []) rfl (.tmp rfl .nil) (.refl _) (.refl _) ?_
        have ⟨e1, e2⟩ := hat (by omega)
        have := lt_of_div (x := x) (y := y) (p := 2 ^ (32 * (j - 1))) (by rw [e1, e2, hd]; omega)
        exact ⟨by rw [cmpI, if_pos this], rfl⟩
      · refine At.skip ?_
        refine At.norm (hk_13 ?_)
        refine At.seq fun K16 hk_16 => ?_
        refine At.drawn [] [0,1,2,3,4,5,6,7,8] (by kernel_rfl) (by kernel_rfl) ?_
        refine op_move (nxof rfl rfl rfl (by kernel_rfl)) rfl rfl ?_
        refine op_move (nxof rfl rfl rfl (by kernel_rfl)) rfl rfl ?_
        refine op_idx1 (nxof rfl rfl rfl (by kernel_rfl)) se51 rfl rfl (by assumption) (show _ = (((j - 1 : Nat)) : Int) from by omega) (by omega) rfl ?_
        refine op_loadE (nxof rfl rfl rfl (by kernel_rfl)) sc56 rfl (by assumption) (by first | exact get8 (by omega) | exact get64 (by omega) | exact get32 (by omega)) (by first | exact mem0 | exact mem1 | exact mem2 | exact mem3 | exact mem4 | exact mem5 | exact mem6 | exact mem7 | exact mem8 | exact mem9) rfl ?_
        refine op_move (nxof rfl rfl rfl (by kernel_rfl)) rfl rfl ?_
        refine op_move (nxof rfl rfl rfl (by kernel_rfl)) rfl rfl ?_
        refine op_idx1 (nxof rfl rfl rfl (by kernel_rfl)) se51 rfl rfl (by assumption) (show _ = (((j - 1 : Nat)) : Int) from by omega) (by omega) rfl ?_
        refine op_loadE (nxof rfl rfl rfl (by kernel_rfl)) sc56 rfl (by assumption) (by first | exact get8 (by omega) | exact get64 (by omega) | exact get32 (by omega)) (by first | exact mem0 | exact mem1 | exact mem2 | exact mem3 | exact mem4 | exact mem5 | exact mem6 | exact mem7 | exact mem8 | exact mem9) rfl ?_
        refine op_gtr (nxof rfl rfl rfl (by kernel_rfl)) rfl rfl rfl ?_
        refine At.oneNil ?_
        refine At.norm (hk_16 ?_)
        refine At.condP rfl (fun c40 => ?_) (fun c40 => ?_)
        · refine At.seq fun K17 hk_17 => ?_
          refine At.region ?_
          refine op_assign (nxlf rfl) rfl rfl ?_
          refine At.opsNil ?_
          refine At.norm (hk_17 ?_)
          refine At.ret (At.inRet (At.thenRet (At.thenRet (At.inRet (At.thenRet (?_))))))
          refine At.ret1 (L1 := []) rfl (.tmp rfl .nil) (.refl _) (.refl _) ?_
          have ⟨e1, e2⟩ := hat (by omega)
          have := lt_of_div (x := y) (y := x) (p := 2 ^ (32 * (j - 1))) (by rw [e1, e2, hd]; omega)
          exact ⟨by rw [cmpI, if_neg (by omega), if_pos this], rfl⟩
        · refine At.skip ?_
          refine At.inNorm ?_
          refine At.norm (hk_12 ?_)
          refine At.region ?_
          refine op_move (nxlf rfl) rfl rfl ?_
          refine op_subI (nxlf rfl) rfl rfl (by omega) (by omega) rfl ?_
          refine op_assign (nxlf rfl) rfl rfl ?_
          refine At.opsNil ?_
          refine At.norm ?_
          refine At.back ?_ (.refl _) ⟨j - 1, rfl, rfl, rfl, by omega, by have ⟨e1, e2⟩ := hat (by omega); rw [e1, e2, hd]; omega⟩ ?_
          · exact .cons (by first | exact lkI rfl (by omega) | rfl) (.cons (by first | exact lkI rfl (by omega) | rfl) (.cons (by first | exact lkI rfl (by omega) | rfl) .nil))
          · omega
    · refine At.exit (At.thenExit (At.thenExit (At.inHit ?_)))
      refine At.norm (hk_8 ?_)
      refine At.seq fun K18 hk_18 => ?_
      refine At.region ?_
      refine op_assign (nxlf rfl) rfl rfl ?_
      refine At.opsNil ?_
      refine At.norm (hk_18 ?_)
      refine At.ret (?_)
      refine At.ret1 (L1 := []) rfl (.tmp rfl .nil) (.refl _) (.refl _) ?_
      obtain rfl : j = 0 := by omega
      simp only [Nat.mul_zero, Nat.pow_zero, Nat.div_one] at hd
      exact ⟨by rw [cmpI, if_neg (by omega), if_neg (by omega)], rfl⟩
end Go.Proofs.YtnpcaplgkmlmoaaGreatDoor
/- package word's From, Bits, Bytes, Short; the reference's N, Short. No condition. -/
namespace Go.Proofs.YtnpcaplgkmlmoaaGreatDoor
set_option linter.unusedVariables false
set_option linter.unusedSimpArgs false
open Go Go.RowKit
theorem WBits_f (a b c d : UInt64) : Fn Tryz.prog 41 #[.agg #[.int .u64 (a.toNat : Int), .int .u64 (b.toNat : Int), .int .u64 (c.toNat : Int), .int .u64 (d.toNat : Int)]] [] [] (fun v L => v = .int .i64 (bitLen (v64 [a, b, c, d]) : Nat) ∧ L = []) := by
  obtain ⟨m, hm⟩ : ∃ m, m = [a, b, c, d] := ⟨_, rfl⟩
  have hm4 : m.length = 4 := by rw [hm]; rfl
  refine Fn.enter (vs := [.agg #[.int .u64 (a.toNat : Int), .int .u64 (b.toNat : Int), .int .u64 (c.toNat : Int), .int .u64 (d.toNat : Int)]]) Tryz.func41 rfl rfl rfl ?_
  intro E R hR
  change At _ _ E [R] _
  refine At.seq fun K1 hk_1 => ?_
  refine At.region ?_
  refine op_box (nxla rfl) rfl rfl rfl (fun N1 b1 B1 => ?_)
  change Blk N1 b1 _ (u64s [a, b, c, d]) at B1
  rw [← hm] at B1 ⊢
  refine op_assign (nxlf rfl) rfl rfl ?_
  refine At.opsNil ?_
  refine At.norm (hk_1 ?_)
  refine At.seq fun K2 hk_2 => ?_
  refine At.seq fun K3 hk_3 => ?_
  refine At.region ?_
  refine op_assign (nxlf rfl) rfl rfl ?_
  refine At.opsNil ?_
  refine At.norm (hk_3 ?_)
  refine At.block ?_
  refine At.loop (fun fr_ hp_ ms_ => ∃ (j : Nat), fr_ = [(1, .pointer (some ⟨b1, 0, none⟩)), (3, .int .i64 ((j : Int) - 1))] ∧ hp_ = [N1, R] ∧ j = ms_ ∧ (j ≤ 4) ∧ (v64 m = v64 (m.take j))) ?_ (.refl _) ⟨4, rfl, rfl, rfl, by omega, by rw [List.take_of_length_le (by omega)]⟩ ?_
  · exact .cons (by first | exact lkI rfl (by omega) | rfl) (.cons (by first | exact lkI rfl (by omega) | rfl) .nil)
  rintro _ _ _ ⟨j, rfl, rfl, rfl, hj, hv⟩
  refine At.seq fun K4 hk_4 => ?_
  refine At.seq fun K5 hk_5 => ?_
  refine At.region ?_
  refine op_move (nxlf rfl) rfl rfl ?_
  refine op_geq (nxlf rfl) rfl rfl rfl ?_
  refine At.opsNil ?_
  refine At.norm (hk_5 ?_)
  refine At.condP rfl (fun c5 => ?_) (fun c5 => ?_)
  · refine At.skip ?_
    refine At.norm (hk_4 ?_)
    refine At.seq fun K6 hk_6 => ?_
    refine At.block ?_
    refine At.seq fun K7 hk_7 => ?_
    refine At.region ?_
    refine op_move (nxlf rfl) rfl rfl ?_
    refine op_idxA (nxlf rfl) ae25 rfl rfl (show _ = (((j - 1 : Nat)) : Int) from by omega) (by omega) rfl ?_
    refine op_loadB (nxlf rfl) sc23 rfl B1 (by first | exact get64A (by omega) | rfl) mem0 rfl ?_
    refine op_neq (nxlf rfl) rfl rfl rfl ?_
    refine At.opsNil ?_
    refine At.norm (hk_7 ?_)
    refine At.condP rfl (fun c11 => ?_) (fun c11 => ?_)
    · refine At.seq fun K8 hk_8 => ?_
      refine At.region ?_
      refine op_move (nxlf rfl) rfl rfl ?_
      refine op_mulI (nxlf rfl) rfl rfl (by omega) (by omega) rfl ?_
      refine op_move (nxlf rfl) rfl rfl ?_
      refine op_idxA (nxlf rfl) ae25 rfl rfl (show _ = (((j - 1 : Nat)) : Int) from by omega) (by omega) rfl ?_
      refine op_loadB (nxlf rfl) sc23 rfl B1 (by first | exact get64A (by omega) | rfl) mem0 rfl ?_
      refine op_callA (nxla rfl) (.cons rfl .nil) (Len64_f (m.getD (j - 1) 0)) Tryz.func68 rfl rfl (by simp) rfl ?_
      rintro v17 L17 ⟨rfl, rfl⟩
      change At _ _ _ [N1, R] _
      have h64 := bitLen_le.2 (m.getD (j - 1) 0).toNat_lt
      refine op_addI (nxlf rfl) rfl rfl (by omega) (by omega) rfl ?_
      refine op_assign (nxlf rfl) rfl rfl ?_
      refine At.opsNil ?_
      refine At.norm (hk_8 ?_)
      refine At.ret (At.inRet (At.thenRet (At.thenRet (At.inRet (At.thenRet (?_))))))
      refine At.sub (L' := [R]) (.cons _ (.cons_cons _ (.slnil))) ?_
      refine At.ret1 (L1 := []) rfl (.tmp rfl .nil) (.refl _) (.refl _) ?_
      exact ⟨by rw [← hm, bits_at (k := j - 1) (by omega) (by omega) (by rw [show j - 1 + 1 = j by omega]; exact hv)]; congr 1; omega, rfl⟩
    · refine At.skip ?_
      refine At.inNorm ?_
      refine At.norm (hk_6 ?_)
      refine At.region ?_
      refine op_move (nxlf rfl) rfl rfl ?_
      refine op_subI (nxlf rfl) rfl rfl (by omega) (by omega) rfl ?_
      refine op_assign (nxlf rfl) rfl rfl ?_
      refine At.opsNil ?_
      refine At.norm ?_
      refine At.back ?_ (.refl _) ⟨j - 1, rfl, rfl, rfl, by omega, v64_take_zero (by omega) (by omega) (by rw [show j - 1 + 1 = j by omega]; exact hv)⟩ ?_
      · exact .cons (by first | exact lkI rfl (by omega) | rfl) (.cons (by first | exact lkI rfl (by omega) | rfl) .nil)
      · omega
  · refine At.exit (At.thenExit (At.thenExit (At.inHit ?_)))
    refine At.norm (hk_2 ?_)
    refine At.seq fun K9 hk_9 => ?_
    refine At.region ?_
    refine op_assign (nxlf rfl) rfl rfl ?_
    refine At.opsNil ?_
    refine At.norm (hk_9 ?_)
    refine At.ret (?_)
    refine At.sub (L' := [R]) (.cons _ (.cons_cons _ (.slnil))) ?_
    refine At.ret1 (L1 := []) rfl (.tmp rfl .nil) (.refl _) (.refl _) ?_
    exact ⟨by rw [← hm, hv, show j = 0 by omega]; rfl, rfl⟩
end Go.Proofs.YtnpcaplgkmlmoaaGreatDoor
/- package word's Bytes, Short; the reference's N, Short. No condition. -/
namespace Go.Proofs.YtnpcaplgkmlmoaaGreatDoor
set_option linter.unusedVariables false
set_option linter.unusedSimpArgs false
open Go Go.RowKit
theorem nbyte {m : List UInt64} {I K : Nat} (hm : m.length = 4) (h1 : 1 ≤ I) (h2 : I ≤ 4) (h3 : 1 ≤ K) (h4 : K ≤ 8) : UInt8.ofNat (shr64 (m.getD (I - 1) 0) (8 * (K - 1))).toNat = UInt8.ofNat (v64 m / 256 ^ (31 - (8 * (4 - I) + (8 - K)))) := by
  have hq : (8 * (I - 1) + (K - 1)) / 8 < m.length := by omega
  have e := byte_of_limb (l := m) (at_ := 8 * (I - 1) + (K - 1)) hq
  have e1 : (8 * (I - 1) + (K - 1)) / 8 = I - 1 := by omega
  have e2 : (8 * (I - 1) + (K - 1)) % 8 * 8 = 8 * (K - 1) := by omega
  simp only [e1, e2] at e
  rw [shr64, UInt64.toNat_ofNat', Nat.mod_eq_of_lt (Nat.lt_of_le_of_lt (Nat.div_le_self _ _) (UInt64.toNat_lt _)), List.getD_eq_getElem?_getD, List.getElem?_eq_getElem (by omega), Option.getD_some, e]
  congr 3
  omega
theorem rN_f (a b c d : UInt64) : Fn Tryz.prog 26 #[.agg #[.int .u64 (a.toNat : Int), .int .u64 (b.toNat : Int), .int .u64 (c.toNat : Int), .int .u64 (d.toNat : Int)]] [] [] (fun v L => ∃ M p k, v = .slice p (digsOf (v64 [a, b, c, d])).length k ∧ L = [M] ∧ RSl M 1 p (digsOf (v64 [a, b, c, d])).length k (u32s (digsOf (v64 [a, b, c, d])))) := by
  obtain ⟨m, hm⟩ : ∃ m, m = [a, b, c, d] := ⟨_, rfl⟩
  have hm4 : m.length = 4 := by rw [hm]; rfl
  have hlt : v64 m < 2 ^ 256 := by rw [hm]; exact v64_four_lt a b c d
  refine Fn.enter (vs := [.agg #[.int .u64 (a.toNat : Int), .int .u64 (b.toNat : Int), .int .u64 (c.toNat : Int), .int .u64 (d.toNat : Int)]]) Tryz.func26 rfl rfl rfl ?_
  intro E R hR
  change At _ _ E [R] _
  refine At.seq fun K1 hk_1 => ?_
  refine At.region ?_
  refine op_box (nxla rfl) rfl rfl rfl (fun N1 b1 B1 => ?_)
  change Blk N1 b1 _ (u64s [a, b, c, d]) at B1
  rw [← hm] at B1 ⊢
  refine op_assign (nxlf rfl) rfl rfl ?_
  refine At.opsNil ?_
  refine At.norm (hk_1 ?_)
  refine At.seq fun K2 hk_2 => ?_
  refine At.region ?_
  refine op_assign (nxlf rfl) rfl rfl ?_
  refine At.opsNil ?_
  refine At.norm (hk_2 ?_)
  refine At.seq fun K3 hk_3 => ?_
  refine At.seq fun K4 hk_4 => ?_
  refine At.region ?_
  refine op_assign (nxlf rfl) rfl rfl ?_
  refine At.opsNil ?_
  refine At.norm (hk_4 ?_)
  refine At.block ?_
  refine At.empty ?_
  refine At.perm sel2 ?_
  refine At.perm sel1 ?_
  refine At.perm sel2 ?_
  refine At.loop (fun fr_ hp_ ms_ => ∃ (I : Nat) (ap : Option Addr) (np cp : Nat) (Np : Heaplet), fr_ = [(1, .pointer (some ⟨b1, 0, none⟩)), (3, .slice ap np cp), (4, .int .i64 ((I : Int) - 1))] ∧ hp_ = [N1, Np, R] ∧ I = ms_ ∧ (I ≤ 4) ∧ (np = 8 * (4 - I)) ∧ (Row Np 5 1 ap np cp (u8s ((bytesN 32 (v64 m)).take (8 * (4 - I)))))) ?_ (.refl _) ⟨4, none, 0, 0, nilH, rfl, rfl, rfl, by omega, by omega, Row.nil _ _ _⟩ ?_
  · exact .cons (by first | exact lkI rfl (by omega) | rfl) (.cons (by first | exact lkI rfl (by omega) | rfl) (.cons (by first | exact lkI rfl (by omega) | rfl) .nil))
  rintro _ _ _ ⟨I, ap, np, cp, Np, rfl, rfl, rfl, hI, hnp, rp⟩
  refine At.seq fun K5 hk_5 => ?_
  refine At.seq fun K6 hk_6 => ?_
  refine At.region ?_
  refine op_move (nxlf rfl) rfl rfl ?_
  refine op_geq (nxlf rfl) rfl rfl rfl ?_
  refine At.opsNil ?_
  refine At.norm (hk_6 ?_)
  refine At.condP rfl (fun c7 => ?_) (fun c7 => ?_)
  · refine At.skip ?_
    refine At.norm (hk_5 ?_)
    refine At.seq fun K7 hk_7 => ?_
    refine At.block ?_
    refine At.seq fun K8 hk_8 => ?_
    refine At.region ?_
    refine op_assign (nxlf rfl) rfl rfl ?_
    refine At.opsNil ?_
    refine At.norm (hk_8 ?_)
    refine At.block ?_
    refine At.loop (fun fr_ hp_ ms_ => ∃ (K : Nat) (aq : Option Addr) (nq cq : Nat) (Nq : Heaplet), fr_ = [(1, .pointer (some ⟨b1, 0, none⟩)), (3, .slice aq nq cq), (4, .int .i64 ((I : Int) - 1)), (5, .int .i64 ((K : Int) - 1))] ∧ hp_ = [N1, Nq, R] ∧ K = ms_ ∧ (K ≤ 8) ∧ (nq = 8 * (4 - I) + (8 - K)) ∧ (Row Nq 5 1 aq nq cq (u8s ((bytesN 32 (v64 m)).take (8 * (4 - I) + (8 - K)))))) ?_ (.refl _) ⟨8, ap, np, cp, Np, rfl, rfl, rfl, by omega, by omega, by rw [Nat.sub_self, Nat.add_zero]; exact rp⟩ ?_
    · exact .cons (by first | exact lkI rfl (by omega) | rfl) (.cons (by first | exact lkI rfl (by omega) | rfl) (.cons (by first | exact lkI rfl (by omega) | rfl) (.cons (by first | exact lkI rfl (by omega) | rfl) .nil)))
    rintro _ _ _ ⟨K, aq, nq, cq, Nq, rfl, rfl, rfl, hK, hnq, rq⟩
    refine At.seq fun K9 hk_9 => ?_
    refine At.seq fun K10 hk_10 => ?_
    refine At.region ?_
    refine op_move (nxlf rfl) rfl rfl ?_
    refine op_geq (nxlf rfl) rfl rfl rfl ?_
    refine At.opsNil ?_
    refine At.norm (hk_10 ?_)
    refine At.condP rfl (fun c11 => ?_) (fun c11 => ?_)
    · refine At.skip ?_
      refine At.norm (hk_9 ?_)
      refine At.seq fun K11 hk_11 => ?_
      refine At.block ?_
      refine At.region ?_
      refine op_move (nxlf rfl) rfl rfl ?_
      refine op_move (nxlf rfl) rfl rfl ?_
      refine op_idxA (nxlf rfl) ae25 rfl rfl (show _ = (((I - 1 : Nat)) : Int) from by omega) (by omega) rfl ?_
      refine op_loadB (nxlf rfl) sc23 rfl B1 (by first | exact get64A (by omega) | rfl) mem0 rfl ?_
      refine op_move (nxlf rfl) rfl rfl ?_
      refine op_mulI (nxlf rfl) rfl rfl (by omega) (by omega) rfl ?_
      refine op_shrU (nxlf rfl) rfl rfl (show _ = (((8 * (K - 1) : Nat)) : Int) from by omega) rfl ?_
      refine op_conv8 (nxlf rfl) (und_some Tryz.underlying23) Tryz.underlying5 rfl (by first | rfl | exact (Int.toNat_of_nonneg (by omega)).symm) rfl ?_
      refine op_lit (nxla rfl) Tryz.underlying22 ze5 sz5 (.cons rfl .nil) rfl rfl (by simp [Value.cells]) rfl rfl rfl (fun N22 a22 r22 => ?_)
      simp only [flatV, List.flatMap_cons, List.flatMap_nil, Value.cells, List.append_nil, List.cons_append, List.nil_append] at r22
      have s22 := r22.rsl
      refine op_append (nxl rfl) Tryz.underlying22 Tryz.underlying22 te5 rfl rfl rq (by assumption) (by first | exact mem0 | exact mem1 | exact mem2 | exact mem3 | exact mem4 | exact mem5 | exact mem6 | exact mem7 | exact mem8 | exact mem9) (by first | exact one_u8s _ | exact one_u64s _ | exact one_u32s _ | (intro u hu; simp at hu; subst hu; rfl)) (by omega) (by omega) sel2 rfl (fun N23 a23 p23 r23 => ?_)
      have s23 := r23.rsl
      refine op_assign (nxlf rfl) rfl rfl ?_
      refine At.opsNil ?_
      refine At.inNorm ?_
      refine At.norm (hk_11 ?_)
      refine At.region ?_
      refine op_move (nxlf rfl) rfl rfl ?_
      refine op_subI (nxlf rfl) rfl rfl (by omega) (by omega) rfl ?_
      refine op_assign (nxlf rfl) rfl rfl ?_
      refine At.opsNil ?_
      refine At.norm ?_
      refine At.sub (L' := [N23, N1, R]) (.cons_cons _ (.cons _ (.cons_cons _ (.cons_cons _ (.slnil))))) ?_
      refine At.perm sel2 ?_
      refine At.perm sel1 ?_
      refine At.perm sel2 ?_
      refine At.back ?_ (.refl _) ⟨K - 1, a23, nq + 1, p23, N23, rfl, rfl, rfl, by omega, by omega, by rw [show 8 * (4 - I) + (8 - (K - 1)) = (8 * (4 - I) + (8 - K)) + 1 by omega, bytesN_take_succ (by omega), u8s, List.map_append, ← nbyte hm4 (by omega) (by omega) (by omega) (by omega)]; exact r23⟩ ?_
      · exact .cons (by first | exact lkI rfl (by omega) | rfl) (.cons (by first | exact lkI rfl (by omega) | rfl) (.cons (by first | exact lkI rfl (by omega) | rfl) (.cons (by first | exact lkI rfl (by omega) | rfl) .nil)))
      · omega
    · refine At.exit (At.thenExit (At.thenExit (At.inHit ?_)))
      refine At.inNorm ?_
      refine At.norm (hk_7 ?_)
      refine At.region ?_
      refine op_move (nxlf rfl) rfl rfl ?_
      refine op_subI (nxlf rfl) rfl rfl (by omega) (by omega) rfl ?_
      refine op_assign (nxlf rfl) rfl rfl ?_
      refine At.opsNil ?_
      refine At.norm ?_
      refine At.back ?_ (.refl _) ⟨I - 1, aq, nq, cq, Nq, rfl, rfl, rfl, by omega, by omega, by rw [show 8 * (4 - (I - 1)) = 8 * (4 - I) + (8 - K) by omega]; exact rq⟩ ?_
      · exact .cons (by first | exact lkI rfl (by omega) | rfl) (.cons (by first | exact lkI rfl (by omega) | rfl) (.cons (by first | exact lkI rfl (by omega) | rfl) .nil))
      · omega
  · refine At.exit (At.thenExit (At.thenExit (At.inHit ?_)))
    refine At.norm (hk_3 ?_)
    refine At.seq fun K12 hk_12 => ?_
    refine At.region ?_
    refine op_move (nxlf rfl) rfl rfl ?_
    have sp : RSl Np 1 ap np cp (u8s (bytesN 32 (v64 m))) := by
      have e := rp.rsl
      rwa [show I = 0 by omega, List.take_of_length_le (by simp)] at e
    refine op_callA (nxla rfl) (.cons rfl .nil) (rFrom_f sp (by omega)) Tryz.func44 rfl rfl (by simp) rfl ?_
    rintro v25 L25 ⟨M25, a25, c25, rfl, rfl, s25⟩
    change At _ _ _ [M25, N1, Np, R] _
    refine op_assign (nxlf rfl) rfl rfl ?_
    refine At.opsNil ?_
    refine At.norm (hk_12 ?_)
    refine At.ret (?_)
    refine At.sub (L' := [M25, R]) (.cons_cons _ (.cons _ (.cons _ (.cons_cons _ (.slnil))))) ?_
    refine At.ret1 (L1 := [M25]) rfl (.tmp rfl .nil) (.refl _) (.refl _) ?_
    rw [be_bytes32 hlt] at s25 ⊢
    rw [← hm]
    exact ⟨M25, a25, c25, rfl, rfl, s25⟩
theorem rShort_f (a b c d : UInt64) : Fn Tryz.prog 21 #[.agg #[.int .u64 (a.toNat : Int), .int .u64 (b.toNat : Int), .int .u64 (c.toNat : Int), .int .u64 (d.toNat : Int)]] [] [] (fun v L => ∃ M p k, v = .slice p (bytesOf (v64 [a, b, c, d])).length k ∧ L = [M] ∧ Row M 5 1 p (bytesOf (v64 [a, b, c, d])).length k (u8s (bytesOf (v64 [a, b, c, d])))) := by
  have hdl : (digsOf (v64 [a, b, c, d])).length ≤ 8 := by
    rw [length_digsOf]
    exact digLen_le.2 (v64_four_lt a b c d)
  refine Fn.enter (vs := [.agg #[.int .u64 (a.toNat : Int), .int .u64 (b.toNat : Int), .int .u64 (c.toNat : Int), .int .u64 (d.toNat : Int)]]) Tryz.func21 rfl rfl rfl ?_
  intro E R hR
  change At _ _ E [R] _
  refine At.seq fun K1 hk_1 => ?_
  refine At.region ?_
  refine op_box (nxla rfl) rfl rfl rfl (fun N1 b1 B1 => ?_)
  refine op_assign (nxlf rfl) rfl rfl ?_
  refine At.opsNil ?_
  refine At.norm (hk_1 ?_)
  refine At.seq fun K2 hk_2 => ?_
  refine At.region ?_
  refine op_loadAggB (ds := [_, _, _, _]) (nxlf rfl) ag25 rfl B1 rfl rfl mem0 rfl ?_
  refine op_callA (nxla rfl) (.cons rfl .nil) (rN_f a b c d) Tryz.func26 rfl rfl (by simp) rfl ?_
  rintro v4 L4 ⟨M4, a4, c4, rfl, rfl, s4⟩
  change At _ _ _ [M4, N1, R] _
  refine op_callA (nxla rfl) (.cons rfl .nil) (Bytes32_f s4 (by omega)) Tryz.func42 rfl rfl (by simp) rfl ?_
  rintro v5 L5 ⟨M5, a5, c5, rfl, rfl, r5⟩
  change At _ _ _ [M5, M4, N1, R] _
  refine op_assign (nxlf rfl) rfl rfl ?_
  refine At.opsNil ?_
  refine At.norm (hk_2 ?_)
  refine At.ret (?_)
  refine At.sub (L' := [M5, R]) (.cons_cons _ (.cons _ (.cons _ (.cons_cons _ (.slnil))))) ?_
  refine At.ret1 (L1 := [M5]) rfl (.tmp rfl .nil) (.refl _) (.refl _) ?_
  rw [v32_digsOf] at r5 ⊢
  exact ⟨M5, a5, c5, rfl, rfl, r5⟩
end Go.Proofs.YtnpcaplgkmlmoaaGreatDoor
/- package word's Bytes, Short. No condition. -/
namespace Go.Proofs.YtnpcaplgkmlmoaaGreatDoor
set_option linter.unusedVariables false
set_option linter.unusedSimpArgs false
open Go Go.RowKit
theorem setL_at (vs : List Value) : ∀ (p cs : List Value), cs.length = vs.length → setL (p ++ cs) p.length vs = p ++ vs := by
  induction vs with
  | nil => intro p cs h; rw [List.eq_nil_of_length_eq_zero h]; rfl
  | cons v t ih =>
    intro p cs h
    match cs, h with
    | c :: cs, h =>
      rw [setL]
      have e : (p ++ c :: cs).set p.length v = (p ++ [v]) ++ cs := by simp
      rw [e]
      have := ih (p ++ [v]) cs (by simpa using h)
      rw [List.length_append] at this
      simpa using this
theorem setL_whole {cs vs : List Value} (h : cs.length = vs.length) : setL cs 0 vs = vs := by simpa using setL_at vs [] cs h
theorem wbyte {m : List UInt64} {k : Nat} (hm : m.length = 4) (h : k < 32) : UInt8.ofNat (shr64 (m.getD ((31 - k) / 8) 0) ((31 - k) % 8 * 8)).toNat = UInt8.ofNat (v64 m / 256 ^ (31 - k)) := by
  have hq : (31 - k) / 8 < m.length := by omega
  rw [shr64, UInt64.toNat_ofNat', Nat.mod_eq_of_lt (Nat.lt_of_le_of_lt (Nat.div_le_self _ _) (UInt64.toNat_lt _)), List.getD_eq_getElem?_getD, List.getElem?_eq_getElem hq, Option.getD_some, byte_of_limb hq]
theorem RSl.arr8 {N : Heaplet} {b lo : Nat} {e : TypeId} {L : List UInt8} (h : Blk N b e (u8s L)) (hl : L.length = 32) (hlo : lo ≤ 32) : RSl N 1 (some (if 32 = lo then ⟨b, 0, none⟩ else ⟨b, 0 + lo * 1, none⟩)) (32 - lo) (32 - lo) (u8s (L.drop lo)) := by
  refine ⟨by simp [u8s]; omega, Nat.le_refl _, Nat.le_trans (by omega : 32 - lo ≤ 32) (by decide), fun h0 => ⟨b, lo, by rw [if_neg (by omega), Nat.zero_add, Nat.mul_one], ?_⟩⟩
  have e := h.rng.sub (o := lo) (ds := u8s (L.drop lo)) fun i hi => by
    rw [List.getElem?_eq_getElem (by simp [u8s] at hi ⊢; omega)]
    simp [u8s]
  rwa [Nat.zero_add] at e
set_option maxRecDepth 100000 in
theorem WBytes_f (a b c d : UInt64) : Fn Tryz.prog 40 #[.agg #[.int .u64 (a.toNat : Int), .int .u64 (b.toNat : Int), .int .u64 (c.toNat : Int), .int .u64 (d.toNat : Int)]] [] [] (fun v L => v = .agg (u8s (bytesN 32 (v64 [a, b, c, d]))).toArray ∧ L = []) := by
  obtain ⟨m, hm⟩ : ∃ m, m = [a, b, c, d] := ⟨_, rfl⟩
  have hm4 : m.length = 4 := by rw [hm]; rfl
  refine Fn.enter (vs := [.agg #[.int .u64 (a.toNat : Int), .int .u64 (b.toNat : Int), .int .u64 (c.toNat : Int), .int .u64 (d.toNat : Int)]]) Tryz.func40 rfl rfl rfl ?_
  intro E R hR
  change At _ _ E [R] _
  refine At.seq fun K1 hk_1 => ?_
  refine At.region ?_
  refine op_box (nxla rfl) rfl rfl rfl (fun N1 b1 B1 => ?_)
  change Blk N1 b1 _ (u64s [a, b, c, d]) at B1
  rw [← hm] at B1 ⊢
  refine op_alloc (nxla rfl) ze57 rfl (fun N2 b2 B2 => ?_)
  change Blk N2 b2 _ [.int .u8 0, .int .u8 0, .int .u8 0, .int .u8 0, .int .u8 0, .int .u8 0, .int .u8 0, .int .u8 0, .int .u8 0, .int .u8 0, .int .u8 0, .int .u8 0, .int .u8 0, .int .u8 0, .int .u8 0, .int .u8 0, .int .u8 0, .int .u8 0, .int .u8 0, .int .u8 0, .int .u8 0, .int .u8 0, .int .u8 0, .int .u8 0, .int .u8 0, .int .u8 0, .int .u8 0, .int .u8 0, .int .u8 0, .int .u8 0, .int .u8 0, .int .u8 0] at B2
  refine At.opsNil ?_
  refine At.norm (hk_1 ?_)
  refine At.seq fun K2 hk_2 => ?_
  refine At.region ?_
  refine op_alloc (nxla rfl) ze57 rfl (fun N3 b3 B3 => ?_)
  change Blk N3 b3 _ [.int .u8 0, .int .u8 0, .int .u8 0, .int .u8 0, .int .u8 0, .int .u8 0, .int .u8 0, .int .u8 0, .int .u8 0, .int .u8 0, .int .u8 0, .int .u8 0, .int .u8 0, .int .u8 0, .int .u8 0, .int .u8 0, .int .u8 0, .int .u8 0, .int .u8 0, .int .u8 0, .int .u8 0, .int .u8 0, .int .u8 0, .int .u8 0, .int .u8 0, .int .u8 0, .int .u8 0, .int .u8 0, .int .u8 0, .int .u8 0, .int .u8 0, .int .u8 0] at B3
  change Blk N3 b3 _ (u8s (List.replicate 32 0)) at B3
  rw [← bytesSt_zero 32 (v64 m)] at B3
  refine At.opsNil ?_
  refine At.norm (hk_2 ?_)
  refine At.seq fun K3 hk_3 => ?_
  refine At.seq fun K4 hk_4 => ?_
  refine At.region ?_
  refine op_move (nxlf rfl) rfl rfl ?_
  refine At.opsNil ?_
  refine At.norm (hk_4 ?_)
  refine At.block ?_
  refine At.perm sel3 ?_
  refine At.perm sel1 ?_
  refine At.perm sel2 ?_
  refine At.perm sel3 ?_
  refine At.loop (fun fr_ hp_ ms_ => ∃ (k : Nat) (N3 : Heaplet), fr_ = [(1, .pointer (some ⟨b1, 0, none⟩)), (2, .pointer (some ⟨b2, 0, none⟩)), (3, .pointer (some ⟨b3, 0, none⟩)), (6, .int .i64 (k : Int))] ∧ hp_ = [N1, N2, N3, R] ∧ 32 - k = ms_ ∧ (k ≤ 32) ∧ (Blk N3 b3 57 (u8s (bytesSt 32 (v64 m) k)))) ?_ (.refl _) ⟨0, N3, rfl, rfl, rfl, by omega, B3⟩ ?_
  · exact .cons (by first | exact lkI rfl (by omega) | rfl) (.cons (by first | exact lkI rfl (by omega) | rfl) (.cons (by first | exact lkI rfl (by omega) | rfl) (.cons (by first | exact lkI rfl (by omega) | rfl) .nil)))
  rintro _ _ _ ⟨k, N3, rfl, rfl, rfl, hk, B3⟩
  have hbl := length_bytesSt (m := 32) (N := v64 m) hk
  refine At.seq fun K5 hk_5 => ?_
  refine At.region ?_
  refine op_lss (nxlf rfl) rfl rfl rfl ?_
  refine At.opsNil ?_
  refine At.norm (hk_5 ?_)
  refine At.seq fun K6 hk_6 => ?_
  refine At.condP rfl (fun c7 => ?_) (fun c7 => ?_)
  · refine At.skip ?_
    refine At.norm (hk_6 ?_)
    refine At.seq fun K7 hk_7 => ?_
    refine At.block ?_
    refine At.seq fun K8 hk_8 => ?_
    refine At.region ?_
    refine op_move (nxlf rfl) rfl rfl ?_
    refine op_assign (nxlf rfl) rfl rfl ?_
    refine At.opsNil ?_
    refine At.norm (hk_8 ?_)
    refine At.seq fun K9 hk_9 => ?_
    refine At.region ?_
    refine op_move (nxlf rfl) rfl rfl ?_
    refine op_subI (nxlf rfl) rfl rfl (by omega) (by omega) rfl ?_
    refine op_assign (nxlf rfl) rfl rfl ?_
    refine At.opsNil ?_
    refine At.norm (hk_9 ?_)
    refine At.region ?_
    refine op_move (nxlf rfl) rfl rfl ?_
    refine op_move (nxlf rfl) rfl rfl ?_
    refine op_quoI (nxlf rfl) rfl rfl (by omega) (by omega) (by omega) rfl ?_
    refine op_idxA (nxlf rfl) ae25 rfl rfl (show _ = ((((31 - k) / 8 : Nat)) : Int) from by omega) (by omega) rfl ?_
    refine op_loadB (nxlf rfl) sc23 rfl B1 (by first | exact get64A (by omega) | rfl) mem0 rfl ?_
    refine op_move (nxlf rfl) rfl rfl ?_
    refine op_rem (nxlf rfl) rfl rfl (by omega) (by omega) rfl ?_
    refine op_mulI (nxlf rfl) rfl rfl (by omega) (by omega) rfl ?_
    refine op_shrU (nxlf rfl) rfl rfl (show _ = ((((31 - k) % 8 * 8 : Nat)) : Int) from by omega) rfl ?_
    refine op_conv8 (nxlf rfl) (und_some Tryz.underlying23) Tryz.underlying5 rfl (by first | rfl | exact (Int.toNat_of_nonneg (by omega)).symm) rfl ?_
    refine op_idxA (nxlf rfl) ae57 rfl rfl (show _ = (((k : Nat)) : Int) from by omega) (by omega) rfl ?_
    refine op_store (nxl rfl) sz5 rfl rfl rfl rfl rfl B3 (by simp <;> omega) sel2 (fun N3 B3 => ?_)
    rw [set8A] at B3
    refine At.opsNil ?_
    refine At.inNorm ?_
    refine At.norm (hk_7 ?_)
    refine At.region ?_
    refine op_addI (nxlf rfl) rfl rfl (by omega) (by omega) rfl ?_
    refine op_move (nxlf rfl) rfl rfl ?_
    refine At.opsNil ?_
    refine At.norm ?_
    refine At.perm sel3 ?_
    refine At.perm sel1 ?_
    refine At.perm sel3 ?_
    refine At.perm sel3 ?_
    refine At.back ?_ (.refl _) ⟨k + 1, N3, rfl, rfl, rfl, by omega, by rw [bytesSt_succ (by omega), show 32 - 1 - k = 31 - k by omega, ← wbyte hm4 (by omega)]; exact B3⟩ ?_
    · exact .cons (by first | exact lkI rfl (by omega) | rfl) (.cons (by first | exact lkI rfl (by omega) | rfl) (.cons (by first | exact lkI rfl (by omega) | rfl) (.cons (by first | exact lkI rfl (by omega) | rfl) .nil)))
    · omega
  · refine At.exit (At.thenExit (At.thenExit (At.inHit ?_)))
    refine At.norm (hk_3 ?_)
    refine At.seq fun K10 hk_10 => ?_
    refine At.region ?_
    have hk32 : k = 32 := by omega
    rw [hk32, bytesSt_all] at B3
    refine op_loadAggB (ds := u8s (bytesN 32 (v64 m))) (nxlf rfl) ag57 rfl B3 (by first | (rw [List.drop_zero, List.take_of_length_le (by first | (simp; done) | (simp; omega))]; done) | rfl) (by first | (simp; done) | (simp; omega)) mem2 rfl ?_
    refine op_store (nxl rfl) sz57 rfl rfl rfl rfl rfl B2 (by simp) sel1 (fun N2 B2 => ?_)
    rw [setL_whole (by simp)] at B2
    refine At.opsNil ?_
    refine At.norm (hk_10 ?_)
    refine At.ret (?_)
    refine At.sub (L' := [N2, R]) (.cons_cons _ (.cons _ (.cons _ (.cons_cons _ (.slnil))))) ?_
    refine At.ret1 (L1 := []) rfl (.cell rfl (res_agg (ds := u8s (bytesN 32 (v64 m))) ag57 B2 (by first | (rw [List.drop_zero, List.take_of_length_le (by first | (simp; done) | (simp; omega))]; done) | rfl) (by first | (simp; done) | (simp; omega)) mem0) .nil) (.cons _ (.refl _)) (.refl _) ?_
    exact ⟨by rw [← hm], rfl⟩
set_option maxRecDepth 100000 in
theorem WShort_f (a b c d : UInt64) : Fn Tryz.prog 20 #[.agg #[.int .u64 (a.toNat : Int), .int .u64 (b.toNat : Int), .int .u64 (c.toNat : Int), .int .u64 (d.toNat : Int)]] [] [] (fun v L => ∃ M p k, v = .slice p (bytesOf (v64 [a, b, c, d])).length k ∧ L = [M] ∧ Row M 5 1 p (bytesOf (v64 [a, b, c, d])).length k (u8s (bytesOf (v64 [a, b, c, d])))) := by
  have hlt := v64_four_lt a b c d
  have hbl := bitLen_le.2 hlt
  have hlen := length_bytesOf (v64 [a, b, c, d])
  have hdr := bytes_drop32 hlt
  refine Fn.enter (vs := [.agg #[.int .u64 (a.toNat : Int), .int .u64 (b.toNat : Int), .int .u64 (c.toNat : Int), .int .u64 (d.toNat : Int)]]) Tryz.func20 rfl rfl rfl ?_
  intro E R hR
  change At _ _ E [R] _
  refine At.seq fun K1 hk_1 => ?_
  refine At.region ?_
  refine op_box (nxla rfl) rfl rfl rfl (fun N1 b1 B1 => ?_)
  refine op_assign (nxlf rfl) rfl rfl ?_
  refine At.opsNil ?_
  refine At.norm (hk_1 ?_)
  refine At.seq fun K2 hk_2 => ?_
  refine At.region ?_
  refine op_loadAggB (ds := [_, _, _, _]) (nxlf rfl) ag25 rfl B1 rfl rfl mem0 rfl ?_
  refine op_callA (nxla rfl) (.cons rfl .nil) (WBytes_f a b c d) Tryz.func40 rfl rfl (by simp) rfl ?_
  rintro v6 L6 ⟨rfl, rfl⟩
  change At _ _ _ [N1, R] _
  refine op_alloc (nxla rfl) ze57 rfl (fun N3 b3 B3 => ?_)
  change Blk N3 b3 _ [.int .u8 0, .int .u8 0, .int .u8 0, .int .u8 0, .int .u8 0, .int .u8 0, .int .u8 0, .int .u8 0, .int .u8 0, .int .u8 0, .int .u8 0, .int .u8 0, .int .u8 0, .int .u8 0, .int .u8 0, .int .u8 0, .int .u8 0, .int .u8 0, .int .u8 0, .int .u8 0, .int .u8 0, .int .u8 0, .int .u8 0, .int .u8 0, .int .u8 0, .int .u8 0, .int .u8 0, .int .u8 0, .int .u8 0, .int .u8 0, .int .u8 0, .int .u8 0] at B3
  refine op_store (nxl rfl) sz57 rfl rfl rfl rfl rfl B3 (by simp) sel0 (fun N3 B3 => ?_)
  rw [setL_whole (by simp)] at B3
  refine At.opsNil ?_
  refine At.norm (hk_2 ?_)
  refine At.seq fun K3 hk_3 => ?_
  refine At.region ?_
  refine op_loadAggB (ds := [_, _, _, _]) (nxlf rfl) ag25 rfl B1 rfl rfl mem1 rfl ?_
  refine op_callA (nxla rfl) (.cons rfl .nil) (WBits_f a b c d) Tryz.func41 rfl rfl (by simp) rfl ?_
  rintro v8 L8 ⟨rfl, rfl⟩
  change At _ _ _ [N3, N1, R] _
  refine op_addI (nxlf rfl) rfl rfl (by omega) (by omega) rfl ?_
  refine op_quoI (nxlf rfl) rfl rfl (by omega) (by omega) (by omega) rfl ?_
  refine op_assign (nxlf rfl) rfl rfl ?_
  refine At.opsNil ?_
  refine At.norm (hk_3 ?_)
  refine At.seq fun K4 hk_4 => ?_
  refine At.region ?_
  refine op_move (nxlf rfl) rfl rfl ?_
  refine op_subI (nxlf rfl) rfl rfl (by omega) (by omega) rfl ?_
  refine op_sliceA (nxlf rfl) ae57 rfl (.some rfl (show _ = (((32 - (bitLen (v64 [a, b, c, d]) + 7) / 8 : Nat)) : Int) from by omega)) .none .none (by omega) (by omega) (by omega) (by simp) rfl ?_
  have s13 := RSl.arr8 B3 (by simp) (show 32 - (bitLen (v64 [a, b, c, d]) + 7) / 8 ≤ 32 by omega)
  rw [hdr] at s13
  refine op_append0 (nxla rfl) Tryz.underlying22 Tryz.underlying22 te5 rfl rfl (by assumption) (by first | exact mem0 | exact mem1 | exact mem2 | exact mem3 | exact mem4 | exact mem5 | exact mem6 | exact mem7 | exact mem8 | exact mem9) (by first | exact one_u8s _ | exact one_u64s _ | exact one_u32s _ | (intro u hu; simp at hu; subst hu; rfl)) (by omega) (by omega) rfl (fun N14 a14 p14 r14 => ?_)
  have s14 := r14.rsl
  refine op_assign (nxlf rfl) rfl rfl ?_
  refine At.opsNil ?_
  refine At.norm (hk_4 ?_)
  refine At.ret (?_)
  refine At.sub (L' := [N14, R]) (.cons_cons _ (.cons _ (.cons _ (.cons_cons _ (.slnil))))) ?_
  refine At.ret1 (L1 := [N14]) rfl (.tmp rfl .nil) (.refl _) (.refl _) ?_
  rw [show 32 - (32 - (bitLen (v64 [a, b, c, d]) + 7) / 8) = (bytesOf (v64 [a, b, c, d])).length by omega] at r14 ⊢
  exact ⟨N14, a14, p14, rfl, rfl, r14⟩
end Go.Proofs.YtnpcaplgkmlmoaaGreatDoor
/- Plain laws: words. No condition. -/
namespace Go.Proofs.YtnpcaplgkmlmoaaGreatDoor
set_option linter.unusedVariables false
set_option linter.unusedSimpArgs false
open Go Go.RowKit
/-- How many words there are. -/
def WW : Nat := 2 ^ 256
theorem WW_eq : WW = 2 ^ (64 * 4) := rfl
theorem WW_pos : 0 < WW := Nat.pow_pos (by decide)
/-- The word of a number modulo 2^256, as limbs and as a value. -/
def wl (x : Nat) : List UInt64 := limbsN 4 x
def wo (x : Nat) : Value := .agg (u64s (wl x)).toArray
@[simp] theorem length_wl (x : Nat) : (wl x).length = 4 := rfl
theorem v64_wl (x : Nat) : v64 (wl x) = x % WW := v64_limbsN 4 x
theorem v64_wl_lt {x : Nat} (h : x < WW) : v64 (wl x) = x := by rw [v64_wl, Nat.mod_eq_of_lt h]
theorem v64_lt4 {w : List UInt64} (h : w.length = 4) : v64 w < WW := by have := v64_lt w; rwa [h] at this
theorem wl_of {w : List UInt64} {N : Nat} (hw : w.length = 4) (h : v64 w = N % WW) : w = wl N := eq_words4 hw rfl (h.trans (v64_wl N).symm)
theorem wl_self {w : List UInt64} (hw : w.length = 4) : w = wl (v64 w) := wl_of hw (Nat.mod_eq_of_lt (v64_lt4 hw)).symm
theorem wl_mod (x : Nat) : wl (x % WW) = wl x := wl_of (w := wl (x % WW)) rfl (by rw [v64_wl, Nat.mod_mod])
theorem wl_inj {x y : Nat} (hx : x < WW) (hy : y < WW) (h : wl x = wl y) : x = y := by
  have := congrArg v64 h
  rwa [v64_wl_lt hx, v64_wl_lt hy] at this
theorem wl_congr {x y : Nat} (h : x % WW = y % WW) : wl x = wl y := by rw [← wl_mod x, h, wl_mod]
theorem wo_mod (x : Nat) : wo (x % WW) = wo x := by rw [wo, wl_mod]; rfl
theorem wo_congr {x y : Nat} (h : x % WW = y % WW) : wo x = wo y := by rw [wo, wl_congr h]; rfl
theorem wo_list {w : List UInt64} (hw : w.length = 4) : Value.agg (u64s w).toArray = wo (v64 w) := by rw [wo, ← wl_self hw]
theorem wl_small (n : UInt64) : wl n.toNat = [n, 0, 0, 0] := by
  have h := n.toNat_lt
  refine (wl_of rfl ?_).symm
  have e : v64 [n, 0, 0, 0] = n.toNat := by simp [v64, n64, val]
  rw [e]
  exact (Nat.mod_eq_of_lt (Nat.lt_trans h (Nat.pow_lt_pow_right (by decide) (by decide)))).symm
theorem wl_zero : wl 0 = [0, 0, 0, 0] := wl_small 0
theorem wo_zero : wo 0 = .agg #[.int .u64 0, .int .u64 0, .int .u64 0, .int .u64 0] := by rw [wo, wl_zero]; rfl
theorem wo_small (n : UInt64) : wo n.toNat = .agg #[.int .u64 (n.toNat : Int), .int .u64 0, .int .u64 0, .int .u64 0] := by rw [wo, wl_small]; rfl
/-- The limbs behind the first are naught just for small numbers. -/
theorem small_iff {x : Nat} (hx : x < WW) : (wl x).getD 1 0 ||| (wl x).getD 2 0 ||| (wl x).getD 3 0 = 0 ↔ x < 2 ^ 64 := by
  have hv := v64_wl_lt hx
  obtain ⟨a, b, c, d, h⟩ := four (length_wl x)
  rw [h] at hv ⊢
  have e : v64 [a, b, c, d] = a.toNat + 18446744073709551616 * (b.toNat + 18446744073709551616 * (c.toNat + 18446744073709551616 * d.toNat)) := by simp [v64, n64, val]
  rw [e] at hv
  have ha := a.toNat_lt
  show b ||| c ||| d = 0 ↔ x < 2 ^ 64
  constructor
  · intro h0
    have h1 := congrArg UInt64.toNat h0
    rw [UInt64.toNat_or, UInt64.toNat_or] at h1
    have h2 : (b.toNat ||| c.toNat) = 0 ∧ d.toNat = 0 := Nat.or_eq_zero_iff.1 h1
    have h3 : b.toNat = 0 ∧ c.toNat = 0 := Nat.or_eq_zero_iff.1 h2.1
    rw [h2.2, h3.1, h3.2] at hv
    omega
  · intro h0
    have h1 : b.toNat = 0 ∧ c.toNat = 0 ∧ d.toNat = 0 := by omega
    apply UInt64.toNat_inj.1
    rw [UInt64.toNat_or, UInt64.toNat_or, h1.1, h1.2.1, h1.2.2]; rfl
theorem small_val {x : Nat} (h : x < 2 ^ 64) : ((wl x).getD 0 0).toNat = x := by
  have e : wl x = [UInt64.ofNat x, 0, 0, 0] := by
    have := wl_small (UInt64.ofNat x)
    rwa [UInt64.toNat_ofNat', Nat.mod_eq_of_lt h] at this
  rw [e]
  show (UInt64.ofNat x).toNat = x
  rw [UInt64.toNat_ofNat', Nat.mod_eq_of_lt h]
end Go.Proofs.YtnpcaplgkmlmoaaGreatDoor
/- Package word: Of, Small, sums, differences, products. No condition. -/
namespace Go.Proofs.YtnpcaplgkmlmoaaGreatDoor
set_option linter.unusedVariables false
set_option linter.unusedSimpArgs false
open Go Go.RowKit
theorem arr_part {N : Heaplet} {b lo hi c : Nat} {e : TypeId} {L : List UInt64} (h : Blk N b e (u64s L)) (hl : lo ≤ hi) (hh : hi ≤ L.length) (hc : hi - lo ≤ c) (hm : c ≤ 9223372036854775807) : RSl N 1 (some ⟨b, 0 + lo * 1, none⟩) (hi - lo) c (u64s ((L.drop lo).take (hi - lo))) := by
  refine ⟨by simp [u64s]; omega, hc, hm, fun h0 => ⟨b, lo, by rw [Nat.zero_add, Nat.mul_one], ?_⟩⟩
  have e := h.rng.sub (o := lo) (ds := u64s ((L.drop lo).take (hi - lo))) fun i hi' => by
    rw [List.getElem?_eq_getElem (by simp [u64s] at hi' ⊢; omega)]
    simp [u64s]
  rwa [Nat.zero_add] at e
theorem copy_all {zs : List Value} {l : List UInt64} {o k : Nat} (ho : o = 0) (hl : l.length ≤ k) (hz : zs.length ≤ k) : zs.take o ++ (u64s l).take k ++ zs.drop (o + k) = u64s l := by
  subst ho
  rw [List.take_zero, List.nil_append, List.take_of_length_le (by simpa using hl), List.drop_of_length_le (by omega), List.append_nil]
theorem WOf_f (n : UInt64) : Fn Tryz.prog 22 #[.int .u64 (n.toNat : Int)] [] [] (fun v L => v = wo n.toNat ∧ L = []) := by
  refine Fn.enter (vs := [.int .u64 (n.toNat : Int)]) Tryz.func22 rfl rfl rfl ?_
  intro E R hR
  change At _ _ E [R] _
  refine At.seq fun K1 hk_1 => ?_
  refine At.region ?_
  refine op_alloc (nxla rfl) ze25 rfl (fun N2 b2 B2 => ?_)
  change Blk N2 b2 _ [.int .u64 0, .int .u64 0, .int .u64 0, .int .u64 0] at B2
  refine At.opsNil ?_
  refine At.norm (hk_1 ?_)
  refine At.seq fun K2 hk_2 => ?_
  refine At.region ?_
  refine op_move (nxlf rfl) rfl rfl ?_
  refine op_buildA (out := [_, .int .u64 0, .int .u64 0, .int .u64 0]) (nxlf rfl) ze25 ae25 (.cons rfl .nil) rfl rfl ?_
  refine op_store (nxl rfl) sz25 rfl rfl rfl rfl rfl B2 (by simp) sel0 (fun N2 B2 => ?_)
  simp only [setL, List.set] at B2
  refine At.opsNil ?_
  refine At.norm (hk_2 ?_)
  refine At.ret (?_)
  refine At.ret1 (L1 := []) rfl (.cell rfl (res_agg (ds := [_, _, _, _]) ag25 B2 rfl rfl mem0) .nil) (.cons _ (.refl _)) (.refl _) ?_
  exact ⟨(wo_small n).symm, rfl⟩
theorem WSmall_no {x : Nat} (hx : x < WW) (h : ¬ x < 2 ^ 64) : Fn Tryz.prog 23 #[wo x] [] [] (fun v L => v = .tuple #[.int .u64 0, .bool false] ∧ L = []) := by
  have hl := length_wl x
  have hs := small_iff hx
  refine Fn.enter (vs := [wo x]) Tryz.func23 rfl rfl rfl ?_
  intro E R hR
  change At _ _ E [R] _
  refine At.seq fun K1 hk_1 => ?_
  refine At.region ?_
  refine op_box (nxla rfl) rfl rfl rfl (fun N1 b1 B1 => ?_)
  change Blk N1 b1 _ (u64s (wl x)) at B1
  refine op_assign (nxlf rfl) rfl rfl ?_
  refine op_assign (nxlf rfl) rfl rfl ?_
  refine At.opsNil ?_
  refine At.norm (hk_1 ?_)
  refine At.seq fun K2 hk_2 => ?_
  refine At.seq fun K3 hk_3 => ?_
  refine At.region ?_
  refine op_idxA (nxlf rfl) ae25 rfl rfl (show _ = ((1 : Nat) : Int) from rfl) (by omega) rfl ?_
  refine op_loadB (nxlf rfl) sc23 rfl B1 (by first | exact get64A (by omega) | rfl) mem0 rfl ?_
  refine op_idxA (nxlf rfl) ae25 rfl rfl (show _ = ((2 : Nat) : Int) from rfl) (by omega) rfl ?_
  refine op_loadB (nxlf rfl) sc23 rfl B1 (by first | exact get64A (by omega) | rfl) mem0 rfl ?_
  refine op_orU (nxlf rfl) rfl rfl rfl ?_
  refine op_idxA (nxlf rfl) ae25 rfl rfl (show _ = ((3 : Nat) : Int) from rfl) (by omega) rfl ?_
  refine op_loadB (nxlf rfl) sc23 rfl B1 (by first | exact get64A (by omega) | rfl) mem0 rfl ?_
  refine op_orU (nxlf rfl) rfl rfl rfl ?_
  refine op_neq (nxlf rfl) rfl rfl rfl ?_
  refine At.opsNil ?_
  refine At.norm (hk_3 ?_)
  refine At.condP rfl (fun c12 => ?_) (fun c12 => ?_)
  · refine At.seq fun K4 hk_4 => ?_
    refine At.region ?_
    refine op_assign (nxlf rfl) rfl rfl ?_
    refine op_assign (nxlf rfl) rfl rfl ?_
    refine At.opsNil ?_
    refine At.norm (hk_4 ?_)
    refine At.ret (At.thenRet (?_))
    refine At.sub (L' := [R]) (.cons _ (.cons_cons _ (.slnil))) ?_
    refine At.retN (L1 := []) rfl (.tmp rfl (.tmp rfl .nil)) rfl (.refl _) (.refl _) ?_
    exact ⟨rfl, rfl⟩
  · exact absurd (hs.1 (by apply UInt64.toNat_inj.1; show _ = 0; omega)) h
theorem WSmall_f {x : Nat} (hx : x < WW) (h : x < 2 ^ 64) : Fn Tryz.prog 23 #[wo x] [] [] (fun v L => v = .tuple #[.int .u64 (x : Int), .bool true] ∧ L = []) := by
  have hl := length_wl x
  have hs := (small_iff hx).2 h
  have hv := small_val h
  refine Fn.enter (vs := [wo x]) Tryz.func23 rfl rfl rfl ?_
  intro E R hR
  change At _ _ E [R] _
  refine At.seq fun K1 hk_1 => ?_
  refine At.region ?_
  refine op_box (nxla rfl) rfl rfl rfl (fun N1 b1 B1 => ?_)
  change Blk N1 b1 _ (u64s (wl x)) at B1
  refine op_assign (nxlf rfl) rfl rfl ?_
  refine op_assign (nxlf rfl) rfl rfl ?_
  refine At.opsNil ?_
  refine At.norm (hk_1 ?_)
  refine At.seq fun K2 hk_2 => ?_
  refine At.seq fun K3 hk_3 => ?_
  refine At.region ?_
  refine op_idxA (nxlf rfl) ae25 rfl rfl (show _ = ((1 : Nat) : Int) from rfl) (by omega) rfl ?_
  refine op_loadB (nxlf rfl) sc23 rfl B1 (by first | exact get64A (by omega) | rfl) mem0 rfl ?_
  refine op_idxA (nxlf rfl) ae25 rfl rfl (show _ = ((2 : Nat) : Int) from rfl) (by omega) rfl ?_
  refine op_loadB (nxlf rfl) sc23 rfl B1 (by first | exact get64A (by omega) | rfl) mem0 rfl ?_
  refine op_orU (nxlf rfl) rfl rfl rfl ?_
  refine op_idxA (nxlf rfl) ae25 rfl rfl (show _ = ((3 : Nat) : Int) from rfl) (by omega) rfl ?_
  refine op_loadB (nxlf rfl) sc23 rfl B1 (by first | exact get64A (by omega) | rfl) mem0 rfl ?_
  refine op_orU (nxlf rfl) rfl rfl rfl ?_
  refine op_neq (nxlf rfl) rfl rfl rfl ?_
  refine At.opsNil ?_
  refine At.norm (hk_3 ?_)
  refine At.condP rfl (fun c12 => ?_) (fun c12 => ?_)
  · exfalso; apply c12; rw [hs]; rfl
  · refine At.skip ?_
    refine At.norm (hk_2 ?_)
    refine At.seq fun K4 hk_4 => ?_
    refine At.region ?_
    refine op_idxA (nxlf rfl) ae25 rfl rfl (show _ = ((0 : Nat) : Int) from rfl) (by omega) rfl ?_
    refine op_loadB (nxlf rfl) sc23 rfl B1 (by first | exact get64A (by omega) | rfl) mem0 rfl ?_
    rw [hv]
    refine op_assign (nxlf rfl) rfl rfl ?_
    refine op_assign (nxlf rfl) rfl rfl ?_
    refine At.opsNil ?_
    refine At.norm (hk_4 ?_)
    refine At.ret (?_)
    refine At.sub (L' := [R]) (.cons _ (.cons_cons _ (.slnil))) ?_
    refine At.retN (L1 := []) rfl (.tmp rfl (.tmp rfl .nil)) rfl (.refl _) (.refl _) ?_
    exact ⟨rfl, rfl⟩
end Go.Proofs.YtnpcaplgkmlmoaaGreatDoor
