/- quarryref05's head, Depth, form, Encode: the document's forms of items. No condition but that the form is not longer than a machine holds. -/
import Derived.Test.YtohmmgggaegbbaaYT4
import Derived.Test.YtohmmgggaegbbaaYE4
namespace Go.Proofs.Ytohmmgggaegbbaa
set_option linter.unusedVariables false
set_option linter.unusedSimpArgs false
open Go Go.RowKit
theorem rhead_f (b n : Nat) (hb : b ≤ 192) (hn : n ≤ 1099511627776) :
    Fn Try.prog 51 #[.int .i64 (b : Int), .int .i64 (n : Int)] [] [] (fun v L => ∃ M a cap, v = .slice a (rlpHead b n).length cap ∧ L = [M] ∧ Row M 5 1 a (rlpHead b n).length cap (u8s (rlpHead b n))) := by
  have h8 := bytesOf_le (n := n) (k := 8) (by omega)
  have hn64 : (UInt64.ofNat n).toNat = n := by rw [UInt64.toNat_ofNat']; exact Nat.mod_eq_of_lt (by omega)
  refine Fn.enter (vs := [.int .i64 (b : Int), .int .i64 (n : Int)]) Try.func51 rfl rfl rfl ?_
  intro E R hR
  change At _ _ E [R] _
  refine At.seq fun K1 hk_1 => ?_
  refine At.region ?_
  refine op_assign (nxlf rfl) rfl rfl ?_
  refine At.opsNil ?_
  refine At.norm (hk_1 ?_)
  refine At.seq fun K2 hk_2 => ?_
  refine At.seq fun K3 hk_3 => ?_
  refine At.region ?_
  refine op_move (nxlf rfl) rfl rfl ?_
  refine op_leq (nxlf rfl) rfl rfl rfl ?_
  refine At.opsNil ?_
  refine At.norm (hk_3 ?_)
  refine At.condP rfl (fun c7 => ?_) (fun c7 => ?_)
  · refine At.seq fun K4 hk_4 => ?_
    refine At.region ?_
    refine op_move (nxlf rfl) rfl rfl ?_
    refine op_move (nxlf rfl) rfl rfl ?_
    refine op_addI (nxlf rfl) rfl rfl (by omega) (by omega) rfl ?_
    refine op_conv8 (nxlf rfl) (und_some Try.underlying3) Try.underlying5 rfl (show _ = (((b + n : Nat)) : Int) from by omega) rfl ?_
    refine op_lit (nxla rfl) Try.underlying22 ze5 sz5 (.cons rfl .nil) rfl rfl (by simp [Value.cells]) rfl rfl rfl (fun N12 a12 r12 => ?_)
    simp only [flatV, List.flatMap_cons, List.flatMap_nil, Value.cells, List.append_nil, List.cons_append, List.nil_append] at r12
    have s12 := r12.rsl
    refine op_assign (nxlf rfl) rfl rfl ?_
    refine At.opsNil ?_
    refine At.norm (hk_4 ?_)
    refine At.ret (At.thenRet (?_))
    refine At.ret1 (L1 := [N12]) rfl (.tmp rfl .nil) (.refl _) (.refl _) ?_
    have e : rlpHead b n = [UInt8.ofNat (b + n)] := by rw [rlpHead, if_pos (by omega)]
    rw [e]
    exact ⟨N12, a12, 1, rfl, rfl, r12⟩
  · refine At.skip ?_
    refine At.norm (hk_2 ?_)
    refine At.seq fun K5 hk_5 => ?_
    refine At.region ?_
    refine op_move (nxlf rfl) rfl rfl ?_
    refine op_conv64 (nxlf rfl) (und_some Try.underlying3) Try.underlying64 rfl (show _ = (((n : Nat)) : Int) from by omega) rfl ?_
    refine op_callA (nxla rfl) (.cons rfl .nil) (Of32_f (UInt64.ofNat n)) Try.func42 rfl rfl (by simp) rfl ?_
    rintro v15 L15 ⟨M15, a15, p15, rfl, rfl, s15⟩
    change At _ _ _ [M15, R] _
    have hl15 := s15.len32
    have hdl : (digsOf (UInt64.ofNat n).toNat).length ≤ 2 := by rw [length_digsOf]; exact digLen_le.2 (UInt64.toNat_lt _)
    refine op_callA (nxla rfl) (.cons rfl .nil) (Bytes32_f s15 (by omega)) Try.func57 rfl rfl (by simp) rfl ?_
    rintro v16 L16 ⟨M16, a16, p16, rfl, rfl, r16⟩
    change At _ _ _ [M16, M15, R] _
    rw [v32_digsOf, hn64] at r16 ⊢
    have s16 := r16.rsl
    refine op_assign (nxlf rfl) rfl rfl ?_
    refine At.opsNil ?_
    refine At.norm (hk_5 ?_)
    refine At.seq fun K6 hk_6 => ?_
    refine At.region ?_
    refine op_move (nxlf rfl) rfl rfl ?_
    refine op_addI (nxlf rfl) rfl rfl (by omega) (by omega) rfl ?_
    refine op_move (nxlf rfl) rfl rfl ?_
    refine op_lenS (nxlf rfl) se22 rfl rfl ?_
    refine op_addI (nxlf rfl) rfl rfl (by omega) (by omega) rfl ?_
    refine op_conv8 (nxlf rfl) (und_some Try.underlying3) Try.underlying5 rfl (show _ = (((b + 55 + (bytesOf n).length : Nat)) : Int) from by omega) rfl ?_
    refine op_lit (nxla rfl) Try.underlying22 ze5 sz5 (.cons rfl .nil) rfl rfl (by simp [Value.cells]) rfl rfl rfl (fun N23 a23 r23 => ?_)
    simp only [flatV, List.flatMap_cons, List.flatMap_nil, Value.cells, List.append_nil, List.cons_append, List.nil_append] at r23
    have s23 := r23.rsl
    refine op_move (nxlf rfl) rfl rfl ?_
    refine op_append (nxl rfl) Try.underlying22 Try.underlying22 te5 rfl rfl r23 (by assumption) (by first | exact mem0 | exact mem1 | exact mem2 | exact mem3 | exact mem4 | exact mem5 | exact mem6 | exact mem7 | exact mem8 | exact mem9) (by first | exact one_u8s _ | exact one_u64s _ | exact one_u32s _ | (intro u hu; simp at hu; subst hu; rfl)) (by omega) (by omega) sel0 rfl (fun N25 a25 p25 r25 => ?_)
    have s25 := r25.rsl
    refine op_assign (nxlf rfl) rfl rfl ?_
    refine At.opsNil ?_
    refine At.norm (hk_6 ?_)
    refine At.ret (?_)
    refine At.sub (L' := [N25, R]) (.cons_cons _ (.cons _ (.cons _ (.cons_cons _ (.slnil))))) ?_
    refine At.ret1 (L1 := [N25]) rfl (.tmp rfl .nil) (.refl _) (.refl _) ?_
    have e : rlpHead b n = UInt8.ofNat (b + 55 + (bytesOf n).length) :: bytesOf n := by rw [rlpHead, if_neg (by omega)]
    rw [e, List.length_cons, Nat.add_comm (bytesOf n).length 1]
    exact ⟨N25, a25, p25, rfl, rfl, r25⟩
theorem depths_take_succ {its : List It} {k : Nat} {t : It} (h : its[k]? = some t) : It.depths (its.take (k + 1)) = max (It.depths (its.take k)) t.depth := by
  obtain ⟨hlt, rfl⟩ := List.getElem?_eq_some_iff.1 h
  have key : ∀ (a b : List It), It.depths (a ++ b) = max (It.depths a) (It.depths b) := by
    intro a
    induction a with
    | nil => intro b; simp [It.depths]
    | cons t ts ih => intro b; simp [It.depths, ih, Nat.max_assoc]
  rw [List.take_succ_eq_append_getElem hlt, key]
  simp [It.depths]
theorem Depth_f (t : It) : ∀ (N : Heaplet) (x : IV) (left : Nat) (q : Int), ItN N t x → q = left → left ≤ 2000 → Fn Try.prog 35 #[.agg #[.bool x.l, .slice x.ab x.nb x.cb, .slice x.ai x.ni x.ci], .int .i64 q] [] [N] (fun v L => v = .int .i64 ((min t.depth left : Nat) : Int) ∧ L = []) := by
  induction t using It.ind_it with | h l bs its ih => ?_
  intro N x left q h hq hl
  simp only [ItN] at h
  obtain ⟨rfl, h1, xs, hI, hX⟩ := h
  have hn : xs.length = x.ni := by have := hI.1; rw [length_cellsI] at this; omega
  have hn2 := hX.length
  have hcap := hI.cap63
  cases hb : x.l with
  | false =>
    have hd : (It.mk false bs its).depth = 0 := by simp [It.depth]
    refine Fn.enter (vs := [.agg #[.bool false, .slice x.ab x.nb x.cb, .slice x.ai x.ni x.ci], .int .i64 q]) Try.func35 rfl rfl rfl ?_
    intro E R hR
    change At _ _ E [R] _
    refine At.seq fun K1 hk_1 => ?_
    refine At.region ?_
    refine op_box (nxla rfl) rfl rfl rfl (fun N2 b2 B2 => ?_)
    refine op_assign (nxlf rfl) rfl rfl ?_
    refine At.opsNil ?_
    refine At.norm (hk_1 ?_)
    refine At.seq fun K2 hk_2 => ?_
    refine At.seq fun K3 hk_3 => ?_
    refine At.region ?_
    refine op_fieldAddr (nxlf rfl) fl25_0 rfl rfl ?_
    refine op_loadB (nxlf rfl) sc4 rfl B2 (by first | rfl) mem0 rfl ?_
    refine op_not (nxlf rfl) rfl rfl ?_
    refine op_move (nxlf rfl) rfl rfl ?_
    refine op_skip rfl rfl rfl rfl rfl rfl rfl ?_
    refine op_skip rfl rfl rfl rfl rfl rfl rfl ?_
    refine op_pickT (nxlf rfl) rfl rfl rfl ?_
    refine At.opsNil ?_
    refine At.norm (hk_3 ?_)
    refine At.condT rfl ?_
    refine At.seq fun K4 hk_4 => ?_
    refine At.region ?_
    refine op_assign (nxlf rfl) rfl rfl ?_
    refine At.opsNil ?_
    refine At.norm (hk_4 ?_)
    refine At.ret (At.thenRet (?_))
    refine At.sub (L' := [R]) (.cons _ (.cons_cons _ (.slnil))) ?_
    refine At.ret1 (L1 := []) rfl (.tmp rfl .nil) (.refl _) (.refl _) ?_
    exact ⟨by rw [hd, Nat.zero_min]; rfl, rfl⟩
  | true =>
    have hd : (It.mk true bs its).depth = It.depths its + 1 := by simp [It.depth]
    refine Fn.enter (vs := [.agg #[.bool true, .slice x.ab x.nb x.cb, .slice x.ai x.ni x.ci], .int .i64 q]) Try.func35 rfl rfl rfl ?_
    intro E R hR
    have hI := hI.le (hR N (by simp))
    have hX := hX.le (hR N (by simp))
    change At _ _ E [R] _
    refine At.seq fun K1 hk_1 => ?_
    refine At.region ?_
    refine op_box (nxla rfl) rfl rfl rfl (fun N2 b2 B2 => ?_)
    refine op_assign (nxlf rfl) rfl rfl ?_
    refine At.opsNil ?_
    refine At.norm (hk_1 ?_)
    refine At.seq fun K2 hk_2 => ?_
    refine At.seq fun K3 hk_3 => ?_
    refine At.region ?_
    refine op_fieldAddr (nxlf rfl) fl25_0 rfl rfl ?_
    refine op_loadB (nxlf rfl) sc4 rfl B2 (by first | rfl) mem0 rfl ?_
    refine op_not (nxlf rfl) rfl rfl ?_
    refine op_move (nxlf rfl) rfl rfl ?_
    refine op_move (nxgf rfl rfl rfl rfl) rfl rfl ?_
    refine op_eql (nxgf rfl rfl rfl rfl) rfl rfl rfl ?_
    refine op_pickF (nxlf rfl) rfl rfl rfl ?_
    refine At.opsNil ?_
    refine At.norm (hk_3 ?_)
    refine At.condP rfl (fun c14 => ?_) (fun c14 => ?_)
    · refine At.seq fun K4 hk_4 => ?_
      refine At.region ?_
      refine op_assign (nxlf rfl) rfl rfl ?_
      refine At.opsNil ?_
      refine At.norm (hk_4 ?_)
      refine At.ret (At.thenRet (?_))
      refine At.sub (L' := [R]) (.cons _ (.cons_cons _ (.slnil))) ?_
      refine At.ret1 (L1 := []) rfl (.tmp rfl .nil) (.refl _) (.refl _) ?_
      exact ⟨by rw [show left = 0 by omega, Nat.min_zero]; rfl, rfl⟩
    · refine At.skip ?_
      refine At.norm (hk_2 ?_)
      refine At.seq fun K5 hk_5 => ?_
      refine At.region ?_
      refine op_assign (nxlf rfl) rfl rfl ?_
      refine At.opsNil ?_
      refine At.norm (hk_5 ?_)
      refine At.seq fun K6 hk_6 => ?_
      refine At.seq fun K7 hk_7 => ?_
      refine At.region ?_
      refine op_assign (nxlf rfl) rfl rfl ?_
      refine At.opsNil ?_
      refine At.norm (hk_7 ?_)
      refine At.block ?_
      refine At.loop (fun fr_ hp_ ms_ => ∃ (k d : Nat), fr_ = [(1, .int .i64 q), (2, .pointer (some ⟨b2, 0, none⟩)), (5, .int .i64 (d : Int)), (6, .int .i64 (k : Int))] ∧ hp_ = [N2, R] ∧ x.ni - k = ms_ ∧ (k ≤ x.ni) ∧ (d = min (It.depths (its.take k)) (left - 1))) ?_ (.refl _) ⟨0, 0, rfl, rfl, rfl, by omega, by simp [It.depths]⟩ ?_
      · exact .cons (by first | exact lkI rfl (by omega) | rfl) (.cons (by first | exact lkI rfl (by omega) | rfl) (.cons (by first | exact lkI rfl (by omega) | rfl) (.cons (by first | exact lkI rfl (by omega) | rfl) .nil)))
      rintro _ _ _ ⟨k, d, rfl, rfl, rfl, hk, hd2⟩
      refine At.seq fun K8 hk_8 => ?_
      refine At.seq fun K9 hk_9 => ?_
      refine At.region ?_
      refine op_move (nxlf rfl) rfl rfl ?_
      refine op_fieldAddr (nxlf rfl) fl25_2 rfl rfl ?_
      refine op_loadB (nxlf rfl) sc23 rfl B2 (by first | rfl) mem0 rfl ?_
      refine op_lenS (nxlf rfl) se23 rfl rfl ?_
      refine op_lss (nxlf rfl) rfl rfl rfl ?_
      refine At.opsNil ?_
      refine At.norm (hk_9 ?_)
      refine At.condP rfl (fun c19 => ?_) (fun c19 => ?_)
      · have hlt : k < its.length := by omega
        obtain ⟨y, hy, hi⟩ := hX.get (List.getElem?_eq_getElem hlt)
        have hts := depths_take_succ (List.getElem?_eq_getElem hlt)
        refine At.skip ?_
        refine At.norm (hk_8 ?_)
        refine At.seq fun K10 hk_10 => ?_
        refine At.block ?_
        refine At.seq fun K11 hk_11 => ?_
        refine At.region ?_
        refine op_fieldAddr (nxlf rfl) fl25_2 rfl rfl ?_
        refine op_loadB (nxlf rfl) sc23 rfl B2 (by first | rfl) mem0 rfl ?_
        refine op_move (nxlf rfl) rfl rfl ?_
        refine op_idxE (nxlf rfl) se23 rfl rfl (by assumption) (show _ = (((k : Nat)) : Int) from by omega) (by omega) rfl ?_
        refine op_loadAggE (nxlf rfl) ag25 rfl (by assumption) (by exact cells_at hy) (by rfl) (by omega) (by first | exact mem0 | exact mem1 | exact mem2 | exact mem3 | exact mem4 | exact mem5 | exact mem6 | exact mem7 | exact mem8 | exact mem9) rfl ?_
        refine op_move (nxlf rfl) rfl rfl ?_
        refine op_subI (nxlf rfl) rfl rfl (by omega) (by omega) rfl ?_
        refine op_callA (nxla rfl) (.cons rfl (.cons rfl .nil)) (ih its[k] (List.getElem_mem hlt) R y (left - 1) (q - 1) hi (by omega) (by omega)) Try.func35 rfl rfl (by simp) rfl ?_
        rintro v29 L29 ⟨rfl, rfl⟩
        change At _ _ _ [N2, R] _
        refine op_assign (nxlf rfl) rfl rfl ?_
        refine At.opsNil ?_
        refine At.norm (hk_11 ?_)
        refine At.seq fun K12 hk_12 => ?_
        refine At.region ?_
        refine op_move (nxlf rfl) rfl rfl ?_
        refine op_move (nxlf rfl) rfl rfl ?_
        refine op_gtr (nxlf rfl) rfl rfl rfl ?_
        refine At.opsNil ?_
        refine At.norm (hk_12 ?_)
        refine At.condP rfl (fun c32 => ?_) (fun c32 => ?_)
        · refine At.region ?_
          refine op_move (nxlf rfl) rfl rfl ?_
          refine op_assign (nxlf rfl) rfl rfl ?_
          refine At.opsNil ?_
          refine At.inNorm ?_
          refine At.norm (hk_10 ?_)
          refine At.region ?_
          refine op_move (nxlf rfl) rfl rfl ?_
          refine op_addI (nxlf rfl) rfl rfl (by omega) (by omega) rfl ?_
          refine op_assign (nxlf rfl) rfl rfl ?_
          refine At.opsNil ?_
          refine At.norm ?_
          refine At.back ?_ (.refl _) ⟨k + 1, min (its[k]).depth (left - 1), rfl, rfl, rfl, by omega, by rw [hts]; omega⟩ ?_
          · exact .cons (by first | exact lkI rfl (by omega) | rfl) (.cons (by first | exact lkI rfl (by omega) | rfl) (.cons (by first | exact lkI rfl (by omega) | rfl) (.cons (by first | exact lkI rfl (by omega) | rfl) .nil)))
          · omega
        · refine At.skip ?_
          refine At.inNorm ?_
          refine At.norm (hk_10 ?_)
          refine At.region ?_
          refine op_move (nxlf rfl) rfl rfl ?_
          refine op_addI (nxlf rfl) rfl rfl (by omega) (by omega) rfl ?_
          refine op_assign (nxlf rfl) rfl rfl ?_
          refine At.opsNil ?_
          refine At.norm ?_
          refine At.back ?_ (.refl _) ⟨k + 1, d, rfl, rfl, rfl, by omega, by rw [hts]; omega⟩ ?_
          · exact .cons (by first | exact lkI rfl (by omega) | rfl) (.cons (by first | exact lkI rfl (by omega) | rfl) (.cons (by first | exact lkI rfl (by omega) | rfl) (.cons (by first | exact lkI rfl (by omega) | rfl) .nil)))
          · omega
      · refine At.exit (At.thenExit (At.thenExit (At.inHit ?_)))
        refine At.norm (hk_6 ?_)
        refine At.seq fun K13 hk_13 => ?_
        refine At.region ?_
        refine op_move (nxlf rfl) rfl rfl ?_
        refine op_addI (nxlf rfl) rfl rfl (by omega) (by omega) rfl ?_
        refine op_assign (nxlf rfl) rfl rfl ?_
        refine At.opsNil ?_
        refine At.norm (hk_13 ?_)
        refine At.ret (?_)
        refine At.sub (L' := [R]) (.cons _ (.cons_cons _ (.slnil))) ?_
        refine At.ret1 (L1 := []) rfl (.tmp rfl .nil) (.refl _) (.refl _) ?_
        obtain rfl : k = its.length := by omega
        rw [List.take_length] at hd2
        exact ⟨congrArg (Value.int .i64) (by rw [hd]; omega), rfl⟩
theorem form_f (t : It) : ∀ (N : Heaplet) (x : IV), ItN N t x → t.form.length ≤ 1099511627776 → Fn Try.prog 36 #[.agg #[.bool x.l, .slice x.ab x.nb x.cb, .slice x.ai x.ni x.ci]] [] [N] (fun v L => ∃ M a cap, v = .slice a t.form.length cap ∧ L = [M] ∧ Row M 5 1 a t.form.length cap (u8s t.form)) := by
  induction t using It.ind_it with | h l bs its ih => ?_
  intro N x h hlen
  simp only [ItN] at h
  obtain ⟨rfl, h1, xs, hI, hX⟩ := h
  have hn : xs.length = x.ni := by have := hI.1; rw [length_cellsI] at this; omega
  have hn2 := hX.length
  have hcap := hI.cap63
  cases hb : x.l with
  | false =>
    rw [hb] at hlen
    have hnb := h1.len8
    have hcb := h1.cap63
    have hf := form_false bs its
    have hsm := @small_iff bs
    have hub : small bs ≠ true → (rlpHead 128 x.nb).length + x.nb ≤ 1099511627776 := fun e => by rw [hf, if_neg e, List.length_append, hnb] at hlen; exact hlen
    refine Fn.enter (vs := [.agg #[.bool false, .slice x.ab x.nb x.cb, .slice x.ai x.ni x.ci]]) Try.func36 rfl rfl rfl ?_
    intro E R hR
    have h1 := h1.le (hR N (by simp))
    change At _ _ E [R] _
    refine At.seq fun K1 hk_1 => ?_
    refine At.region ?_
    refine op_box (nxla rfl) rfl rfl rfl (fun N1 b1 B1 => ?_)
    refine op_assign (nxlf rfl) rfl rfl ?_
    refine At.opsNil ?_
    refine At.norm (hk_1 ?_)
    refine At.seq fun K2 hk_2 => ?_
    refine At.seq fun K3 hk_3 => ?_
    refine At.region ?_
    refine op_fieldAddr (nxlf rfl) fl25_0 rfl rfl ?_
    refine op_loadB (nxlf rfl) sc4 rfl B1 (by first | rfl) mem0 rfl ?_
    refine op_not (nxlf rfl) rfl rfl ?_
    refine At.opsNil ?_
    refine At.norm (hk_3 ?_)
    refine At.condT rfl ?_
    refine At.seq fun K4 hk_4 => ?_
    refine At.seq fun K5 hk_5 => ?_
    refine At.region ?_
    refine op_fieldAddr (nxlf rfl) fl25_1 rfl rfl ?_
    refine op_loadB (nxlf rfl) sc22 rfl B1 (by first | rfl) mem0 rfl ?_
    refine op_lenS (nxlf rfl) se22 rfl rfl ?_
    refine op_eql (nxlf rfl) rfl rfl rfl ?_
    refine op_move (nxlf rfl) rfl rfl ?_
    refine At.partP (d := 12) rfl (fun g12 => ?_) (fun g12 => ?_)
    · refine op_fieldAddr (nxgf rfl rfl rfl rfl) fl25_1 rfl rfl ?_
      refine op_loadB (nxgf rfl rfl rfl rfl) sc22 rfl B1 (by first | rfl) mem0 rfl ?_
      refine op_idx1 (nxgf rfl rfl rfl rfl) se22 rfl rfl (by assumption) (show _ = (((0 : Nat)) : Int) from by omega) (by omega) rfl ?_
      refine op_loadE (nxgf rfl rfl rfl rfl) sc5 rfl (by assumption) (by first | exact get8 (by omega) | exact get64 (by omega) | exact get32 (by omega)) (by first | exact mem0 | exact mem1 | exact mem2 | exact mem3 | exact mem4 | exact mem5 | exact mem6 | exact mem7 | exact mem8 | exact mem9) rfl ?_
      refine op_lss (nxgf rfl rfl rfl rfl) rfl rfl rfl ?_
      refine op_pickT (nxlf rfl) rfl rfl rfl ?_
      refine At.opsNil ?_
      refine At.norm (hk_5 ?_)
      refine At.condP rfl (fun c18 => ?_) (fun c18 => ?_)
      · refine At.seq fun K6 hk_6 => ?_
        refine At.region ?_
        refine op_lit (nxla rfl) Try.underlying22 ze5 sz5 .nil rfl rfl (by simp [Value.cells]) rfl rfl rfl (fun N19 a19 r19 => ?_)
        simp only [flatV, List.flatMap_cons, List.flatMap_nil, Value.cells, List.append_nil, List.cons_append, List.nil_append] at r19
        have s19 := r19.rsl
        refine op_fieldAddr (nxlf rfl) fl25_1 rfl rfl ?_
        refine op_loadB (nxlf rfl) sc22 rfl B1 (by first | rfl) mem1 rfl ?_
        refine op_append (nxl rfl) Try.underlying22 Try.underlying22 te5 rfl rfl r19 (by assumption) (by first | exact mem0 | exact mem1 | exact mem2 | exact mem3 | exact mem4 | exact mem5 | exact mem6 | exact mem7 | exact mem8 | exact mem9) (by first | exact one_u8s _ | exact one_u64s _ | exact one_u32s _ | (intro u hu; simp at hu; subst hu; rfl)) (by omega) (by omega) sel0 rfl (fun N22 a22 p22 r22 => ?_)
        have s22 := r22.rsl
        refine op_assign (nxlf rfl) rfl rfl ?_
        refine At.opsNil ?_
        refine At.norm (hk_6 ?_)
        refine At.ret (At.thenRet (At.thenRet (?_)))
        refine At.sub (L' := [N22, R]) (.cons_cons _ (.cons _ (.cons_cons _ (.slnil)))) ?_
        refine At.ret1 (L1 := [N22]) rfl (.tmp rfl .nil) (.refl _) (.refl _) ?_
        have e : (It.mk false bs its).form = bs := by rw [hf, if_pos (hsm.2 ⟨by omega, by omega⟩)]
        rw [List.nil_append, Nat.zero_add] at r22
        exact ⟨N22, a22, p22, by rw [e, hnb, Nat.zero_add], rfl, by rw [e, hnb]; exact r22⟩
      · refine At.skip ?_
        refine At.norm (hk_4 ?_)
        refine At.seq fun K7 hk_7 => ?_
        refine At.drawn [6] [0,1,2,4,5,3,6,7] (by kernel_rfl) (by kernel_rfl) ?_
        refine op_fieldAddr (nxof rfl rfl rfl (by kernel_rfl)) fl25_1 rfl rfl ?_
        refine op_loadB (nxof rfl rfl rfl (by kernel_rfl)) sc22 rfl B1 (by first | rfl) mem0 rfl ?_
        refine op_lenS (nxof rfl rfl rfl (by kernel_rfl)) se22 rfl rfl ?_
        refine op_fieldAddr (nxof rfl rfl rfl (by kernel_rfl)) fl25_1 rfl rfl ?_
        refine op_loadB (nxof rfl rfl rfl (by kernel_rfl)) sc22 rfl B1 (by first | rfl) mem0 rfl ?_
        have hub' := hub (fun e => by have := hsm.1 e; omega)
        refine op_callA (nxoa rfl rfl rfl) (.cons rfl (.cons rfl .nil)) (rhead_f 128 x.nb (by omega) (by omega)) Try.func51 rfl rfl (by simp) rfl ?_
        rintro v26 L26 ⟨M26, a26, p26, rfl, rfl, r26⟩
        change At _ _ _ [M26, N1, R] _
        refine op_append (nxos rfl rfl rfl rfl) Try.underlying22 Try.underlying22 te5 rfl rfl r26 (by assumption) (by first | exact mem0 | exact mem1 | exact mem2 | exact mem3 | exact mem4 | exact mem5 | exact mem6 | exact mem7 | exact mem8 | exact mem9) (by first | exact one_u8s _ | exact one_u64s _ | exact one_u32s _ | (intro u hu; simp at hu; subst hu; rfl)) (by omega) (by omega) sel0 rfl (fun N29 a29 p29 r29 => ?_)
        have s29 := r29.rsl
        refine op_assign (nxof rfl rfl rfl (by kernel_rfl)) rfl rfl ?_
        refine At.oneNil ?_
        refine At.norm (hk_7 ?_)
        refine At.ret (At.thenRet (?_))
        refine At.sub (L' := [N29, R]) (.cons_cons _ (.cons _ (.cons_cons _ (.slnil)))) ?_
        refine At.ret1 (L1 := [N29]) rfl (.tmp rfl .nil) (.refl _) (.refl _) ?_
        have e : (It.mk false bs its).form = rlpHead 128 x.nb ++ bs := by rw [hf, if_neg (fun e => by have := hsm.1 e; omega), hnb]
        exact ⟨N29, a29, p29, by rw [e, List.length_append, hnb], rfl, by rw [e, List.length_append, hnb, u8s, List.map_append]; exact r29⟩
    · refine op_skip rfl rfl rfl rfl rfl rfl rfl ?_
      refine op_skip rfl rfl rfl rfl rfl rfl rfl ?_
      refine op_skip rfl rfl rfl rfl rfl rfl rfl ?_
      refine op_skip rfl rfl rfl rfl rfl rfl rfl ?_
      refine op_skip rfl rfl rfl rfl rfl rfl rfl ?_
      refine op_pickF (nxlf rfl) rfl rfl rfl ?_
      refine At.opsNil ?_
      refine At.norm (hk_5 ?_)
      refine At.condF rfl ?_
      refine At.skip ?_
      refine At.norm (hk_4 ?_)
      refine At.seq fun K8 hk_8 => ?_
      refine At.drawn [6] [0,1,2,4,5,3,6,7] (by kernel_rfl) (by kernel_rfl) ?_
      refine op_fieldAddr (nxof rfl rfl rfl (by kernel_rfl)) fl25_1 rfl rfl ?_
      refine op_loadB (nxof rfl rfl rfl (by kernel_rfl)) sc22 rfl B1 (by first | rfl) mem0 rfl ?_
      refine op_lenS (nxof rfl rfl rfl (by kernel_rfl)) se22 rfl rfl ?_
      refine op_fieldAddr (nxof rfl rfl rfl (by kernel_rfl)) fl25_1 rfl rfl ?_
      refine op_loadB (nxof rfl rfl rfl (by kernel_rfl)) sc22 rfl B1 (by first | rfl) mem0 rfl ?_
      have hub' := hub (fun e => by have := hsm.1 e; omega)
      refine op_callA (nxoa rfl rfl rfl) (.cons rfl (.cons rfl .nil)) (rhead_f 128 x.nb (by omega) (by omega)) Try.func51 rfl rfl (by simp) rfl ?_
      rintro v26 L26 ⟨M26, a26, p26, rfl, rfl, r26⟩
      change At _ _ _ [M26, N1, R] _
      refine op_append (nxos rfl rfl rfl rfl) Try.underlying22 Try.underlying22 te5 rfl rfl r26 (by assumption) (by first | exact mem0 | exact mem1 | exact mem2 | exact mem3 | exact mem4 | exact mem5 | exact mem6 | exact mem7 | exact mem8 | exact mem9) (by first | exact one_u8s _ | exact one_u64s _ | exact one_u32s _ | (intro u hu; simp at hu; subst hu; rfl)) (by omega) (by omega) sel0 rfl (fun N29 a29 p29 r29 => ?_)
      have s29 := r29.rsl
      refine op_assign (nxof rfl rfl rfl (by kernel_rfl)) rfl rfl ?_
      refine At.oneNil ?_
      refine At.norm (hk_8 ?_)
      refine At.ret (At.thenRet (?_))
      refine At.sub (L' := [N29, R]) (.cons_cons _ (.cons _ (.cons_cons _ (.slnil)))) ?_
      refine At.ret1 (L1 := [N29]) rfl (.tmp rfl .nil) (.refl _) (.refl _) ?_
      have e : (It.mk false bs its).form = rlpHead 128 x.nb ++ bs := by rw [hf, if_neg (fun e => by have := hsm.1 e; omega), hnb]
      exact ⟨N29, a29, p29, by rw [e, List.length_append, hnb], rfl, by rw [e, List.length_append, hnb, u8s, List.map_append]; exact r29⟩
  | true =>
    rw [hb] at hlen
    have hf := form_true bs its
    have hlf : (rlpHead 192 (It.forms its).length).length + (It.forms its).length ≤ 1099511627776 := by rw [hf, List.length_append] at hlen; exact hlen
    refine Fn.enter (vs := [.agg #[.bool true, .slice x.ab x.nb x.cb, .slice x.ai x.ni x.ci]]) Try.func36 rfl rfl rfl ?_
    intro E R hR
    have hI := hI.le (hR N (by simp))
    have hX := hX.le (hR N (by simp))
    change At _ _ E [R] _
    refine At.seq fun K1 hk_1 => ?_
    refine At.region ?_
    refine op_box (nxla rfl) rfl rfl rfl (fun N1 b1 B1 => ?_)
    refine op_assign (nxlf rfl) rfl rfl ?_
    refine At.opsNil ?_
    refine At.norm (hk_1 ?_)
    refine At.seq fun K2 hk_2 => ?_
    refine At.seq fun K3 hk_3 => ?_
    refine At.region ?_
    refine op_fieldAddr (nxlf rfl) fl25_0 rfl rfl ?_
    refine op_loadB (nxlf rfl) sc4 rfl B1 (by first | rfl) mem0 rfl ?_
    refine op_not (nxlf rfl) rfl rfl ?_
    refine At.opsNil ?_
    refine At.norm (hk_3 ?_)
    refine At.condF rfl ?_
    refine At.skip ?_
    refine At.norm (hk_2 ?_)
    refine At.seq fun K4 hk_4 => ?_
    refine At.region ?_
    refine op_assign (nxlf rfl) rfl rfl ?_
    refine At.opsNil ?_
    refine At.norm (hk_4 ?_)
    refine At.seq fun K5 hk_5 => ?_
    refine At.seq fun K6 hk_6 => ?_
    refine At.region ?_
    refine op_assign (nxlf rfl) rfl rfl ?_
    refine At.opsNil ?_
    refine At.norm (hk_6 ?_)
    refine At.block ?_
    refine At.empty ?_
    refine At.perm sel2 ?_
    refine At.perm sel1 ?_
    refine At.perm sel2 ?_
    refine At.loop (fun fr_ hp_ ms_ => ∃ (k np : Nat) (ap : Option Addr) (cp : Nat) (Np : Heaplet), fr_ = [(1, .pointer (some ⟨b1, 0, none⟩)), (3, .slice ap np cp), (4, .int .i64 (k : Int))] ∧ hp_ = [N1, Np, R] ∧ x.ni - k = ms_ ∧ (k ≤ x.ni) ∧ (np = (It.forms (its.take k)).length) ∧ (Row Np 5 1 ap np cp (u8s (It.forms (its.take k))))) ?_ (.refl _) ⟨0, 0, none, 0, nilH, rfl, rfl, rfl, by omega, by simp [It.forms], by simpa [It.forms, u8s] using Row.nil nilH 5 1⟩ ?_
    · exact .cons (by first | exact lkI rfl (by omega) | rfl) (.cons (by first | exact lkI rfl (by omega) | rfl) (.cons (by first | exact lkI rfl (by omega) | rfl) .nil))
    rintro _ _ _ ⟨k, np, ap, cp, Np, rfl, rfl, rfl, hk, hnp, rp⟩
    have sp := rp.rsl
    have hle := forms_take_le its k
    refine At.seq fun K7 hk_7 => ?_
    refine At.seq fun K8 hk_8 => ?_
    refine At.region ?_
    refine op_move (nxlf rfl) rfl rfl ?_
    refine op_fieldAddr (nxlf rfl) fl25_2 rfl rfl ?_
    refine op_loadB (nxlf rfl) sc23 rfl B1 (by first | rfl) mem0 rfl ?_
    refine op_lenS (nxlf rfl) se23 rfl rfl ?_
    refine op_lss (nxlf rfl) rfl rfl rfl ?_
    refine At.opsNil ?_
    refine At.norm (hk_8 ?_)
    refine At.condP rfl (fun c34 => ?_) (fun c34 => ?_)
    · have hlt : k < its.length := by omega
      obtain ⟨y, hy, hi⟩ := hX.get (List.getElem?_eq_getElem hlt)
      have hts := forms_take_succ (List.getElem?_eq_getElem hlt)
      have hfe := form_le (List.getElem_mem hlt)
      have hle2 := forms_take_le its (k + 1)
      have hsum : np + (its[k]).form.length ≤ (It.forms its).length := by rw [hts, List.length_append] at hle2; omega
      refine At.skip ?_
      refine At.norm (hk_7 ?_)
      refine At.seq fun K9 hk_9 => ?_
      refine At.block ?_
      refine At.region ?_
      refine op_move (nxlf rfl) rfl rfl ?_
      refine op_fieldAddr (nxlf rfl) fl25_2 rfl rfl ?_
      refine op_loadB (nxlf rfl) sc23 rfl B1 (by first | rfl) mem0 rfl ?_
      refine op_move (nxlf rfl) rfl rfl ?_
      refine op_idxE (nxlf rfl) se23 rfl rfl (by assumption) (show _ = (((k : Nat)) : Int) from by omega) (by omega) rfl ?_
      refine op_loadAggE (nxlf rfl) ag25 rfl (by assumption) (by exact cells_at hy) (by rfl) (by omega) (by first | exact mem0 | exact mem1 | exact mem2 | exact mem3 | exact mem4 | exact mem5 | exact mem6 | exact mem7 | exact mem8 | exact mem9) rfl ?_
      refine op_callA (nxla rfl) (.cons rfl .nil) (ih its[k] (List.getElem_mem hlt) R y hi (by omega)) Try.func36 rfl rfl (by simp) rfl ?_
      rintro v43 L43 ⟨M43, a43, p43, rfl, rfl, r43⟩
      change At _ _ _ [M43, N1, Np, R] _
      have s43 := r43.rsl
      refine op_append (nxl rfl) Try.underlying22 Try.underlying22 te5 rfl rfl rp (by assumption) (by first | exact mem0 | exact mem1 | exact mem2 | exact mem3 | exact mem4 | exact mem5 | exact mem6 | exact mem7 | exact mem8 | exact mem9) (by first | exact one_u8s _ | exact one_u64s _ | exact one_u32s _ | (intro u hu; simp at hu; subst hu; rfl)) (by omega) (by omega) sel2 rfl (fun N44 a44 p44 r44 => ?_)
      have s44 := r44.rsl
      refine op_assign (nxlf rfl) rfl rfl ?_
      refine At.opsNil ?_
      refine At.inNorm ?_
      refine At.norm (hk_9 ?_)
      refine At.region ?_
      refine op_move (nxlf rfl) rfl rfl ?_
      refine op_addI (nxlf rfl) rfl rfl (by omega) (by omega) rfl ?_
      refine op_assign (nxlf rfl) rfl rfl ?_
      refine At.opsNil ?_
      refine At.norm ?_
      refine At.sub (L' := [N44, N1, R]) (.cons_cons _ (.cons _ (.cons_cons _ (.cons_cons _ (.slnil))))) ?_
      refine At.perm sel2 ?_
      refine At.perm sel1 ?_
      refine At.perm sel2 ?_
      refine At.back ?_ (.refl _) ⟨k + 1, np + (its[k]).form.length, a44, p44, N44, rfl, rfl, rfl, by omega, by rw [hts, List.length_append, hnp], by rw [hts, u8s, List.map_append]; exact r44⟩ ?_
      · exact .cons (by first | exact lkI rfl (by omega) | rfl) (.cons (by first | exact lkI rfl (by omega) | rfl) (.cons (by first | exact lkI rfl (by omega) | rfl) .nil))
      · omega
    · refine At.exit (At.thenExit (At.thenExit (At.inHit ?_)))
      refine At.norm (hk_5 ?_)
      refine At.seq fun K10 hk_10 => ?_
      refine At.region ?_
      refine op_move (nxlf rfl) rfl rfl ?_
      refine op_lenS (nxlf rfl) se22 rfl rfl ?_
      refine op_callA (nxla rfl) (.cons rfl (.cons rfl .nil)) (rhead_f 192 np (by omega) (by omega)) Try.func51 rfl rfl (by simp) rfl ?_
      rintro v47 L47 ⟨M47, a47, p47, rfl, rfl, r47⟩
      change At _ _ _ [M47, N1, Np, R] _
      refine op_move (nxlf rfl) rfl rfl ?_
      have h9 := rlpHead_le 192 np (by omega)
      refine op_append (nxl rfl) Try.underlying22 Try.underlying22 te5 rfl rfl r47 (by assumption) (by first | exact mem0 | exact mem1 | exact mem2 | exact mem3 | exact mem4 | exact mem5 | exact mem6 | exact mem7 | exact mem8 | exact mem9) (by first | exact one_u8s _ | exact one_u64s _ | exact one_u32s _ | (intro u hu; simp at hu; subst hu; rfl)) (by omega) (by omega) sel0 rfl (fun N49 a49 p49 r49 => ?_)
      have s49 := r49.rsl
      refine op_assign (nxlf rfl) rfl rfl ?_
      refine At.opsNil ?_
      refine At.norm (hk_10 ?_)
      refine At.ret (?_)
      refine At.sub (L' := [N49, R]) (.cons_cons _ (.cons _ (.cons _ (.cons_cons _ (.slnil))))) ?_
      refine At.ret1 (L1 := [N49]) rfl (.tmp rfl .nil) (.refl _) (.refl _) ?_
      obtain rfl : k = its.length := by omega
      rw [List.take_length] at hnp r49
      subst hnp
      exact ⟨N49, a49, p49, by rw [hf, List.length_append], rfl, by rw [hf, List.length_append, u8s, List.map_append]; exact r49⟩
theorem rEncode_f {N : Heaplet} {t : It} {x : IV} (h : ItN N t x) (hlen : t.form.length ≤ 1099511627776) : Fn Try.prog 14 #[.agg #[.bool x.l, .slice x.ab x.nb x.cb, .slice x.ai x.ni x.ci]] [] [N] (EncP t 0) := by
  refine Fn.enter (vs := [.agg #[.bool x.l, .slice x.ab x.nb x.cb, .slice x.ai x.ni x.ci]]) Try.func14 rfl rfl rfl ?_
  intro E R hR
  have h := h.le (hR N (by simp))
  change At _ _ E [R] _
  refine At.seq fun K1 hk_1 => ?_
  refine At.region ?_
  refine op_box (nxla rfl) rfl rfl rfl (fun N1 b1 B1 => ?_)
  refine op_assign (nxlf rfl) rfl rfl ?_
  refine op_assign (nxlf rfl) rfl rfl ?_
  refine At.opsNil ?_
  refine At.norm (hk_1 ?_)
  refine At.seq fun K2 hk_2 => ?_
  refine At.seq fun K3 hk_3 => ?_
  refine At.region ?_
  refine op_loadAggB (ds := [_, _, _]) (nxlf rfl) ag25 rfl B1 rfl rfl mem0 rfl ?_
  refine op_callA (nxla rfl) (.cons rfl (.cons rfl .nil)) (Depth_f t R x 1025 1025 h rfl (by omega)) Try.func35 rfl rfl (by simp) rfl ?_
  rintro v5 L5 ⟨rfl, rfl⟩
  change At _ _ _ [N1, R] _
  refine op_gtr (nxlf rfl) rfl rfl rfl ?_
  refine At.opsNil ?_
  refine At.norm (hk_3 ?_)
  refine At.condP rfl (fun c6 => ?_) (fun c6 => ?_)
  · refine At.seq fun K4 hk_4 => ?_
    refine At.region ?_
    refine op_assign (nxlf rfl) rfl rfl ?_
    refine op_assign (nxlf rfl) rfl rfl ?_
    refine At.opsNil ?_
    refine At.norm (hk_4 ?_)
    refine At.ret (At.thenRet (?_))
    refine At.sub (L' := [R]) (.cons _ (.cons_cons _ (.slnil))) ?_
    refine At.retN (L1 := []) rfl (.tmp rfl (.tmp rfl .nil)) rfl (.refl _) (.refl _) ?_
    exact .inr ⟨rfl, rfl, by omega⟩
  · refine At.skip ?_
    refine At.norm (hk_2 ?_)
    refine At.seq fun K5 hk_5 => ?_
    refine At.region ?_
    refine op_loadAggB (ds := [_, _, _]) (nxlf rfl) ag25 rfl B1 rfl rfl mem0 rfl ?_
    refine op_callA (nxla rfl) (.cons rfl .nil) (form_f t R x h hlen) Try.func36 rfl rfl (by simp) rfl ?_
    rintro v8 L8 ⟨M8, a8, p8, rfl, rfl, r8⟩
    change At _ _ _ [M8, N1, R] _
    refine op_assign (nxlf rfl) rfl rfl ?_
    refine op_assign (nxlf rfl) rfl rfl ?_
    refine At.opsNil ?_
    refine At.norm (hk_5 ?_)
    refine At.ret (?_)
    refine At.sub (L' := [M8, R]) (.cons_cons _ (.cons _ (.cons_cons _ (.slnil)))) ?_
    refine At.retN (L1 := [M8]) rfl (.tmp rfl (.tmp rfl .nil)) rfl (.refl _) (.refl _) ?_
    exact .inl ⟨M8, a8, p8, rfl, rfl, r8, by omega⟩
end Go.Proofs.Ytohmmgggaegbbaa
