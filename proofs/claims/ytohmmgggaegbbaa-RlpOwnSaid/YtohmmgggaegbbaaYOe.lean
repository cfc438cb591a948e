/- quarrykeep.Book: Close gives true. No condition. -/
import Derived.Test.YtohmmgggaegbbaaYOd
namespace Go.Proofs.Ytohmmgggaegbbaa
set_option linter.unusedVariables false
set_option linter.unusedSimpArgs false
open Go Go.RowKit
theorem Ones.zero (K : Nat) (NI : Heaplet) (vf vo : List Value) : Ones K NI vf vo 0 := fun j hj => absurd hj (Nat.not_lt_zero j)
/-- What the look asks. -/
theorem look_ready {K nn : Nat} {gs : List (List UInt8)} {vf vo : List Value} {NI : Heaplet} (hg : Bag 5 NI vf gs) (hm : ∀ (j : Nat) (x : List UInt8), gs[j]? = some x → x = mk1 j x.length) (hl : gs.length = nn) (ho : Ones K NI vf vo nn) :
    ∀ i, i < nn → ∃ m p c q d, vf[i]? = some (Value.slice p m c) ∧ RSl NI 1 p m c (u8s (mk1 i m)) ∧ vo[i]? = some (Value.slice q (m + K) d) ∧ RSl NI 1 q (m + K) d (u8s (mk1 i m ++ mk2 i K)) := by
  intro i hi
  obtain ⟨p, m, c, q, d, h1, h2, h3, _, _⟩ := ho i hi
  obtain ⟨x, hx⟩ := get_lt (xs := gs) (i := i) (by omega)
  obtain ⟨p', c', e1, e2⟩ := hg.row i x hx
  rw [h1] at e1
  simp only [Option.some.injEq, Value.slice.injEq] at e1
  obtain ⟨rfl, rfl, rfl⟩ := e1
  refine ⟨x.length, p, c, q, d, h1, ?_, h2, h3.rsl⟩
  rw [← hm i x hx]
  exact e2.rsl
theorem mark_all {y : List UInt8} {i k : Nat} (hk : y.length ≤ k) (h : y.take k = mk1 i k) : y = mk1 i y.length := by
  have e : y.take k = y := List.take_of_length_le hk
  rw [e] at h
  have hl := congrArg List.length h
  rw [length_mk1] at hl
  rw [hl]; exact h
theorem mark_more {hs : List (List UInt8)} {i : Nat} {y : List UInt8} (h : ∀ (j : Nat) (x : List UInt8), j < i → hs[j]? = some x → x = mk1 j x.length) (hy : hs[i]? = some y) (e : y = mk1 i y.length) : ∀ (j : Nat) (x : List UInt8), j < i + 1 → hs[j]? = some x → x = mk1 j x.length := by
  intro j x hj hx
  rcases Nat.lt_or_ge j i with hji | hji
  · exact h j x hji hx
  · obtain rfl : j = i := by omega
    rw [hy] at hx; cases hx; exact e
theorem set_len {hs : List (List UInt8)} {i B : Nat} {y y' : List UInt8} (hy : hs[i]? = some y) (hl : y'.length = y.length) (h : ∀ (j : Nat) (x : List UInt8), hs[j]? = some x → x.length ≤ B) : ∀ (j : Nat) (x : List UInt8), (hs.set i y')[j]? = some x → x.length ≤ B := by
  intro j x hx
  by_cases hji : i = j
  · subst hji
    rw [set_get hy] at hx; cases hx; rw [hl]; exact h i y hy
  · rw [get_set_ne hji] at hx; exact h j x hx
set_option maxRecDepth 100000 in
set_option maxHeartbeats 4000000 in
theorem closeBytes_o {b0 nn cf : Nat} {N0 NF NI : Heaplet} {e0 : TypeId} {pf : Option Addr} {w1 v4 : Value} {vf : List Value} {xs : List (List UInt8)} (B0 : Blk N0 b0 e0 [.slice pf nn cf, w1, .slice none 0 0, .slice none 0 0, v4]) (rF : Row NF 22 1 pf nn cf vf) (hI : Bag 5 NI vf xs) (hnn : nn ≤ 2199023255552) (hl2 : ∀ (j : Nat) (x : List UInt8), xs[j]? = some x → x.length ≤ 1099511627776) :
    Fn Try.prog 47 #[.pointer (some ⟨b0, 0, none⟩)] [N0, NF, NI] [] (fun v L => v = .bool true ∧ L = []) := by
  have sF := rF.rsl
  have hcf := sF.cap63
  have hvl : vf.length = nn := by have := rF.1; rwa [Nat.mul_one] at this
  have hxl : xs.length = nn := hI.len.symm.trans hvl
  refine Fn.enter (vs := [.pointer (some ⟨b0, 0, none⟩)]) Try.func47 rfl rfl rfl ?_
  intro E R hR
  change At _ _ E [N0, NF, NI, R] _
  refine At.seq fun K1 hk_1 => ?_
  refine At.region ?_
  refine op_assign (nxlf rfl) rfl rfl ?_
  refine At.opsNil ?_
  refine At.norm (hk_1 ?_)
  refine At.seq fun K2 hk_2 => ?_
  refine At.seq fun K3 hk_3 => ?_
  refine At.region ?_
  refine op_assign (nxlf rfl) rfl rfl ?_
  refine At.opsNil ?_
  refine At.norm (hk_3 ?_)
  refine At.block ?_
  refine At.loop (fun fr_ hp_ ms_ => ∃ (i : Nat) (NI : Heaplet) (gs : List (List UInt8)), fr_ = [(0, .pointer (some ⟨b0, 0, none⟩)), (3, .int .i64 (i : Int))] ∧ hp_ = [N0, NF, NI, R] ∧ nn - i = ms_ ∧ (i ≤ nn) ∧ (Bag 5 NI vf gs) ∧ (gs.length = nn) ∧ (∀ (j : Nat) (x : List UInt8), j < i → gs[j]? = some x → x = mk1 j x.length) ∧ (∀ (j : Nat) (x : List UInt8), gs[j]? = some x → x.length ≤ 1099511627776)) ?_ (.refl _) ⟨0, NI, xs, rfl, rfl, rfl, by omega, hI, hxl, fun j x hj => absurd hj (Nat.not_lt_zero j), hl2⟩ ?_
  · exact .cons (by first | exact lkI rfl (by omega) | rfl) (.cons (by first | exact lkI rfl (by omega) | rfl) .nil)
  rintro _ _ _ ⟨i, NI, gs, rfl, rfl, rfl, hi, hg, hgl, hgm, hgb⟩
  refine At.seq fun K4 hk_4 => ?_
  refine At.seq fun K5 hk_5 => ?_
  refine At.region ?_
  refine op_move (nxlf rfl) rfl rfl ?_
  refine op_move (nxlf rfl) rfl rfl ?_
  refine op_nilChk (nxlf rfl) rfl rfl ?_
  refine op_fieldAddr (nxlf rfl) fl60_0 rfl rfl ?_
  refine op_loadB (nxlf rfl) sc55 rfl B0 (by first | rfl) mem0 rfl ?_
  refine op_lenS (nxlf rfl) se55 rfl rfl ?_
  refine op_lss (nxlf rfl) rfl rfl rfl ?_
  refine At.opsNil ?_
  refine At.norm (hk_5 ?_)
  refine At.condP rfl (fun c17 => ?_) (fun c17 => ?_)
  · obtain ⟨x, hx⟩ := get_lt (xs := gs) (i := i) (by omega)
    refine At.skip ?_
    refine At.norm (hk_4 ?_)
    refine At.seq fun K6 hk_6 => ?_
    refine At.block ?_
    refine At.seq fun K7 hk_7 => ?_
    refine At.region ?_
    refine op_assign (nxlf rfl) rfl rfl ?_
    refine At.opsNil ?_
    refine At.norm (hk_7 ?_)
    refine At.block ?_
    refine At.loop (fun fr_ hp_ ms_ => ∃ (k : Nat) (NI : Heaplet) (hs : List (List UInt8)) (y : List UInt8), fr_ = [(0, .pointer (some ⟨b0, 0, none⟩)), (3, .int .i64 (i : Int)), (4, .int .i64 (k : Int))] ∧ hp_ = [N0, NF, NI, R] ∧ x.length - k = ms_ ∧ (k ≤ x.length) ∧ (Bag 5 NI vf hs) ∧ (hs.length = nn) ∧ (hs[i]? = some y) ∧ (y.length = x.length) ∧ (y.take k = mk1 i k) ∧ (∀ (j : Nat) (x : List UInt8), j < i → hs[j]? = some x → x = mk1 j x.length) ∧ (∀ (j : Nat) (x : List UInt8), hs[j]? = some x → x.length ≤ 1099511627776)) ?_ (.refl _) ⟨0, NI, gs, x, rfl, rfl, rfl, by omega, hg, hgl, hx, rfl, rfl, hgm, hgb⟩ ?_
    · exact .cons (by first | exact lkI rfl (by omega) | rfl) (.cons (by first | exact lkI rfl (by omega) | rfl) (.cons (by first | exact lkI rfl (by omega) | rfl) .nil))
    rintro _ _ _ ⟨k, NI, hs, y, rfl, rfl, rfl, hk, hh, hhl, hy, hyl, hyt, hhm, hhb⟩
    obtain ⟨p', c', hv', hr'⟩ := hh.row i y hy
    have hrs' := hr'.rsl
    have hcp' := hrs'.cap63
    refine At.seq fun K8 hk_8 => ?_
    refine At.seq fun K9 hk_9 => ?_
    refine At.region ?_
    refine op_move (nxlf rfl) rfl rfl ?_
    refine op_move (nxlf rfl) rfl rfl ?_
    refine op_nilChk (nxlf rfl) rfl rfl ?_
    refine op_fieldAddr (nxlf rfl) fl60_0 rfl rfl ?_
    refine op_loadB (nxlf rfl) sc55 rfl B0 (by first | rfl) mem0 rfl ?_
    refine op_move (nxlf rfl) rfl rfl ?_
    refine op_idx1 (nxlf rfl) se55 rfl rfl sF (show _ = (((i : Nat)) : Int) from by omega) (by omega) rfl ?_
    refine op_loadE (nxlf rfl) sc22 rfl sF (by first | exact get8 (by omega) | exact get64 (by omega) | exact get32 (by omega) | exact hv') (by first | exact mem0 | exact mem1 | exact mem2 | exact mem3 | exact mem4 | exact mem5 | exact mem6 | exact mem7 | exact mem8 | exact mem9) rfl ?_
    refine op_lenS (nxlf rfl) se22 rfl rfl ?_
    refine op_lss (nxlf rfl) rfl rfl rfl ?_
    refine At.opsNil ?_
    refine At.norm (hk_9 ?_)
    refine At.condP rfl (fun c29 => ?_) (fun c29 => ?_)
    · refine At.skip ?_
      refine At.norm (hk_8 ?_)
      refine At.seq fun K10 hk_10 => ?_
      refine At.block ?_
      refine At.region ?_
      refine op_move (nxlf rfl) rfl rfl ?_
      refine op_nilChk (nxlf rfl) rfl rfl ?_
      refine op_fieldAddr (nxlf rfl) fl60_0 rfl rfl ?_
      refine op_loadB (nxlf rfl) sc55 rfl B0 (by first | rfl) mem0 rfl ?_
      refine op_move (nxlf rfl) rfl rfl ?_
      refine op_idx1 (nxlf rfl) se55 rfl rfl sF (show _ = (((i : Nat)) : Int) from by omega) (by omega) rfl ?_
      refine op_loadE (nxlf rfl) sc22 rfl sF (by first | exact get8 (by omega) | exact get64 (by omega) | exact get32 (by omega) | exact hv') (by first | exact mem0 | exact mem1 | exact mem2 | exact mem3 | exact mem4 | exact mem5 | exact mem6 | exact mem7 | exact mem8 | exact mem9) rfl ?_
      refine op_move (nxlf rfl) rfl rfl ?_
      refine op_move (nxlf rfl) rfl rfl ?_
      refine op_rem (nxlf rfl) rfl rfl (by omega) (by omega) rfl ?_
      refine op_conv8 (nxlf rfl) (und_some Try.underlying3) Try.underlying5 rfl (show _ = (((i % 125 : Nat)) : Int) from by omega) rfl ?_
      refine op_idx1 (nxlf rfl) se22 rfl rfl hrs' (show _ = (((k : Nat)) : Int) from by omega) (by omega) rfl ?_
      refine op_storeU (nxl rfl) sz5 rfl rfl rfl rfl rfl hr' (by simp <;> omega) (by simp) sel2 (fun NJ rJ oJ => ?_)
      rw [set8R] at rJ
      refine At.opsNil ?_
      refine At.inNorm ?_
      refine At.norm (hk_10 ?_)
      refine At.region ?_
      refine op_move (nxlf rfl) rfl rfl ?_
      refine op_addI (nxlf rfl) rfl rfl (by omega) (by omega) rfl ?_
      refine op_assign (nxlf rfl) rfl rfl ?_
      refine At.opsNil ?_
      refine At.norm ?_
      refine At.perm sel3 ?_
      refine At.perm sel1 ?_
      refine At.perm sel3 ?_
      refine At.perm sel3 ?_
      refine At.back ?_ (.refl _) ⟨k + 1, NJ, hs.set i (y.set k (UInt8.ofNat (i % 125))), y.set k (UInt8.ofNat (i % 125)), rfl, rfl, rfl, by omega, hh.set hv' rJ oJ, by rw [List.length_set, hhl], set_get hy, by rw [List.length_set, hyl], mark_set (by omega) hyt, fun j z hj hz => by rw [get_set_ne (by omega)] at hz; exact hhm j z hj hz, set_len hy (by rw [List.length_set]) hhb⟩ ?_
      · exact .cons (by first | exact lkI rfl (by omega) | rfl) (.cons (by first | exact lkI rfl (by omega) | rfl) (.cons (by first | exact lkI rfl (by omega) | rfl) .nil))
      · omega
    · refine At.exit (At.thenExit (At.thenExit (At.inHit ?_)))
      refine At.inNorm ?_
      refine At.norm (hk_6 ?_)
      refine At.region ?_
      refine op_move (nxlf rfl) rfl rfl ?_
      refine op_addI (nxlf rfl) rfl rfl (by omega) (by omega) rfl ?_
      refine op_assign (nxlf rfl) rfl rfl ?_
      refine At.opsNil ?_
      refine At.norm ?_
      refine At.back ?_ (.refl _) ⟨i + 1, NI, hs, rfl, rfl, rfl, by omega, hh, hhl, mark_more hhm hy (mark_all (by omega) hyt), hhb⟩ ?_
      · exact .cons (by first | exact lkI rfl (by omega) | rfl) (.cons (by first | exact lkI rfl (by omega) | rfl) .nil)
      · omega
  · refine At.exit (At.thenExit (At.thenExit (At.inHit ?_)))
    refine At.norm (hk_2 ?_)
    refine At.seq fun K11 hk_11 => ?_
    refine At.seq fun K12 hk_12 => ?_
    refine At.region ?_
    refine op_assign (nxlf rfl) rfl rfl ?_
    refine At.opsNil ?_
    refine At.norm (hk_12 ?_)
    refine At.block ?_
    have hgm := fun (j : Nat) (x : List UInt8) (h : gs[j]? = some x) => hgm j x (by have := (List.getElem?_eq_some_iff.1 h).1; omega) h
    refine At.empty ?_
    refine At.perm sel4 ?_
    refine At.perm sel4 ?_
    refine At.perm sel2 ?_
    refine At.perm sel4 ?_
    refine At.perm sel4 ?_
    refine At.loop (fun fr_ hp_ ms_ => ∃ (i : Nat) (N0 NO NI : Heaplet) (po : Option Addr) (co : Nat) (vo : List Value), fr_ = [(0, .pointer (some ⟨b0, 0, none⟩)), (5, .int .i64 (i : Int))] ∧ hp_ = [N0, NF, NO, NI, R] ∧ nn - i = ms_ ∧ (i ≤ nn) ∧ (Blk N0 b0 e0 [.slice pf nn cf, w1, .slice po i co, .slice none 0 0, v4]) ∧ (Row NO 22 1 po i co vo) ∧ (Bag 5 NI vf gs) ∧ (Ones 16 NI vf vo i)) ?_ (.refl _) ⟨0, N0, nilH, NI, none, 0, [], rfl, rfl, rfl, by omega, B0, Row.nil _ _ _, hg, Ones.zero _ _ _ _⟩ ?_
    · exact .cons (by first | exact lkI rfl (by omega) | rfl) (.cons (by first | exact lkI rfl (by omega) | rfl) .nil)
    rintro _ _ _ ⟨i, N0, NO, NI, po, co, vo, rfl, rfl, rfl, hi, B0, rO, hg, ho⟩
    refine At.seq fun K13 hk_13 => ?_
    refine At.seq fun K14 hk_14 => ?_
    refine At.region ?_
    refine op_move (nxlf rfl) rfl rfl ?_
    refine op_move (nxlf rfl) rfl rfl ?_
    refine op_nilChk (nxlf rfl) rfl rfl ?_
    refine op_fieldAddr (nxlf rfl) fl60_0 rfl rfl ?_
    refine op_loadB (nxlf rfl) sc55 rfl B0 (by first | rfl) mem0 rfl ?_
    refine op_lenS (nxlf rfl) se55 rfl rfl ?_
    refine op_lss (nxlf rfl) rfl rfl rfl ?_
    refine At.opsNil ?_
    refine At.norm (hk_14 ?_)
    refine At.condP rfl (fun c50 => ?_) (fun c50 => ?_)
    · obtain ⟨x, hx⟩ := get_lt (xs := gs) (i := i) (by omega)
      have hxm := hgm i x hx
      have hxb := hgb i x hx
      have hvo : vo.length = i := by have := rO.1; rwa [Nat.mul_one] at this
      obtain ⟨p, c, hv, hr⟩ := hg.row i x hx
      have hx' : gs[i]? = some (mk1 i x.length) := by rw [← hxm]; exact hx
      refine At.skip ?_
      refine At.norm (hk_13 ?_)
      refine At.seq fun K15 hk_15 => ?_
      refine At.block ?_
      refine At.seq fun K16 hk_16 => ?_
      refine At.region ?_
      refine op_move (nxlf rfl) rfl rfl ?_
      refine op_nilChk (nxlf rfl) rfl rfl ?_
      refine op_fieldAddr (nxlf rfl) fl60_0 rfl rfl ?_
      refine op_loadB (nxlf rfl) sc55 rfl B0 (by first | rfl) mem0 rfl ?_
      refine op_move (nxlf rfl) rfl rfl ?_
      refine op_idx1 (nxlf rfl) se55 rfl rfl sF (show _ = (((i : Nat)) : Int) from by omega) (by omega) rfl ?_
      refine op_loadE (nxlf rfl) sc22 rfl sF (by first | exact get8 (by omega) | exact get64 (by omega) | exact get32 (by omega) | exact hv) (by first | exact mem0 | exact mem1 | exact mem2 | exact mem3 | exact mem4 | exact mem5 | exact mem6 | exact mem7 | exact mem8 | exact mem9) rfl ?_
      refine op_assign (nxlf rfl) rfl rfl ?_
      refine At.opsNil ?_
      refine At.norm (hk_16 ?_)
      refine At.seq fun K17 hk_17 => ?_
      refine At.seq fun K18 hk_18 => ?_
      refine At.region ?_
      refine op_assign (nxlf rfl) rfl rfl ?_
      refine At.opsNil ?_
      refine At.norm (hk_18 ?_)
      refine At.block ?_
      refine At.loop (fun fr_ hp_ ms_ => ∃ (k : Nat) (NI : Heaplet) (q : Option Addr) (d : Nat), fr_ = [(0, .pointer (some ⟨b0, 0, none⟩)), (5, .int .i64 (i : Int)), (6, .slice q (x.length + k) d), (7, .int .i64 (k : Int))] ∧ hp_ = [N0, NF, NO, NI, R] ∧ 16 - k = ms_ ∧ (k ≤ 16) ∧ (One gs vf vo i x.length p c 16 NI q d k)) ?_ (.refl _) ⟨0, NI, p, c, rfl, rfl, rfl, by omega, One.start (by omega) hg ho hx' hv⟩ ?_
      · exact .cons (by first | exact lkI rfl (by omega) | rfl) (.cons (by first | exact lkI rfl (by omega) | rfl) (.cons (by first | exact lkI rfl (by omega) | rfl) (.cons (by first | exact lkI rfl (by omega) | rfl) .nil)))
      rintro _ _ _ ⟨k, NI, q, d, rfl, rfl, rfl, hk, h1⟩
      refine At.seq fun K19 hk_19 => ?_
      refine At.seq fun K20 hk_20 => ?_
      refine At.region ?_
      refine op_move (nxlf rfl) rfl rfl ?_
      refine op_lss (nxlf rfl) rfl rfl rfl ?_
      refine At.opsNil ?_
      refine At.norm (hk_20 ?_)
      refine At.condP rfl (fun c61 => ?_) (fun c61 => ?_)
      · refine At.skip ?_
        refine At.norm (hk_19 ?_)
        refine At.seq fun K21 hk_21 => ?_
        refine At.block ?_
        refine At.region ?_
        refine op_move (nxlf rfl) rfl rfl ?_
        refine op_move (nxlf rfl) rfl rfl ?_
        refine op_rem (nxlf rfl) rfl rfl (by omega) (by omega) rfl ?_
        refine op_addI (nxlf rfl) rfl rfl (by omega) (by omega) rfl ?_
        refine op_conv8 (nxlf rfl) (und_some Try.underlying3) Try.underlying5 rfl (show _ = (((125 + i % 125 : Nat)) : Int) from by omega) rfl ?_
        refine op_lit (nxla rfl) Try.underlying22 ze5 sz5 (.cons rfl .nil) rfl rfl (by simp [Value.cells]) rfl rfl rfl (fun N69 a69 r69 => ?_)
        simp only [flatV, List.flatMap_cons, List.flatMap_nil, Value.cells, List.append_nil, List.cons_append, List.nil_append] at r69
        have s69 := r69.rsl
        refine op_appendU (nxl rfl) Try.underlying22 Try.underlying22 te5 rfl rfl h1.hq s69 (by first | exact mem0 | exact mem1 | exact mem2 | exact mem3 | exact mem4 | exact mem5 | exact mem6 | exact mem7 | exact mem8 | exact mem9) (by omega) (by first | exact one_u8s _ | exact one_u64s _ | exact one_u32s _ | (intro u hu; simp at hu; subst hu; rfl)) (by omega) (by omega) sel4 rfl (fun NJ a70 p70 rJ oJ => ?_)
        change Row NJ _ 1 a70 (x.length + (k + 1)) p70 (u8s (mk1 i x.length ++ mk2 i k) ++ u8s [UInt8.ofNat (125 + i % 125)]) at rJ
        rw [← u8s_append, List.append_assoc, ← mk2_succ] at rJ
        refine op_assign (nxlf rfl) rfl rfl ?_
        refine At.opsNil ?_
        refine At.inNorm ?_
        refine At.norm (hk_21 ?_)
        refine At.region ?_
        refine op_move (nxlf rfl) rfl rfl ?_
        refine op_addI (nxlf rfl) rfl rfl (by omega) (by omega) rfl ?_
        refine op_assign (nxlf rfl) rfl rfl ?_
        refine At.opsNil ?_
        refine At.norm ?_
        refine At.sub (L' := [NJ, N0, NF, NO, R]) (.cons_cons _ (.cons _ (.cons_cons _ (.cons_cons _ (.cons_cons _ (.cons_cons _ (.slnil))))))) ?_
        refine At.perm sel4 ?_
        refine At.perm sel1 ?_
        refine At.perm sel4 ?_
        refine At.perm sel4 ?_
        refine At.perm sel4 ?_
        refine At.back ?_ (.refl _) ⟨k + 1, NJ, a70, p70, rfl, rfl, rfl, by omega, h1.step hx' hv rJ oJ⟩ ?_
        · exact .cons (by first | exact lkI rfl (by omega) | rfl) (.cons (by first | exact lkI rfl (by omega) | rfl) (.cons (by first | exact lkI rfl (by omega) | rfl) (.cons (by first | exact lkI rfl (by omega) | rfl) .nil)))
        · omega
      · refine At.exit (At.thenExit (At.thenExit (At.inHit ?_)))
        refine At.norm (hk_17 ?_)
        refine At.region ?_
        obtain rfl : k = 16 := by omega
        refine op_move (nxlf rfl) rfl rfl ?_
        refine op_move (nxlf rfl) rfl rfl ?_
        refine op_nilChk (nxlf rfl) rfl rfl ?_
        refine op_fieldAddr (nxlf rfl) fl60_2 rfl rfl ?_
        refine op_loadB (nxlf rfl) sc55 rfl B0 (by first | rfl) mem0 rfl ?_
        refine op_move (nxlf rfl) rfl rfl ?_
        refine op_lit (nxla rfl) Try.underlying55 ze22 sz22 (.cons rfl .nil) rfl rfl (by simp [Value.cells]) rfl rfl rfl (fun N77 a77 r77 => ?_)
        simp only [flatV, List.flatMap_cons, List.flatMap_nil, Value.cells, List.append_nil, List.cons_append, List.nil_append] at r77
        have s77 := r77.rsl
        refine op_append (nxl rfl) Try.underlying55 Try.underlying55 te22 rfl rfl rO s77 (by first | exact mem0 | exact mem1 | exact mem2 | exact mem3 | exact mem4 | exact mem5 | exact mem6 | exact mem7 | exact mem8 | exact mem9) (by first | exact one_u8s _ | exact one_u64s _ | exact one_u32s _ | (intro u hu; simp at hu; subst hu; rfl)) (by omega) (by omega) sel3 rfl (fun N78 a78 p78 r78 => ?_)
        have s78 := r78.rsl
        refine op_nilChk (nxlf rfl) rfl rfl ?_
        refine op_fieldAddr (nxlf rfl) fl60_2 rfl rfl ?_
        refine op_store (nxl rfl) sz55 rfl rfl rfl rfl rfl B0 (by simp) sel2 (fun N0 B0 => ?_)
        simp only [setL, List.set] at B0
        refine At.opsNil ?_
        refine At.inNorm ?_
        refine At.norm (hk_15 ?_)
        refine At.region ?_
        refine op_move (nxlf rfl) rfl rfl ?_
        refine op_addI (nxlf rfl) rfl rfl (by omega) (by omega) rfl ?_
        refine op_assign (nxlf rfl) rfl rfl ?_
        refine At.opsNil ?_
        refine At.norm ?_
        refine At.sub (L' := [N0, N78, NF, NI, R]) (.cons_cons _ (.cons_cons _ (.cons _ (.cons_cons _ (.cons_cons _ (.cons_cons _ (.slnil))))))) ?_
        refine At.perm sel4 ?_
        refine At.perm sel4 ?_
        refine At.perm sel3 ?_
        refine At.perm sel4 ?_
        refine At.perm sel4 ?_
        refine At.back ?_ (.refl _) ⟨i + 1, N0, N78, NI, a78, p78, vo ++ [Value.slice q (x.length + 16) d], rfl, rfl, rfl, by omega, B0, r78, h1.hg, h1.ones hv hvo⟩ ?_
        · exact .cons (by first | exact lkI rfl (by omega) | rfl) (.cons (by first | exact lkI rfl (by omega) | rfl) .nil)
        · omega
    · refine At.exit (At.thenExit (At.thenExit (At.inHit ?_)))
      refine At.norm (hk_11 ?_)
      refine At.seq fun K22 hk_22 => ?_
      refine At.seq fun K23 hk_23 => ?_
      refine At.region ?_
      have hi' : i = nn := by omega
      subst hi'
      have sO := rO.rsl
      have hrd := look_ready hg hgm hgl ho
      refine op_move (nxlf rfl) rfl rfl ?_
      refine op_move (nxlf rfl) rfl rfl ?_
      refine op_nilChk (nxlf rfl) rfl rfl ?_
      refine op_fieldAddr (nxlf rfl) fl60_2 rfl rfl ?_
      refine op_loadB (nxlf rfl) sc55 rfl B0 (by first | rfl) mem0 rfl ?_
      refine At.perm sel4 ?_
      refine At.perm sel3 ?_
      refine At.perm sel4 ?_
      refine At.perm sel4 ?_
      refine At.perm sel4 ?_
      refine op_call (nxl rfl) (.cons rfl (.cons rfl .nil)) (BookLook_o B0 sF sO hrd) (F := [NO, R]) Try.func56 rfl rfl (.refl _) (by simp) rfl ?_
      rintro v86 L86 ⟨rfl, rfl⟩
      change At _ _ _ [N0, NF, NI, NO, R] _
      refine op_not (nxlf rfl) rfl rfl ?_
      refine At.opsNil ?_
      refine At.norm (hk_23 ?_)
      refine At.condF rfl ?_
      refine At.skip ?_
      refine At.norm (hk_22 ?_)
      refine At.seq fun K24 hk_24 => ?_
      refine At.seq fun K25 hk_25 => ?_
      refine At.region ?_
      refine op_assign (nxlf rfl) rfl rfl ?_
      refine At.opsNil ?_
      refine At.norm (hk_25 ?_)
      refine At.block ?_
      refine At.empty ?_
      refine At.perm sel5 ?_
      refine At.perm sel4 ?_
      refine At.perm sel2 ?_
      refine At.perm sel5 ?_
      refine At.perm sel5 ?_
      refine At.perm sel5 ?_
      refine At.loop (fun fr_ hp_ ms_ => ∃ (i' : Nat) (N0 NM NI : Heaplet) (pm : Option Addr) (cm : Nat) (vm : List Value), fr_ = [(0, .pointer (some ⟨b0, 0, none⟩)), (8, .int .i64 (i' : Int))] ∧ hp_ = [N0, NF, NO, NM, NI, R] ∧ i - i' = ms_ ∧ (i' ≤ i) ∧ (Blk N0 b0 e0 [.slice pf i cf, w1, .slice po i co, .slice pm i' cm, v4]) ∧ (Row NM 22 1 pm i' cm vm) ∧ (Bag 5 NI vf gs) ∧ (Ones 16 NI vf vo i) ∧ (Ones 700 NI vf vm i')) ?_ (.refl _) ⟨0, N0, nilH, NI, none, 0, [], rfl, rfl, rfl, by omega, B0, Row.nil _ _ _, hg, ho, Ones.zero _ _ _ _⟩ ?_
      · exact .cons (by first | exact lkI rfl (by omega) | rfl) (.cons (by first | exact lkI rfl (by omega) | rfl) .nil)
      rintro _ _ _ ⟨i', N0, NM, NI, pm, cm, vm, rfl, rfl, rfl, hi, B0, rM, hg, ho, hm⟩
      refine At.seq fun K26 hk_26 => ?_
      refine At.seq fun K27 hk_27 => ?_
      refine At.region ?_
      refine op_move (nxlf rfl) rfl rfl ?_
      refine op_move (nxlf rfl) rfl rfl ?_
      refine op_nilChk (nxlf rfl) rfl rfl ?_
      refine op_fieldAddr (nxlf rfl) fl60_0 rfl rfl ?_
      refine op_loadB (nxlf rfl) sc55 rfl B0 (by first | rfl) mem0 rfl ?_
      refine op_lenS (nxlf rfl) se55 rfl rfl ?_
      refine op_lss (nxlf rfl) rfl rfl rfl ?_
      refine At.opsNil ?_
      refine At.norm (hk_27 ?_)
      refine At.condP rfl (fun c94 => ?_) (fun c94 => ?_)
      · obtain ⟨x, hx⟩ := get_lt (xs := gs) (i := i') (by omega)
        have hxm := hgm i' x hx
        have hxb := hgb i' x hx
        have hvm : vm.length = i' := by have := rM.1; rwa [Nat.mul_one] at this
        obtain ⟨p, c, hv, hr⟩ := hg.row i' x hx
        have hx' : gs[i']? = some (mk1 i' x.length) := by rw [← hxm]; exact hx
        refine At.skip ?_
        refine At.norm (hk_26 ?_)
        refine At.seq fun K28 hk_28 => ?_
        refine At.block ?_
        refine At.seq fun K29 hk_29 => ?_
        refine At.region ?_
        refine op_assign (nxlf rfl) rfl rfl ?_
        refine At.opsNil ?_
        refine At.norm (hk_29 ?_)
        refine At.seq fun K30 hk_30 => ?_
        refine At.seq fun K31 hk_31 => ?_
        refine At.region ?_
        refine op_assign (nxlf rfl) rfl rfl ?_
        refine At.opsNil ?_
        refine At.norm (hk_31 ?_)
        refine At.block ?_
        refine At.empty ?_
        refine At.perm sel6 ?_
        refine At.perm sel1 ?_
        refine At.perm sel6 ?_
        refine At.perm sel6 ?_
        refine At.perm sel6 ?_
        refine At.perm sel6 ?_
        refine At.perm sel6 ?_
        refine At.loop (fun fr_ hp_ ms_ => ∃ (k : Nat) (NQ : Heaplet) (aq : Option Addr) (cq : Nat), fr_ = [(0, .pointer (some ⟨b0, 0, none⟩)), (8, .int .i64 (i' : Int)), (9, .slice aq k cq), (10, .int .i64 (k : Int))] ∧ hp_ = [N0, NF, NO, NM, NI, NQ, R] ∧ 700 - k = ms_ ∧ (k ≤ 700) ∧ (Row NQ 5 1 aq k cq (u8s (mk2 i' k)))) ?_ (.refl _) ⟨0, nilH, none, 0, rfl, rfl, rfl, by omega, Row.nil _ _ _⟩ ?_
        · exact .cons (by first | exact lkI rfl (by omega) | rfl) (.cons (by first | exact lkI rfl (by omega) | rfl) (.cons (by first | exact lkI rfl (by omega) | rfl) (.cons (by first | exact lkI rfl (by omega) | rfl) .nil)))
        rintro _ _ _ ⟨k, NQ, aq, cq, rfl, rfl, rfl, hk, rQ⟩
        refine At.seq fun K32 hk_32 => ?_
        refine At.seq fun K33 hk_33 => ?_
        refine At.region ?_
        refine op_move (nxlf rfl) rfl rfl ?_
        refine op_lss (nxlf rfl) rfl rfl rfl ?_
        refine At.opsNil ?_
        refine At.norm (hk_33 ?_)
        refine At.condP rfl (fun c98 => ?_) (fun c98 => ?_)
        · refine At.skip ?_
          refine At.norm (hk_32 ?_)
          refine At.seq fun K34 hk_34 => ?_
          refine At.block ?_
          refine At.region ?_
          refine op_move (nxlf rfl) rfl rfl ?_
          refine op_move (nxlf rfl) rfl rfl ?_
          refine op_rem (nxlf rfl) rfl rfl (by omega) (by omega) rfl ?_
          refine op_addI (nxlf rfl) rfl rfl (by omega) (by omega) rfl ?_
          refine op_conv8 (nxlf rfl) (und_some Try.underlying3) Try.underlying5 rfl (show _ = (((125 + i' % 125 : Nat)) : Int) from by omega) rfl ?_
          refine op_lit (nxla rfl) Try.underlying22 ze5 sz5 (.cons rfl .nil) rfl rfl (by simp [Value.cells]) rfl rfl rfl (fun N106 a106 r106 => ?_)
          simp only [flatV, List.flatMap_cons, List.flatMap_nil, Value.cells, List.append_nil, List.cons_append, List.nil_append] at r106
          have s106 := r106.rsl
          refine op_append (nxl rfl) Try.underlying22 Try.underlying22 te5 rfl rfl rQ s106 (by first | exact mem0 | exact mem1 | exact mem2 | exact mem3 | exact mem4 | exact mem5 | exact mem6 | exact mem7 | exact mem8 | exact mem9) (by first | exact one_u8s _ | exact one_u64s _ | exact one_u32s _ | (intro u hu; simp at hu; subst hu; rfl)) (by omega) (by omega) sel6 rfl (fun N107 a107 p107 r107 => ?_)
          have s107 := r107.rsl
          change Row N107 _ 1 a107 (k + 1) p107 (u8s (mk2 i' k) ++ u8s [UInt8.ofNat (125 + i' % 125)]) at r107
          rw [← u8s_append, ← mk2_succ] at r107
          refine op_assign (nxlf rfl) rfl rfl ?_
          refine At.opsNil ?_
          refine At.inNorm ?_
          refine At.norm (hk_34 ?_)
          refine At.region ?_
          refine op_move (nxlf rfl) rfl rfl ?_
          refine op_addI (nxlf rfl) rfl rfl (by omega) (by omega) rfl ?_
          refine op_assign (nxlf rfl) rfl rfl ?_
          refine At.opsNil ?_
          refine At.norm ?_
          refine At.sub (L' := [N107, N0, NF, NO, NM, NI, R]) (.cons_cons _ (.cons _ (.cons_cons _ (.cons_cons _ (.cons_cons _ (.cons_cons _ (.cons_cons _ (.cons_cons _ (.slnil))))))))) ?_
          refine At.perm sel6 ?_
          refine At.perm sel1 ?_
          refine At.perm sel6 ?_
          refine At.perm sel6 ?_
          refine At.perm sel6 ?_
          refine At.perm sel6 ?_
          refine At.perm sel6 ?_
          refine At.back ?_ (.refl _) ⟨k + 1, N107, a107, p107, rfl, rfl, rfl, by omega, r107⟩ ?_
          · exact .cons (by first | exact lkI rfl (by omega) | rfl) (.cons (by first | exact lkI rfl (by omega) | rfl) (.cons (by first | exact lkI rfl (by omega) | rfl) (.cons (by first | exact lkI rfl (by omega) | rfl) .nil)))
          · omega
        · refine At.exit (At.thenExit (At.thenExit (At.inHit ?_)))
          refine At.norm (hk_30 ?_)
          refine At.perm sel6 ?_
          refine At.perm sel6 ?_
          refine At.perm sel3 ?_
          refine At.perm sel3 ?_
          refine At.perm sel6 ?_
          refine At.perm sel6 ?_
          refine At.perm sel6 ?_
          refine At.drawnS [N0, NF, NQ, R] [15,18] [0,1] [0,1,2,3,4,5,6,7,8,9,10,11,12,13,14,15,16,17,18] (by kernel_rfl) (by kernel_rfl) (.cons _ (.cons _ (.cons _ (.refl _)))) ?_
          obtain rfl : k = 700 := by omega
          have sQ := rQ.rsl
          refine op_move (nxsf rfl rfl rfl) rfl rfl ?_
          refine op_move (nxsf rfl rfl rfl) rfl rfl ?_
          refine op_nilChk (nxsf rfl rfl rfl) rfl rfl ?_
          refine op_fieldAddr (nxsf rfl rfl rfl) fl60_3 rfl rfl ?_
          refine op_loadB (nxsf rfl rfl rfl) sc55 rfl B0 (by first | rfl) mem0 rfl ?_
          refine op_move (nxsf rfl rfl rfl) rfl rfl ?_
          refine op_nilChk (nxsf rfl rfl rfl) rfl rfl ?_
          refine op_fieldAddr (nxsf rfl rfl rfl) fl60_0 rfl rfl ?_
          refine op_loadB (nxsf rfl rfl rfl) sc55 rfl B0 (by first | rfl) mem0 rfl ?_
          refine op_move (nxsf rfl rfl rfl) rfl rfl ?_
          refine op_idx1 (nxsf rfl rfl rfl) se55 rfl rfl sF (show _ = (((i' : Nat)) : Int) from by omega) (by omega) rfl ?_
          refine op_loadE (nxsf rfl rfl rfl) sc22 rfl sF (by first | exact get8 (by omega) | exact get64 (by omega) | exact get32 (by omega) | exact hv) (by first | exact mem0 | exact mem1 | exact mem2 | exact mem3 | exact mem4 | exact mem5 | exact mem6 | exact mem7 | exact mem8 | exact mem9) rfl ?_
          refine op_move (nxsf rfl rfl rfl) rfl rfl ?_
          refine op_appendU (nxsm rfl rfl rfl) Try.underlying22 Try.underlying22 te5 rfl rfl hr sQ (by first | exact mem0 | exact mem1 | exact mem2 | exact mem3 | exact mem4 | exact mem5 | exact mem6 | exact mem7 | exact mem8 | exact mem9) (by omega) (by first | exact one_u8s _ | exact one_u64s _ | exact one_u32s _ | (intro u hu; simp at hu; subst hu; rfl)) (by omega) (by omega) sel2 rfl (fun NJ a121 p121 rJ oJ => ?_)
          rw [← u8s_append] at rJ
          have h3 := many_step (K1 := 16) (by omega) (by omega) (show i' < i by omega) hg ho hm hvm hx' hv (by rw [← hxm]; exact rJ) oJ
          refine At.perm sel6 ?_
          refine At.perm sel6 ?_
          refine At.perm sel6 ?_
          refine At.perm sel6 ?_
          refine At.perm sel4 ?_
          refine At.perm sel6 ?_
          refine At.perm sel6 ?_
          refine At.moreS (Lst := [N0, NF, NQ, R]) (Lst' := [NJ, N0, NF, NQ, R]) (.cons _ (.refl _)) (.cons _ (.cons _ (.refl _))) ?_
          refine op_lit (Nx.agree (nxsm rfl rfl rfl)) Try.underlying55 ze22 sz22 (.cons rfl .nil) rfl rfl (by simp [Value.cells]) rfl rfl rfl (fun N122 a122 r122 => ?_)
          simp only [flatV, List.flatMap_cons, List.flatMap_nil, Value.cells, List.append_nil, List.cons_append, List.nil_append] at r122
          have s122 := r122.rsl
          refine At.perm sel7 ?_
          refine At.perm sel7 ?_
          refine At.perm sel7 ?_
          refine At.perm sel7 ?_
          refine At.perm sel7 ?_
          refine At.perm sel5 ?_
          refine At.perm sel7 ?_
          refine At.perm sel7 ?_
          refine At.moreS (Lst := [NJ, N0, NF, NQ, R]) (Lst' := [N122, NJ, N0, NF, NQ, R]) (.cons _ (.refl _)) (.cons _ (.cons _ (.refl _))) ?_
          refine op_append (nxss rfl rfl rfl rfl) Try.underlying55 Try.underlying55 te22 rfl rfl rM s122 (by first | exact mem0 | exact mem1 | exact mem2 | exact mem3 | exact mem4 | exact mem5 | exact mem6 | exact mem7 | exact mem8 | exact mem9) (by first | exact one_u8s _ | exact one_u64s _ | exact one_u32s _ | (intro u hu; simp at hu; subst hu; rfl)) (by omega) (by omega) sel1 rfl (fun N123 a123 p123 r123 => ?_)
          have s123 := r123.rsl
          refine At.anyS (.refl _) ?_
          refine op_nilChk (nxsf rfl rfl rfl) rfl rfl ?_
          refine op_fieldAddr (nxsf rfl rfl rfl) fl60_3 rfl rfl ?_
          refine op_store (nxsl rfl rfl rfl rfl) sz55 rfl rfl rfl rfl rfl B0 (by simp) sel4 (fun N0 B0 => ?_)
          simp only [setL, List.set] at B0
          refine At.sNil ?_
          refine At.inNorm ?_
          refine At.norm (hk_28 ?_)
          refine At.region ?_
          refine op_move (nxlf rfl) rfl rfl ?_
          refine op_addI (nxlf rfl) rfl rfl (by omega) (by omega) rfl ?_
          refine op_assign (nxlf rfl) rfl rfl ?_
          refine At.opsNil ?_
          refine At.norm ?_
          refine At.sub (L' := [N0, N123, NO, NJ, NF, R]) (.cons_cons _ (.cons_cons _ (.cons_cons _ (.cons _ (.cons_cons _ (.cons_cons _ (.cons _ (.cons_cons _ (.slnil))))))))) ?_
          refine At.perm sel5 ?_
          refine At.perm sel4 ?_
          refine At.perm sel3 ?_
          refine At.perm sel4 ?_
          refine At.perm sel5 ?_
          refine At.perm sel5 ?_
          refine At.back ?_ (.refl _) ⟨i' + 1, N0, N123, NJ, a123, p123, vm ++ [Value.slice a121 (x.length + 700) p121], rfl, rfl, rfl, by omega, B0, r123, h3.1, h3.2.1, h3.2.2⟩ ?_
          · exact .cons (by first | exact lkI rfl (by omega) | rfl) (.cons (by first | exact lkI rfl (by omega) | rfl) .nil)
          · omega
      · refine At.exit (At.thenExit (At.thenExit (At.inHit ?_)))
        refine At.norm (hk_24 ?_)
        refine At.seq fun K35 hk_35 => ?_
        refine At.region ?_
        have hi2 : i' = i := by omega
        subst hi2
        have sM := rM.rsl
        have hrd1 := look_ready hg hgm hgl hm
        have hrd2 := look_ready hg hgm hgl ho
        refine op_move (nxlf rfl) rfl rfl ?_
        refine op_move (nxlf rfl) rfl rfl ?_
        refine op_nilChk (nxlf rfl) rfl rfl ?_
        refine op_fieldAddr (nxlf rfl) fl60_3 rfl rfl ?_
        refine op_loadB (nxlf rfl) sc55 rfl B0 (by first | rfl) mem0 rfl ?_
        refine At.perm sel5 ?_
        refine At.perm sel4 ?_
        refine At.perm sel4 ?_
        refine At.perm sel5 ?_
        refine At.perm sel5 ?_
        refine At.perm sel5 ?_
        refine op_call (nxl rfl) (.cons rfl (.cons rfl .nil)) (BookLook_o B0 sF sM hrd1) (F := [NO, NM, R]) Try.func56 rfl rfl (.refl _) (by simp) rfl ?_
        rintro v131 L131 ⟨rfl, rfl⟩
        change At _ _ _ [N0, NF, NI, NO, NM, R] _
        refine op_move (nxlf rfl) rfl rfl ?_
        refine op_move (nxgf rfl rfl rfl rfl) rfl rfl ?_
        refine op_move (nxgf rfl rfl rfl rfl) rfl rfl ?_
        refine op_nilChk (nxgf rfl rfl rfl rfl) rfl rfl ?_
        refine op_fieldAddr (nxgf rfl rfl rfl rfl) fl60_2 rfl rfl ?_
        refine op_loadB (nxgf rfl rfl rfl rfl) sc55 rfl B0 (by first | rfl) mem0 rfl ?_
        refine op_call (nxg rfl rfl rfl rfl) (.cons rfl (.cons rfl .nil)) (BookLook_o B0 sF sO hrd2) (F := [NO, NM, R]) Try.func56 rfl rfl (.refl _) (by simp) rfl ?_
        rintro v138 L138 ⟨rfl, rfl⟩
        change At _ _ _ [N0, NF, NI, NO, NM, R] _
        refine op_pickT (nxlf rfl) rfl rfl rfl ?_
        refine op_assign (nxlf rfl) rfl rfl ?_
        refine At.opsNil ?_
        refine At.norm (hk_35 ?_)
        refine At.ret (?_)
        refine At.sub (L' := [R]) (.cons _ (.cons _ (.cons _ (.cons _ (.cons _ (.cons_cons _ (.slnil))))))) ?_
        refine At.ret1 (L1 := []) rfl (.tmp rfl .nil) (.refl _) (.refl _) ?_
        exact ⟨rfl, rfl⟩
end Go.Proofs.Ytohmmgggaegbbaa
