/- The reference's Decode; quarrylaw05.RlpDecode answers true. No condition but that bytes are not longer than a machine holds. -/
import Derived.Test.YtohmmgggaegbbaaV4
namespace Go.Proofs.Ytohmmgggaegbbaa
set_option linter.unusedVariables false
set_option linter.unusedSimpArgs false
open Go Go.RowKit
theorem first_none {N : Heaplet} {ao : Option Addr} {n cap : Nat} {b : List UInt8} (h : RSl N 1 ao n cap (u8s b)) (hn : n ≤ 1099511627776) (hc : cutF b = none) (k : Nat) (q : Int) :
    Fn Try.prog 38 #[.slice ao n cap, .int .i64 q] [] [N] (DecP ao n cap b (decF k b)) := by
  have hd : decF k b = .error 2 := by cases k <;> simp [decF, hc]
  refine Fn.enter (vs := [.slice ao n cap, .int .i64 q]) Try.func38 rfl rfl rfl ?_
  intro E R hR
  have h := h.le (hR N (by simp))
  change At _ _ E [R] _
  refine At.seq fun K1 hk_1 => ?_
  refine At.region ?_
  refine op_alloc (nxla rfl) ze25 rfl (fun N4 b4 B4 => ?_)
  change Blk N4 b4 _ [.bool false, .slice none 0 0, .slice none 0 0] at B4
  refine op_assign (nxlf rfl) rfl rfl ?_
  refine op_assign (nxlf rfl) rfl rfl ?_
  refine At.opsNil ?_
  refine At.norm (hk_1 ?_)
  refine At.seq fun K2 hk_2 => ?_
  refine At.region ?_
  refine op_move (nxlf rfl) rfl rfl ?_
  refine op_callA (nxla rfl) (.cons rfl .nil) (rSplit_none h hn hc) Try.func24 rfl rfl (by simp) rfl ?_
  rintro v17 L17 ⟨rfl, rfl⟩
  change At _ _ _ [N4, R] _
  refine op_move (nxlf rfl) rfl rfl ?_
  refine op_extract (nxlf rfl) rfl rfl rfl ?_
  refine op_extract (nxlf rfl) rfl rfl rfl ?_
  refine op_extract (nxlf rfl) rfl rfl rfl ?_
  refine op_extract (nxlf rfl) rfl rfl rfl ?_
  refine op_assign (nxlf rfl) rfl rfl ?_
  refine op_assign (nxlf rfl) rfl rfl ?_
  refine op_assign (nxlf rfl) rfl rfl ?_
  refine op_assign (nxlf rfl) rfl rfl ?_
  refine At.opsNil ?_
  refine At.norm (hk_2 ?_)
  refine At.seq fun K3 hk_3 => ?_
  refine At.seq fun K4 hk_4 => ?_
  refine At.region ?_
  refine op_move (nxlf rfl) rfl rfl ?_
  refine op_neq (nxlf rfl) rfl rfl rfl ?_
  refine At.opsNil ?_
  refine At.norm (hk_4 ?_)
  refine At.condT rfl ?_
  refine At.seq fun K5 hk_5 => ?_
  refine At.region ?_
  refine op_build (out := [.bool false, .slice none 0 0, .slice none 0 0]) (nxlf rfl) ze25 pl25 .nil rfl rfl ?_
  refine op_move (nxlf rfl) rfl rfl ?_
  refine op_store (nxl rfl) sz25 rfl rfl rfl rfl rfl B4 (by simp) sel0 (fun N4 B4 => ?_)
  simp only [setL, List.set] at B4
  refine op_assign (nxlf rfl) rfl rfl ?_
  refine op_assign (nxlf rfl) rfl rfl ?_
  refine At.opsNil ?_
  refine At.norm (hk_5 ?_)
  refine At.ret (At.thenRet (?_))
  refine At.retN (L1 := []) rfl (.cell rfl (res_agg (ds := [_, _, _]) ag25 B4 rfl rfl mem0) (.tmp rfl (.tmp rfl .nil))) rfl (.cons _ (.refl _)) (.refl _) ?_
  exact .inr ⟨2, hd, rfl, rfl, by decide⟩
theorem first_text {N : Heaplet} {ao : Option Addr} {n cap : Nat} {b p r : List UInt8} (h : RSl N 1 ao n cap (u8s b)) (hn : n ≤ 1099511627776) (hc : cutF b = some (false, p, r)) (k : Nat) (q : Int) :
    Fn Try.prog 38 #[.slice ao n cap, .int .i64 q] [] [N] (DecP ao n cap b (decF k b)) := by
  have hd : decF k b = .ok (.mk false p [], r) := by cases k <;> simp [decF, hc]
  have hlen := h.len8
  have hcl := (cutF_len hc).1
  refine Fn.enter (vs := [.slice ao n cap, .int .i64 q]) Try.func38 rfl rfl rfl ?_
  intro E R hR
  have h := h.le (hR N (by simp))
  change At _ _ E [R] _
  refine At.seq fun K1 hk_1 => ?_
  refine At.region ?_
  refine op_alloc (nxla rfl) ze25 rfl (fun N4 b4 B4 => ?_)
  change Blk N4 b4 _ [.bool false, .slice none 0 0, .slice none 0 0] at B4
  refine op_assign (nxlf rfl) rfl rfl ?_
  refine op_assign (nxlf rfl) rfl rfl ?_
  refine At.opsNil ?_
  refine At.norm (hk_1 ?_)
  refine At.seq fun K2 hk_2 => ?_
  refine At.region ?_
  refine op_move (nxlf rfl) rfl rfl ?_
  refine op_callA (nxla rfl) (.cons rfl .nil) (rSplit_some h hn hc) Try.func24 rfl rfl (by simp) rfl ?_
  rintro v17 L17 ⟨a1, c1, a2, c2, rfl, rfl, h1, h2⟩
  change At _ _ _ [N4, R] _
  refine op_move (nxlf rfl) rfl rfl ?_
  refine op_extract (nxlf rfl) rfl rfl rfl ?_
  refine op_extract (nxlf rfl) rfl rfl rfl ?_
  refine op_extract (nxlf rfl) rfl rfl rfl ?_
  refine op_extract (nxlf rfl) rfl rfl rfl ?_
  refine op_assign (nxlf rfl) rfl rfl ?_
  refine op_assign (nxlf rfl) rfl rfl ?_
  refine op_assign (nxlf rfl) rfl rfl ?_
  refine op_assign (nxlf rfl) rfl rfl ?_
  refine At.opsNil ?_
  refine At.norm (hk_2 ?_)
  refine At.seq fun K3 hk_3 => ?_
  refine At.seq fun K4 hk_4 => ?_
  refine At.region ?_
  refine op_move (nxlf rfl) rfl rfl ?_
  refine op_neq (nxlf rfl) rfl rfl rfl ?_
  refine At.opsNil ?_
  refine At.norm (hk_4 ?_)
  refine At.condF rfl ?_
  refine At.skip ?_
  refine At.norm (hk_3 ?_)
  refine At.seq fun K5 hk_5 => ?_
  refine At.seq fun K6 hk_6 => ?_
  refine At.region ?_
  refine op_move (nxlf rfl) rfl rfl ?_
  refine op_not (nxlf rfl) rfl rfl ?_
  refine At.opsNil ?_
  refine At.norm (hk_6 ?_)
  refine At.condT rfl ?_
  refine At.seq fun K7 hk_7 => ?_
  refine At.region ?_
  refine op_lit (nxla rfl) Try.underlying22 ze5 sz5 .nil rfl rfl (by simp [Value.cells]) rfl rfl rfl (fun N28 a28 r28 => ?_)
  simp only [flatV, List.flatMap_cons, List.flatMap_nil, Value.cells, List.append_nil, List.cons_append, List.nil_append] at r28
  have s28 := r28.rsl
  refine op_move (nxlf rfl) rfl rfl ?_
  refine op_append (nxl rfl) Try.underlying22 Try.underlying22 te5 rfl rfl r28 (by assumption) (by first | exact mem0 | exact mem1 | exact mem2 | exact mem3 | exact mem4 | exact mem5 | exact mem6 | exact mem7 | exact mem8 | exact mem9) (by first | exact one_u8s _ | exact one_u64s _ | exact one_u32s _ | (intro u hu; simp at hu; subst hu; rfl)) (by omega) (by omega) sel0 rfl (fun N30 a30 p30 r30 => ?_)
  have s30 := r30.rsl
  refine op_build (out := [.bool false, _, .slice none 0 0]) (nxlf rfl) ze25 pl25 (.cons rfl .nil) rfl rfl ?_
  refine op_move (nxlf rfl) rfl rfl ?_
  refine op_store (nxl rfl) sz25 rfl rfl rfl rfl rfl B4 (by simp) sel1 (fun N4 B4 => ?_)
  simp only [setL, List.set] at B4
  refine op_assign (nxlf rfl) rfl rfl ?_
  refine op_assign (nxlf rfl) rfl rfl ?_
  refine At.opsNil ?_
  refine At.norm (hk_7 ?_)
  refine At.ret (At.thenRet (?_))
  refine At.retN (L1 := [N30]) rfl (.cell rfl (res_agg (ds := [_, _, _]) ag25 B4 rfl rfl mem0) (.tmp rfl (.tmp rfl .nil))) rfl (.cons _ (.refl _)) (.refl _) ?_
  rw [List.nil_append, Nat.zero_add] at s30
  refine .inl ⟨_, _, N30, ⟨false, a30, p.length, p30, none, 0, 0⟩, a2, c2, hd, ?_, rfl, ItN.mk s30 (xs := []) (RSl.nil _ _) rfl, h2⟩
  simp only [Nat.zero_add]
theorem first_deep {N : Heaplet} {ao : Option Addr} {n cap : Nat} {b p r : List UInt8} (h : RSl N 1 ao n cap (u8s b)) (hn : n ≤ 1099511627776) (hc : cutF b = some (true, p, r)) :
    Fn Try.prog 38 #[.slice ao n cap, .int .i64 1024] [] [N] (DecP ao n cap b (decF 0 b)) := by
  have hd : decF 0 b = .error 7 := by simp [decF, hc]
  refine Fn.enter (vs := [.slice ao n cap, .int .i64 1024]) Try.func38 rfl rfl rfl ?_
  intro E R hR
  have h := h.le (hR N (by simp))
  change At _ _ E [R] _
  refine At.seq fun K1 hk_1 => ?_
  refine At.region ?_
  refine op_alloc (nxla rfl) ze25 rfl (fun N4 b4 B4 => ?_)
  change Blk N4 b4 _ [.bool false, .slice none 0 0, .slice none 0 0] at B4
  refine op_assign (nxlf rfl) rfl rfl ?_
  refine op_assign (nxlf rfl) rfl rfl ?_
  refine At.opsNil ?_
  refine At.norm (hk_1 ?_)
  refine At.seq fun K2 hk_2 => ?_
  refine At.region ?_
  refine op_move (nxlf rfl) rfl rfl ?_
  refine op_callA (nxla rfl) (.cons rfl .nil) (rSplit_some h hn hc) Try.func24 rfl rfl (by simp) rfl ?_
  rintro v17 L17 ⟨a1, c1, a2, c2, rfl, rfl, h1, h2⟩
  change At _ _ _ [N4, R] _
  refine op_move (nxlf rfl) rfl rfl ?_
  refine op_extract (nxlf rfl) rfl rfl rfl ?_
  refine op_extract (nxlf rfl) rfl rfl rfl ?_
  refine op_extract (nxlf rfl) rfl rfl rfl ?_
  refine op_extract (nxlf rfl) rfl rfl rfl ?_
  refine op_assign (nxlf rfl) rfl rfl ?_
  refine op_assign (nxlf rfl) rfl rfl ?_
  refine op_assign (nxlf rfl) rfl rfl ?_
  refine op_assign (nxlf rfl) rfl rfl ?_
  refine At.opsNil ?_
  refine At.norm (hk_2 ?_)
  refine At.seq fun K3 hk_3 => ?_
  refine At.seq fun K4 hk_4 => ?_
  refine At.region ?_
  refine op_move (nxlf rfl) rfl rfl ?_
  refine op_neq (nxlf rfl) rfl rfl rfl ?_
  refine At.opsNil ?_
  refine At.norm (hk_4 ?_)
  refine At.condF rfl ?_
  refine At.skip ?_
  refine At.norm (hk_3 ?_)
  refine At.seq fun K5 hk_5 => ?_
  refine At.seq fun K6 hk_6 => ?_
  refine At.region ?_
  refine op_move (nxlf rfl) rfl rfl ?_
  refine op_not (nxlf rfl) rfl rfl ?_
  refine At.opsNil ?_
  refine At.norm (hk_6 ?_)
  refine At.condF rfl ?_
  refine At.skip ?_
  refine At.norm (hk_5 ?_)
  refine At.seq fun K7 hk_7 => ?_
  refine At.seq fun K8 hk_8 => ?_
  refine At.region ?_
  refine op_move (nxlf rfl) rfl rfl ?_
  refine op_eql (nxlf rfl) rfl rfl rfl ?_
  refine At.opsNil ?_
  refine At.norm (hk_8 ?_)
  refine At.condP rfl (fun c34 => ?_) (fun c34 => ?_)
  · refine At.seq fun K9 hk_9 => ?_
    refine At.region ?_
    refine op_build (out := [.bool false, .slice none 0 0, .slice none 0 0]) (nxlf rfl) ze25 pl25 .nil rfl rfl ?_
    refine op_store (nxl rfl) sz25 rfl rfl rfl rfl rfl B4 (by simp) sel0 (fun N4 B4 => ?_)
    simp only [setL, List.set] at B4
    refine op_assign (nxlf rfl) rfl rfl ?_
    refine op_assign (nxlf rfl) rfl rfl ?_
    refine At.opsNil ?_
    refine At.norm (hk_9 ?_)
    refine At.ret (At.thenRet (?_))
    refine At.retN (L1 := []) rfl (.cell rfl (res_agg (ds := [_, _, _]) ag25 B4 rfl rfl mem0) (.tmp rfl (.tmp rfl .nil))) rfl (.cons _ (.refl _)) (.refl _) ?_
    exact .inr ⟨7, hd, rfl, rfl, by decide⟩
  · exact absurd rfl c34
theorem first_its {N : Heaplet} {ao : Option Addr} {n cap : Nat} {b p r : List UInt8} (h : RSl N 1 ao n cap (u8s b)) (hn : n ≤ 1099511627776) (hc : cutF b = some (true, p, r)) (k : Nat) (q : Int) (hq : q + k + 1 = 1024) (hk0 : 0 ≤ q)
    (ih : ∀ (N : Heaplet) (ao : Option Addr) (n cap : Nat) (b : List UInt8) (q : Int), RSl N 1 ao n cap (u8s b) → n ≤ 1099511627776 → q + k = 1024 → 0 ≤ q → Fn Try.prog 38 #[.slice ao n cap, .int .i64 q] [] [N] (DecP ao n cap b (decF k b))) :
    Fn Try.prog 38 #[.slice ao n cap, .int .i64 q] [] [N] (DecP ao n cap b (decF (k + 1) b)) := by
  have hlen := h.len8
  have hcl := (cutF_len hc).1
  refine Fn.enter (vs := [.slice ao n cap, .int .i64 q]) Try.func38 rfl rfl rfl ?_
  intro E R hR
  have h := h.le (hR N (by simp))
  change At _ _ E [R] _
  refine At.seq fun K1 hk_1 => ?_
  refine At.region ?_
  refine op_alloc (nxla rfl) ze25 rfl (fun N4 b4 B4 => ?_)
  change Blk N4 b4 _ [.bool false, .slice none 0 0, .slice none 0 0] at B4
  refine op_assign (nxlf rfl) rfl rfl ?_
  refine op_assign (nxlf rfl) rfl rfl ?_
  refine At.opsNil ?_
  refine At.norm (hk_1 ?_)
  refine At.seq fun K2 hk_2 => ?_
  refine At.region ?_
  refine op_move (nxlf rfl) rfl rfl ?_
  refine op_callA (nxla rfl) (.cons rfl .nil) (rSplit_some h hn hc) Try.func24 rfl rfl (by simp) rfl ?_
  rintro v17 L17 ⟨a1, c1, a2, c2, rfl, rfl, h1, h2⟩
  change At _ _ _ [N4, R] _
  refine op_move (nxlf rfl) rfl rfl ?_
  refine op_extract (nxlf rfl) rfl rfl rfl ?_
  refine op_extract (nxlf rfl) rfl rfl rfl ?_
  refine op_extract (nxlf rfl) rfl rfl rfl ?_
  refine op_extract (nxlf rfl) rfl rfl rfl ?_
  refine op_assign (nxlf rfl) rfl rfl ?_
  refine op_assign (nxlf rfl) rfl rfl ?_
  refine op_assign (nxlf rfl) rfl rfl ?_
  refine op_assign (nxlf rfl) rfl rfl ?_
  refine At.opsNil ?_
  refine At.norm (hk_2 ?_)
  refine At.seq fun K3 hk_3 => ?_
  refine At.seq fun K4 hk_4 => ?_
  refine At.region ?_
  refine op_move (nxlf rfl) rfl rfl ?_
  refine op_neq (nxlf rfl) rfl rfl rfl ?_
  refine At.opsNil ?_
  refine At.norm (hk_4 ?_)
  refine At.condF rfl ?_
  refine At.skip ?_
  refine At.norm (hk_3 ?_)
  refine At.seq fun K5 hk_5 => ?_
  refine At.seq fun K6 hk_6 => ?_
  refine At.region ?_
  refine op_move (nxlf rfl) rfl rfl ?_
  refine op_not (nxlf rfl) rfl rfl ?_
  refine At.opsNil ?_
  refine At.norm (hk_6 ?_)
  refine At.condF rfl ?_
  refine At.skip ?_
  refine At.norm (hk_5 ?_)
  refine At.seq fun K7 hk_7 => ?_
  refine At.seq fun K8 hk_8 => ?_
  refine At.region ?_
  refine op_move (nxlf rfl) rfl rfl ?_
  refine op_eql (nxlf rfl) rfl rfl rfl ?_
  refine At.opsNil ?_
  refine At.norm (hk_8 ?_)
  refine At.condP rfl (fun c34 => ?_) (fun c34 => ?_)
  · exfalso; omega
  · refine At.skip ?_
    refine At.norm (hk_7 ?_)
    refine At.seq fun K9 hk_9 => ?_
    refine At.region ?_
    refine op_build (out := [_, .slice none 0 0, .slice none 0 0]) (nxlf rfl) ze25 pl25 (.cons rfl .nil) rfl rfl ?_
    refine op_alloc (nxla rfl) ze25 rfl (fun N11 b11 B11 => ?_)
    change Blk N11 b11 _ [.bool false, .slice none 0 0, .slice none 0 0] at B11
    refine op_store (nxl rfl) sz25 rfl rfl rfl rfl rfl B11 (by simp) sel0 (fun N11 B11 => ?_)
    simp only [setL, List.set] at B11
    refine At.opsNil ?_
    refine At.norm (hk_9 ?_)
    refine At.seq fun K10 hk_10 => ?_
    refine At.block ?_
    refine At.empty ?_
    refine At.empty ?_
    refine At.perm sel4 ?_
    refine At.perm sel1 ?_
    refine At.perm sel2 ?_
    refine At.perm sel3 ?_
    refine At.perm sel4 ?_
    refine At.loop (fun fr_ hp_ ms_ => ∃ (p' : List UInt8) (ac : Option Addr) (m cc : Nat) (done : List It) (xs : List IV) (ai : Option Addr) (ni ci : Nat) (N11 Nr Ns : Heaplet), fr_ = [(0, .slice ao n cap), (1, .int .i64 q), (4, .pointer (some ⟨b4, 0, none⟩)), (8, .slice ac m cc), (9, .slice a2 r.length c2), (11, .pointer (some ⟨b11, 0, none⟩))] ∧ hp_ = [N4, N11, Nr, Ns, R] ∧ m = ms_ ∧ (RSl R 1 ac m cc (u8s p')) ∧ (Blk N11 b11 25 [.bool true, .slice none 0 0, .slice ai ni ci]) ∧ (Row Nr 25 3 ai ni ci (cellsI xs)) ∧ (xs.length = ni) ∧ (ItsN Ns done xs) ∧ (itF (decF k) p = exMap (done ++ ·) (itF (decF k) p')) ∧ (ni + m ≤ p.length)) ?_ (.refl _) ⟨p, a1, p.length, c1, [], [], none, 0, 0, N11, nilH, nilH, rfl, rfl, rfl, h1, B11, Row.nil _ _ _, rfl, rfl, by cases itF (decF k) p <;> rfl, by omega⟩ ?_
    · exact .cons (by first | exact lkI rfl (by omega) | rfl) (.cons (by first | exact lkI rfl (by omega) | rfl) (.cons (by first | exact lkI rfl (by omega) | rfl) (.cons (by first | exact lkI rfl (by omega) | rfl) (.cons (by first | exact lkI rfl (by omega) | rfl) (.cons (by first | exact lkI rfl (by omega) | rfl) .nil)))))
    rintro _ _ _ ⟨p', ac, m, cc, done, xs, ai, ni, ci, N11, Nr, Ns, rfl, rfl, rfl, sc, B11, rr, hni, hs, H, hcnt⟩
    have hlp := sc.len8
    have sr := rr.rsl
    refine At.seq fun K11 hk_11 => ?_
    refine At.seq fun K12 hk_12 => ?_
    refine At.region ?_
    refine op_move (nxlf rfl) rfl rfl ?_
    refine op_lenS (nxlf rfl) se22 rfl rfl ?_
    refine op_gtr (nxlf rfl) rfl rfl rfl ?_
    refine At.opsNil ?_
    refine At.norm (hk_12 ?_)
    refine At.condP rfl (fun c39 => ?_) (fun c39 => ?_)
    · refine At.skip ?_
      refine At.norm (hk_11 ?_)
      refine At.block ?_
      refine At.seq fun K13 hk_13 => ?_
      refine At.region ?_
      refine op_move (nxlf rfl) rfl rfl ?_
      refine op_move (nxlf rfl) rfl rfl ?_
      refine op_addI (nxlf rfl) rfl rfl (by omega) (by omega) rfl ?_
      refine op_callA (nxla rfl) (.cons rfl (.cons rfl .nil)) (ih R ac m cc p' (q + 1) sc (by omega) (by omega) (by omega)) Try.func38 rfl rfl (by simp) rfl ?_
      rintro v44 L44 (⟨t, q', M44, x, aq, cq, he, rfl, rfl, hi, hqq⟩ | ⟨e, he, rfl, rfl, hne⟩)
      · change At _ _ _ [M44, N4, N11, Nr, Ns, R] _
        refine op_move (nxlf rfl) rfl rfl ?_
        refine op_extract (nxlf rfl) rfl rfl rfl ?_
        refine op_extract (nxlf rfl) rfl rfl rfl ?_
        refine op_extract (nxlf rfl) rfl rfl rfl ?_
        refine op_alloc (nxla rfl) ze25 rfl (fun N12 b12 B12 => ?_)
        change Blk N12 b12 _ [.bool false, .slice none 0 0, .slice none 0 0] at B12
        refine op_store (nxl rfl) sz25 rfl rfl rfl rfl rfl B12 (by simp) sel0 (fun N12 B12 => ?_)
        simp only [setL, List.set] at B12
        refine op_assign (nxlf rfl) rfl rfl ?_
        refine op_assign (nxlf rfl) rfl rfl ?_
        refine At.opsNil ?_
        refine At.norm (hk_13 ?_)
        refine At.seq fun K14 hk_14 => ?_
        refine At.seq fun K15 hk_15 => ?_
        refine At.region ?_
        refine op_move (nxlf rfl) rfl rfl ?_
        refine op_neq (nxlf rfl) rfl rfl rfl ?_
        refine At.opsNil ?_
        refine At.norm (hk_15 ?_)
        refine At.condF rfl ?_
        refine At.skip ?_
        refine At.norm (hk_14 ?_)
        refine At.seq fun K16 hk_16 => ?_
        refine At.region ?_
        refine op_fieldAddr (nxlf rfl) fl25_2 rfl rfl ?_
        refine op_loadB (nxlf rfl) sc23 rfl B11 (by first | rfl) mem3 rfl ?_
        refine op_loadAggB (ds := [_, _, _]) (nxlf rfl) ag25 rfl B12 rfl rfl mem0 rfl ?_
        refine op_lit (nxla rfl) Try.underlying23 ze25 sz25 (.cons rfl .nil) rfl rfl (by simp [Value.cells]) rfl rfl rfl (fun N55 a55 r55 => ?_)
        simp only [flatV, List.flatMap_cons, List.flatMap_nil, Value.cells, List.append_nil, List.cons_append, List.nil_append] at r55
        have s55 := r55.rsl
        refine op_append (nxl rfl) Try.underlying23 Try.underlying23 te25 rfl rfl rr (by assumption) (by first | exact mem0 | exact mem1 | exact mem2 | exact mem3 | exact mem4 | exact mem5 | exact mem6 | exact mem7 | exact mem8 | exact mem9) (by intro u hu; simp at hu; rcases hu with rfl | rfl | rfl <;> rfl) (by omega) (by omega) sel5 rfl (fun N56 a56 p56 r56 => ?_)
        have s56 := r56.rsl
        refine op_fieldAddr (nxlf rfl) fl25_2 rfl rfl ?_
        refine op_store (nxl rfl) sz23 rfl rfl rfl rfl rfl B11 (by simp) sel5 (fun N11 B11 => ?_)
        simp only [setL, List.set] at B11
        refine At.opsNil ?_
        refine At.norm (hk_16 ?_)
        refine At.region ?_
        refine op_move (nxlf rfl) rfl rfl ?_
        refine op_assign (nxlf rfl) rfl rfl ?_
        refine At.opsNil ?_
        refine At.inNorm ?_
        refine At.norm ?_
        refine At.perm sel7 ?_
        refine At.perm sel6 ?_
        refine At.perm sel5 ?_
        refine At.perm sel5 ?_
        refine At.perm sel5 ?_
        refine At.perm sel5 ?_
        refine At.perm sel6 ?_
        refine At.perm sel7 ?_
        refine At.merge (fun hap => ?_)
        refine At.sub (L' := [(join2 Ns M44), N11, N56, N4, R]) (.cons_cons _ (.cons_cons _ (.cons_cons _ (.cons _ (.cons _ (.cons_cons _ (.cons_cons _ (.slnil)))))))) ?_
        refine At.perm sel4 ?_
        refine At.perm sel1 ?_
        refine At.perm sel3 ?_
        refine At.perm sel3 ?_
        refine At.perm sel4 ?_
        refine At.back ?_ (.refl _) ⟨q', aq, q'.length, cq, done ++ [t], xs ++ [x], a56, ni + 1, p56, N11, N56, join2 Ns M44, rfl, rfl, rfl, hqq R sc, B11, by rw [cellsI, List.flatMap_append]; exact r56, by simp [hni], (hs.le join2_left).snoc (hi.le (join2_right hap)), by rw [H, itF_ok (fun b t q h => decF_lt h) (by omega) he, exMap_map]; congr 1; funext l; simp, by have := decF_lt he; omega⟩ ?_
        · exact .cons (by first | exact lkI rfl (by omega) | rfl) (.cons (by first | exact lkI rfl (by omega) | rfl) (.cons (by first | exact lkI rfl (by omega) | rfl) (.cons (by first | exact lkI rfl (by omega) | rfl) (.cons (by first | exact lkI rfl (by omega) | rfl) (.cons (by first | exact lkI rfl (by omega) | rfl) .nil)))))
        · exact (by have := decF_lt he; omega)
      · change At _ _ _ [N4, N11, Nr, Ns, R] _
        refine op_move (nxlf rfl) rfl rfl ?_
        refine op_extract (nxlf rfl) rfl rfl rfl ?_
        refine op_extract (nxlf rfl) rfl rfl rfl ?_
        refine op_extract (nxlf rfl) rfl rfl rfl ?_
        refine op_alloc (nxla rfl) ze25 rfl (fun N12 b12 B12 => ?_)
        change Blk N12 b12 _ [.bool false, .slice none 0 0, .slice none 0 0] at B12
        refine op_store (nxl rfl) sz25 rfl rfl rfl rfl rfl B12 (by simp) sel0 (fun N12 B12 => ?_)
        simp only [setL, List.set] at B12
        refine op_assign (nxlf rfl) rfl rfl ?_
        refine op_assign (nxlf rfl) rfl rfl ?_
        refine At.opsNil ?_
        refine At.norm (hk_13 ?_)
        refine At.seq fun K17 hk_17 => ?_
        refine At.seq fun K18 hk_18 => ?_
        refine At.region ?_
        refine op_move (nxlf rfl) rfl rfl ?_
        refine op_neq (nxlf rfl) rfl rfl rfl ?_
        refine At.opsNil ?_
        refine At.norm (hk_18 ?_)
        refine At.condP rfl (fun c49 => ?_) (fun c49 => ?_)
        · refine At.seq fun K19 hk_19 => ?_
          refine At.region ?_
          refine op_build (out := [.bool false, .slice none 0 0, .slice none 0 0]) (nxlf rfl) ze25 pl25 .nil rfl rfl ?_
          refine op_move (nxlf rfl) rfl rfl ?_
          refine op_store (nxl rfl) sz25 rfl rfl rfl rfl rfl B4 (by simp) sel1 (fun N4 B4 => ?_)
          simp only [setL, List.set] at B4
          refine op_assign (nxlf rfl) rfl rfl ?_
          refine op_assign (nxlf rfl) rfl rfl ?_
          refine At.opsNil ?_
          refine At.norm (hk_19 ?_)
          refine At.ret (At.thenRet (At.inRet (At.thenRet (At.inRet (At.thenRet (?_))))))
          refine At.sub (L' := [N4, R]) (.cons_cons _ (.cons _ (.cons _ (.cons _ (.cons _ (.cons_cons _ (.slnil))))))) ?_
          refine At.retN (L1 := []) rfl (.cell rfl (res_agg (ds := [_, _, _]) ag25 B4 rfl rfl mem0) (.tmp rfl (.tmp rfl .nil))) rfl (.cons _ (.refl _)) (.refl _) ?_
          exact .inr ⟨e, by simp [decF, hc, H, itF_error (show 0 < p'.length by omega) he, exMap], rfl, rfl, hne⟩
        · exfalso; omega
    · refine At.exit (At.thenExit (At.thenExit (At.inHit ?_)))
      refine At.norm (hk_10 ?_)
      refine At.seq fun K20 hk_20 => ?_
      refine At.region ?_
      refine op_loadAggB (ds := [_, _, _]) (nxlf rfl) ag25 rfl B11 rfl rfl mem1 rfl ?_
      refine op_move (nxlf rfl) rfl rfl ?_
      refine op_store (nxl rfl) sz25 rfl rfl rfl rfl rfl B4 (by simp) sel0 (fun N4 B4 => ?_)
      simp only [setL, List.set] at B4
      refine op_assign (nxlf rfl) rfl rfl ?_
      refine op_assign (nxlf rfl) rfl rfl ?_
      refine At.opsNil ?_
      refine At.norm (hk_20 ?_)
      refine At.ret (?_)
      refine At.perm sel4 ?_
      refine At.perm sel2 ?_
      refine At.perm sel2 ?_
      refine At.perm sel4 ?_
      refine At.perm sel4 ?_
      refine At.merge (fun hap => ?_)
      refine At.sub (L' := [(join2 Nr Ns), N4, R]) (.cons_cons _ (.cons_cons _ (.cons _ (.cons_cons _ (.slnil))))) ?_
      refine At.perm sel2 ?_
      refine At.perm sel1 ?_
      refine At.perm sel2 ?_
      refine At.retN (L1 := [(join2 Nr Ns)]) rfl (.cell rfl (res_agg (ds := [_, _, _]) ag25 B4 rfl rfl mem0) (.tmp rfl (.tmp rfl .nil))) rfl (.cons _ (.refl _)) (.refl _) ?_
      have hp0 : p' = [] := List.eq_nil_of_length_eq_zero (by omega)
      subst hp0
      refine .inl ⟨.mk true [] done, r, join2 Nr Ns, ⟨true, none, 0, 0, ai, ni, ci⟩, a2, c2, ?_, rfl, rfl, ItN.mk (RSl.nil _ _) (sr.le join2_left) (hs.le (join2_right hap)), h2⟩
      simp [decF, hc, H, itF_nil, exMap]
theorem first_f (k : Nat) : ∀ (N : Heaplet) (ao : Option Addr) (n cap : Nat) (b : List UInt8) (q : Int), RSl N 1 ao n cap (u8s b) → n ≤ 1099511627776 → q + k = 1024 → 0 ≤ q → Fn Try.prog 38 #[.slice ao n cap, .int .i64 q] [] [N] (DecP ao n cap b (decF k b)) := by
  induction k with
  | zero =>
    intro N ao n cap b q h hn hq h0
    obtain rfl : q = 1024 := by omega
    match hc : cutF b with
    | none => exact first_none h hn hc 0 _
    | some (false, p, r) => exact first_text h hn hc 0 _
    | some (true, p, r) => exact first_deep h hn hc
  | succ k ih =>
    intro N ao n cap b q h hn hq h0
    match hc : cutF b with
    | none => exact first_none h hn hc _ _
    | some (false, p, r) => exact first_text h hn hc _ _
    | some (true, p, r) => exact first_its h hn hc k q (by omega) h0 ih
theorem rDecode_f {N : Heaplet} {ao : Option Addr} {n cap : Nat} {b : List UInt8} (h : RSl N 1 ao n cap (u8s b)) (hn : n ≤ 1099511627776) :
    Fn Try.prog 18 #[.slice ao n cap] [] [N] (DecodeP (decodeF b)) := by
  refine Fn.enter (vs := [.slice ao n cap]) Try.func18 rfl rfl rfl ?_
  intro E R hR
  have h := h.le (hR N (by simp))
  change At _ _ E [R] _
  refine At.seq fun K1 hk_1 => ?_
  refine At.region ?_
  refine op_alloc (nxla rfl) ze25 rfl (fun N2 b2 B2 => ?_)
  change Blk N2 b2 _ [.bool false, .slice none 0 0, .slice none 0 0] at B2
  refine op_assign (nxlf rfl) rfl rfl ?_
  refine At.opsNil ?_
  refine At.norm (hk_1 ?_)
  refine At.seq fun K2 hk_2 => ?_
  refine At.region ?_
  refine op_move (nxlf rfl) rfl rfl ?_
  refine op_callA (nxla rfl) (.cons rfl (.cons rfl .nil)) (first_f 1024 R ao n cap b 0 h hn (by omega) (by omega)) Try.func38 rfl rfl (by simp) rfl ?_
  rintro v9 L9 (⟨t, q, M9, x, aq, cq, he, rfl, rfl, hi, hq⟩ | ⟨e, he, rfl, rfl, hne⟩)
  · change At _ _ _ [M9, N2, R] _
    refine op_move (nxlf rfl) rfl rfl ?_
    refine op_extract (nxlf rfl) rfl rfl rfl ?_
    refine op_extract (nxlf rfl) rfl rfl rfl ?_
    refine op_extract (nxlf rfl) rfl rfl rfl ?_
    refine op_alloc (nxla rfl) ze25 rfl (fun N4 b4 B4 => ?_)
    change Blk N4 b4 _ [.bool false, .slice none 0 0, .slice none 0 0] at B4
    refine op_store (nxl rfl) sz25 rfl rfl rfl rfl rfl B4 (by simp) sel0 (fun N4 B4 => ?_)
    simp only [setL, List.set] at B4
    refine op_assign (nxlf rfl) rfl rfl ?_
    refine op_assign (nxlf rfl) rfl rfl ?_
    refine At.opsNil ?_
    refine At.norm (hk_2 ?_)
    refine At.seq fun K3 hk_3 => ?_
    refine At.seq fun K4 hk_4 => ?_
    refine At.region ?_
    refine op_move (nxlf rfl) rfl rfl ?_
    refine op_neq (nxlf rfl) rfl rfl rfl ?_
    refine At.opsNil ?_
    refine At.norm (hk_4 ?_)
    refine At.condF rfl ?_
    refine At.skip ?_
    refine At.norm (hk_3 ?_)
    refine At.seq fun K5 hk_5 => ?_
    refine At.seq fun K6 hk_6 => ?_
    refine At.region ?_
    refine op_move (nxlf rfl) rfl rfl ?_
    refine op_lenS (nxlf rfl) se22 rfl rfl ?_
    refine op_gtr (nxlf rfl) rfl rfl rfl ?_
    refine At.opsNil ?_
    refine At.norm (hk_6 ?_)
    refine At.condP rfl (fun c19 => ?_) (fun c19 => ?_)
    · refine At.seq fun K7 hk_7 => ?_
      refine At.region ?_
      refine op_build (out := [.bool false, .slice none 0 0, .slice none 0 0]) (nxlf rfl) ze25 pl25 .nil rfl rfl ?_
      refine op_store (nxl rfl) sz25 rfl rfl rfl rfl rfl B2 (by simp) sel2 (fun N2 B2 => ?_)
      simp only [setL, List.set] at B2
      refine op_assign (nxlf rfl) rfl rfl ?_
      refine At.opsNil ?_
      refine At.norm (hk_7 ?_)
      refine At.ret (At.thenRet (?_))
      refine At.sub (L' := [N2, R]) (.cons_cons _ (.cons _ (.cons _ (.cons_cons _ (.slnil))))) ?_
      refine At.retN (L1 := []) rfl (.cell rfl (res_agg (ds := [_, _, _]) ag25 B2 rfl rfl mem0) (.tmp rfl .nil)) rfl (.cons _ (.refl _)) (.refl _) ?_
      exact .inr ⟨2, by rw [decodeF, he]; simp only; rw [if_neg (by omega)], rfl, rfl, by decide⟩
    · refine At.skip ?_
      refine At.norm (hk_5 ?_)
      refine At.seq fun K8 hk_8 => ?_
      refine At.region ?_
      refine op_loadAggB (ds := [_, _, _]) (nxlf rfl) ag25 rfl B4 rfl rfl mem0 rfl ?_
      refine op_store (nxl rfl) sz25 rfl rfl rfl rfl rfl B2 (by simp) sel2 (fun N2 B2 => ?_)
      simp only [setL, List.set] at B2
      refine op_assign (nxlf rfl) rfl rfl ?_
      refine At.opsNil ?_
      refine At.norm (hk_8 ?_)
      refine At.ret (?_)
      refine At.sub (L' := [N2, M9, R]) (.cons_cons _ (.cons _ (.cons_cons _ (.cons_cons _ (.slnil))))) ?_
      refine At.retN (L1 := [M9]) rfl (.cell rfl (res_agg (ds := [_, _, _]) ag25 B2 rfl rfl mem0) (.tmp rfl .nil)) rfl (.cons _ (.refl _)) (.refl _) ?_
      exact .inl ⟨t, M9, x, by rw [decodeF, he]; simp only; rw [if_pos (by omega)], rfl, rfl, hi⟩
  · change At _ _ _ [N2, R] _
    refine op_move (nxlf rfl) rfl rfl ?_
    refine op_extract (nxlf rfl) rfl rfl rfl ?_
    refine op_extract (nxlf rfl) rfl rfl rfl ?_
    refine op_extract (nxlf rfl) rfl rfl rfl ?_
    refine op_alloc (nxla rfl) ze25 rfl (fun N4 b4 B4 => ?_)
    change Blk N4 b4 _ [.bool false, .slice none 0 0, .slice none 0 0] at B4
    refine op_store (nxl rfl) sz25 rfl rfl rfl rfl rfl B4 (by simp) sel0 (fun N4 B4 => ?_)
    simp only [setL, List.set] at B4
    refine op_assign (nxlf rfl) rfl rfl ?_
    refine op_assign (nxlf rfl) rfl rfl ?_
    refine At.opsNil ?_
    refine At.norm (hk_2 ?_)
    refine At.seq fun K9 hk_9 => ?_
    refine At.seq fun K10 hk_10 => ?_
    refine At.region ?_
    refine op_move (nxlf rfl) rfl rfl ?_
    refine op_neq (nxlf rfl) rfl rfl rfl ?_
    refine At.opsNil ?_
    refine At.norm (hk_10 ?_)
    refine At.condP rfl (fun c14 => ?_) (fun c14 => ?_)
    · refine At.seq fun K11 hk_11 => ?_
      refine At.region ?_
      refine op_build (out := [.bool false, .slice none 0 0, .slice none 0 0]) (nxlf rfl) ze25 pl25 .nil rfl rfl ?_
      refine op_move (nxlf rfl) rfl rfl ?_
      refine op_store (nxl rfl) sz25 rfl rfl rfl rfl rfl B2 (by simp) sel1 (fun N2 B2 => ?_)
      simp only [setL, List.set] at B2
      refine op_assign (nxlf rfl) rfl rfl ?_
      refine At.opsNil ?_
      refine At.norm (hk_11 ?_)
      refine At.ret (At.thenRet (?_))
      refine At.sub (L' := [N2, R]) (.cons_cons _ (.cons _ (.cons_cons _ (.slnil)))) ?_
      refine At.retN (L1 := []) rfl (.cell rfl (res_agg (ds := [_, _, _]) ag25 B2 rfl rfl mem0) (.tmp rfl .nil)) rfl (.cons _ (.refl _)) (.refl _) ?_
      exact .inr ⟨e, by rw [decodeF, he], rfl, rfl, hne⟩
    · exfalso; omega
theorem RlpDecode_f {N : Heaplet} {ao : Option Addr} {n cap : Nat} {b : List UInt8} (h : RSl N 1 ao n cap (u8s b)) :
    Fn Try.prog 4 #[.slice ao n cap] [] [N] (fun v L => v = .bool true ∧ L = []) := by
  have hlen := h.len8
  have hl6 : (b.take 6000).length ≤ 6000 := by rw [List.length_take]; omega
  refine Fn.enter (vs := [.slice ao n cap]) Try.func4 rfl rfl rfl ?_
  intro E R hR
  have h := h.le (hR N (by simp))
  have hz : ItN R (.mk false [] []) ⟨false, none, 0, 0, none, 0, 0⟩ := ItN.mk (RSl.nil _ _) (xs := []) (RSl.nil _ _) rfl
  change At _ _ E [R] _
  refine At.seq fun K1 hk_1 => ?_
  refine At.region ?_
  refine op_assign (nxlf rfl) rfl rfl ?_
  refine At.opsNil ?_
  refine At.norm (hk_1 ?_)
  refine At.seq fun K2 hk_2 => ?_
  refine At.region ?_
  refine op_move (nxlf rfl) rfl rfl ?_
  refine op_callA (nxla rfl) (.cons rfl (.cons rfl .nil)) (KTwin_f h 6000 6000 rfl (by decide)) Try.func16 rfl rfl (by simp) rfl ?_
  rintro v9 L9 ⟨M9, a9, p9, rfl, rfl, r9⟩
  change At _ _ _ [M9, R] _
  have s9 := r9.rsl
  refine op_assign (nxlf rfl) rfl rfl ?_
  refine At.opsNil ?_
  refine At.norm (hk_2 ?_)
  refine At.seq fun K3 hk_3 => ?_
  refine At.region ?_
  refine op_move (nxlf rfl) rfl rfl ?_
  refine op_callA (nxla rfl) (.cons rfl (.cons rfl .nil)) (KTwin_all s9 6000 6000 rfl (by decide) hl6) Try.func16 rfl rfl (by simp) rfl ?_
  rintro v12 L12 ⟨M12, a12, p12, rfl, rfl, r12⟩
  change At _ _ _ [M12, M9, R] _
  have s12 := r12.rsl
  refine op_callA (nxla rfl) (.cons rfl .nil) (Decode_f s12 (by omega)) Try.func17 rfl rfl (by simp) rfl ?_
  rintro v13 L13 (⟨t, M13, x, he, rfl, rfl, hx⟩ | ⟨e, he, rfl, rfl, hne⟩)
  · change At _ _ _ [M13, M12, M9, R] _
    refine op_move (nxlf rfl) rfl rfl ?_
    refine op_extract (nxlf rfl) rfl rfl rfl ?_
    refine op_extract (nxlf rfl) rfl rfl rfl ?_
    refine op_alloc (nxla rfl) ze25 rfl (fun N4 b4 B4 => ?_)
    change Blk N4 b4 _ [.bool false, .slice none 0 0, .slice none 0 0] at B4
    refine op_store (nxl rfl) sz25 rfl rfl rfl rfl rfl B4 (by simp) sel0 (fun N4 B4 => ?_)
    simp only [setL, List.set] at B4
    refine op_assign (nxlf rfl) rfl rfl ?_
    refine At.opsNil ?_
    refine At.norm (hk_3 ?_)
    refine At.seq fun K4 hk_4 => ?_
    refine At.region ?_
    refine op_move (nxlf rfl) rfl rfl ?_
    refine op_callA (nxla rfl) (.cons rfl .nil) (rDecode_f s9 (by omega)) Try.func18 rfl rfl (by simp) rfl ?_
    rintro v18 L18 (⟨u, M18, y, he2, rfl, rfl, hy⟩ | ⟨e2, he2, rfl, rfl, hne2⟩)
    · change At _ _ _ [M18, N4, M13, M12, M9, R] _
      obtain rfl : t = u := by rw [he] at he2; simpa using he2
      refine op_move (nxlf rfl) rfl rfl ?_
      refine op_extract (nxlf rfl) rfl rfl rfl ?_
      refine op_extract (nxlf rfl) rfl rfl rfl ?_
      refine op_alloc (nxla rfl) ze25 rfl (fun N6 b6 B6 => ?_)
      change Blk N6 b6 _ [.bool false, .slice none 0 0, .slice none 0 0] at B6
      refine op_store (nxl rfl) sz25 rfl rfl rfl rfl rfl B6 (by simp) sel0 (fun N6 B6 => ?_)
      simp only [setL, List.set] at B6
      refine op_assign (nxlf rfl) rfl rfl ?_
      refine At.opsNil ?_
      refine At.norm (hk_4 ?_)
      refine At.seq fun K5 hk_5 => ?_
      refine At.region ?_
      refine op_move (nxlf rfl) rfl rfl ?_
      refine op_move (nxlf rfl) rfl rfl ?_
      refine op_eql (nxlf rfl) rfl rfl rfl ?_
      refine op_move (nxlf rfl) rfl rfl ?_
      refine At.partP (d := 24) rfl (fun g24 => ?_) (fun g24 => ?_)
      · refine op_loadAggB (ds := [_, _, _]) (nxgf rfl rfl rfl rfl) ag25 rfl B4 rfl rfl mem2 rfl ?_
        refine op_loadAggB (ds := [_, _, _]) (nxgf rfl rfl rfl rfl) ag25 rfl B6 rfl rfl mem0 rfl ?_
        refine op_callA (nxga rfl rfl rfl rfl) (.cons rfl (.cons rfl .nil)) (Same_f t t M13 M18 x y hx hy) Try.func19 rfl rfl (by simp) rfl ?_
        rintro v27 L27 ⟨rfl, rfl⟩
        change At _ _ _ [N6, M18, N4, M13, M12, M9, R] _
        rw [It.same_self]
        refine op_pickT (nxlf rfl) rfl rfl rfl ?_
        refine op_move (nxlf rfl) rfl rfl ?_
        refine op_callA (nxga rfl rfl rfl rfl) .nil (wakes_f) Try.func15 rfl rfl (by simp) rfl ?_
        rintro v30 L30 ⟨rfl, rfl⟩
        change At _ _ _ [N6, M18, N4, M13, M12, M9, R] _
        refine op_pickT (nxlf rfl) rfl rfl rfl ?_
        refine op_assign (nxlf rfl) rfl rfl ?_
        refine At.opsNil ?_
        refine At.norm (hk_5 ?_)
        refine At.ret (?_)
        refine At.sub (L' := [R]) (.cons _ (.cons _ (.cons _ (.cons _ (.cons _ (.cons _ (.cons_cons _ (.slnil)))))))) ?_
        refine At.ret1 (L1 := []) rfl (.tmp rfl .nil) (.refl _) (.refl _) ?_
        exact ⟨rfl, rfl⟩
      · exact absurd rfl g24
    · rw [he] at he2; cases he2
  · change At _ _ _ [M12, M9, R] _
    refine op_move (nxlf rfl) rfl rfl ?_
    refine op_extract (nxlf rfl) rfl rfl rfl ?_
    refine op_extract (nxlf rfl) rfl rfl rfl ?_
    refine op_alloc (nxla rfl) ze25 rfl (fun N4 b4 B4 => ?_)
    change Blk N4 b4 _ [.bool false, .slice none 0 0, .slice none 0 0] at B4
    refine op_store (nxl rfl) sz25 rfl rfl rfl rfl rfl B4 (by simp) sel0 (fun N4 B4 => ?_)
    simp only [setL, List.set] at B4
    refine op_assign (nxlf rfl) rfl rfl ?_
    refine At.opsNil ?_
    refine At.norm (hk_3 ?_)
    refine At.seq fun K6 hk_6 => ?_
    refine At.region ?_
    refine op_move (nxlf rfl) rfl rfl ?_
    refine op_callA (nxla rfl) (.cons rfl .nil) (rDecode_f s9 (by omega)) Try.func18 rfl rfl (by simp) rfl ?_
    rintro v18 L18 (⟨u, M18, y, he2, rfl, rfl, hy⟩ | ⟨e2, he2, rfl, rfl, hne2⟩)
    · rw [he] at he2; cases he2
    · change At _ _ _ [N4, M12, M9, R] _
      obtain rfl : e = e2 := by rw [he] at he2; simpa using he2
      refine op_move (nxlf rfl) rfl rfl ?_
      refine op_extract (nxlf rfl) rfl rfl rfl ?_
      refine op_extract (nxlf rfl) rfl rfl rfl ?_
      refine op_alloc (nxla rfl) ze25 rfl (fun N6 b6 B6 => ?_)
      change Blk N6 b6 _ [.bool false, .slice none 0 0, .slice none 0 0] at B6
      refine op_store (nxl rfl) sz25 rfl rfl rfl rfl rfl B6 (by simp) sel0 (fun N6 B6 => ?_)
      simp only [setL, List.set] at B6
      refine op_assign (nxlf rfl) rfl rfl ?_
      refine At.opsNil ?_
      refine At.norm (hk_6 ?_)
      refine At.seq fun K7 hk_7 => ?_
      refine At.region ?_
      refine op_move (nxlf rfl) rfl rfl ?_
      refine op_move (nxlf rfl) rfl rfl ?_
      refine op_eql (nxlf rfl) rfl rfl rfl ?_
      refine op_move (nxlf rfl) rfl rfl ?_
      refine At.partP (d := 24) rfl (fun g24 => ?_) (fun g24 => ?_)
      · refine op_loadAggB (ds := [_, _, _]) (nxgf rfl rfl rfl rfl) ag25 rfl B4 rfl rfl mem1 rfl ?_
        refine op_loadAggB (ds := [_, _, _]) (nxgf rfl rfl rfl rfl) ag25 rfl B6 rfl rfl mem0 rfl ?_
        refine op_callA (nxga rfl rfl rfl rfl) (.cons rfl (.cons rfl .nil)) (Same_f (.mk false [] []) (.mk false [] []) R R ⟨false, none, 0, 0, none, 0, 0⟩ ⟨false, none, 0, 0, none, 0, 0⟩ hz hz) Try.func19 rfl rfl (by simp) rfl ?_
        rintro v27 L27 ⟨rfl, rfl⟩
        change At _ _ _ [N6, N4, M12, M9, R] _
        rw [It.same_self]
        refine op_pickT (nxlf rfl) rfl rfl rfl ?_
        refine op_move (nxlf rfl) rfl rfl ?_
        refine op_callA (nxga rfl rfl rfl rfl) .nil (wakes_f) Try.func15 rfl rfl (by simp) rfl ?_
        rintro v30 L30 ⟨rfl, rfl⟩
        change At _ _ _ [N6, N4, M12, M9, R] _
        refine op_pickT (nxlf rfl) rfl rfl rfl ?_
        refine op_assign (nxlf rfl) rfl rfl ?_
        refine At.opsNil ?_
        refine At.norm (hk_7 ?_)
        refine At.ret (?_)
        refine At.sub (L' := [R]) (.cons _ (.cons _ (.cons _ (.cons _ (.cons_cons _ (.slnil)))))) ?_
        refine At.ret1 (L1 := []) rfl (.tmp rfl .nil) (.refl _) (.refl _) ?_
        exact ⟨rfl, rfl⟩
      · exact absurd rfl g24
end Go.Proofs.Ytohmmgggaegbbaa
