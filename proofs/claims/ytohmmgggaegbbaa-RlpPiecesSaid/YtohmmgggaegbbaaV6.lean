/- quarrylaw05.plain; quarrylaw05.RlpBack answers true. No condition. -/
import Derived.Test.YtohmmgggaegbbaaV5
import Derived.Test.YtohmmgggaegbbaaB2
import Derived.Test.YtohmmgggaegbbaaV1
namespace Go.Proofs.Ytohmmgggaegbbaa
set_option linter.unusedVariables false
set_option linter.unusedSimpArgs false
open Go Go.RowKit
theorem decodeF_form {t : It} (hl : t.form.length < 2 ^ 64) (hd : t.depth ≤ 1024) : decodeF t.form = .ok t.plain := by
  have e := dec_form t 1024 [] hl hd
  rw [List.append_nil] at e
  rw [decodeF, e]; rfl
theorem decodeF_more {t : It} (x : UInt8) (hl : t.form.length < 2 ^ 64) (hd : t.depth ≤ 1024) : decodeF (t.form ++ [x]) = .error 2 := by
  rw [decodeF, dec_form t 1024 [x] hl hd]; rfl
theorem decodeF_back {b : List UInt8} {t : It} (hb : b.length < 2 ^ 64) (h : decodeF b = .ok t) : t.form = b ∧ t.depth ≤ 1024 := by
  unfold decodeF at h
  split at h
  · cases h
  · rename_i u q he
    split at h
    · rename_i hq
      cases h
      obtain ⟨h1, h2⟩ := decF_form 1024 b _ _ hb he
      rw [List.eq_nil_of_length_eq_zero hq, List.append_nil] at h1
      exact ⟨h1, h2⟩
    · cases h
theorem Decode_err {N : Heaplet} {ao : Option Addr} {n cap : Nat} {b : List UInt8} {e : Nat} (h : RSl N 1 ao n cap (u8s b)) (hn : n ≤ 1099511627776) (hd : decodeF b = .error e) : Fn Try.prog 17 #[.slice ao n cap] [] [N] (fun v L => v = .tuple #[.agg #[.bool false, .slice none 0 0, .slice none 0 0], .int .i64 (e : Int)] ∧ L = []) :=
  (Decode_f h hn).mono fun v L hp => by
    rcases hp with ⟨t', M, x, h1, h2, h3, h4⟩ | ⟨e', h1, h2, h3, _⟩
    · rw [hd] at h1; cases h1
    · rw [hd] at h1; cases h1; exact ⟨h2, h3⟩
theorem plains_append (a b : List It) : It.plains (a ++ b) = It.plains a ++ It.plains b := by
  induction a with
  | nil => rfl
  | cons t ts ih => simp only [List.cons_append, It.plains, ih]
theorem Fn.lift {P : Program} {f : FuncId} {args : Array Value} {L0 : List Heaplet} {N R : Heaplet} {Post : Value → List Heaplet → Prop} (h : Fn P f args L0 [N] Post) (hl : N.le R) : Fn P f args L0 [R] Post := fun E w F hp hr =>
  h E w F hp fun M hM => by rw [List.mem_singleton.1 hM]; exact Heaplet.le_trans hl (hr R (by simp))
theorem sizes_len (ts : List It) : 9 * ts.length ≤ sizesT ts := by
  induction ts with
  | nil => simp [sizesT]
  | cons t ts ih => obtain ⟨l, bs, its⟩ := t; simp only [sizesT, sizeT, List.length_cons]; omega
theorem sizes_mem {t : It} {ts : List It} (h : t ∈ ts) : sizeT t ≤ sizesT ts := by
  induction ts with
  | nil => cases h
  | cons u us ih =>
    simp only [sizesT]
    rcases List.mem_cons.1 h with rfl | h
    · omega
    · have := ih h; omega
set_option maxRecDepth 100000 in
theorem plain_f (t : It) : ∀ (N : Heaplet) (x : IV), ItN N t x → sizeT t ≤ 1000000000 → Fn Try.prog 20 #[.agg #[.bool x.l, .slice x.ab x.nb x.cb, .slice x.ai x.ni x.ci]] [] [N] (fun v L => ∃ M, ∃ y : IV, v = .agg #[.bool y.l, .slice y.ab y.nb y.cb, .slice y.ai y.ni y.ci] ∧ L = [M] ∧ ∀ J : Heaplet, M.le J → N.le J → ItN J t.plain y) := by
  induction t using It.ind_it with | h l bs its ih => ?_
  intro N x h hsz
  simp only [ItN] at h
  obtain ⟨rfl, h1, xs, hI, hX⟩ := h
  have hn : xs.length = x.ni := by have := hI.1; rw [length_cellsI] at this; omega
  have hn2 := hX.length
  have hcap := hI.cap63
  have hs9 := sizes_len its
  simp only [sizeT] at hsz
  cases hb : x.l with
  | false =>
    refine Fn.enter (vs := [.agg #[.bool false, .slice x.ab x.nb x.cb, .slice x.ai x.ni x.ci]]) Try.func20 rfl rfl rfl ?_
    intro E R hR
    change At _ _ E [R] _
    refine At.seq fun K1 hk_1 => ?_
    refine At.region ?_
    refine op_box (nxla rfl) rfl rfl rfl (fun N1 b1 B1 => ?_)
    refine op_alloc (nxla rfl) ze25 rfl (fun N2 b2 B2 => ?_)
    change Blk N2 b2 _ [.bool false, .slice none 0 0, .slice none 0 0] at B2
    refine At.opsNil ?_
    refine At.norm (hk_1 ?_)
    refine At.seq fun K2 hk_2 => ?_
    refine At.seq fun K3 hk_3 => ?_
    refine At.region ?_
    refine op_fieldAddr (nxlf rfl) fl25_0 rfl rfl ?_
    refine op_loadB (nxlf rfl) sc4 rfl B1 (by first | rfl) mem1 rfl ?_
    refine op_not (nxlf rfl) rfl rfl ?_
    refine At.opsNil ?_
    refine At.norm (hk_3 ?_)
    refine At.condT rfl ?_
    refine At.seq fun K4 hk_4 => ?_
    refine At.region ?_
    refine op_fieldAddr (nxlf rfl) fl25_1 rfl rfl ?_
    refine op_loadB (nxlf rfl) sc22 rfl B1 (by first | rfl) mem1 rfl ?_
    refine op_build (out := [.bool false, _, .slice none 0 0]) (nxlf rfl) ze25 pl25 (.cons rfl .nil) rfl rfl ?_
    refine op_store (nxl rfl) sz25 rfl rfl rfl rfl rfl B2 (by simp) sel0 (fun N2 B2 => ?_)
    simp only [setL, List.set] at B2
    refine At.opsNil ?_
    refine At.norm (hk_4 ?_)
    refine At.ret (At.thenRet (?_))
    refine At.empty ?_
    refine At.sub (L' := [nilH, N2, R]) (.cons_cons _ (.cons_cons _ (.cons _ (.cons_cons _ (.slnil))))) ?_
    refine At.perm sel2 ?_
    refine At.perm sel1 ?_
    refine At.perm sel2 ?_
    refine At.ret1 (L1 := [nilH]) rfl (.cell rfl (res_agg (ds := [_, _, _]) ag25 B2 rfl rfl mem0) .nil) (.cons _ (.refl _)) (.refl _) ?_
    refine ⟨nilH, ⟨false, x.ab, x.nb, x.cb, none, 0, 0⟩, rfl, rfl, fun J _ hJ => ?_⟩
    rw [It.plain]
    exact ItN.mk (h1.le hJ) (xs := []) (RSl.nil _ _) rfl
  | true =>
    refine Fn.enter (vs := [.agg #[.bool true, .slice x.ab x.nb x.cb, .slice x.ai x.ni x.ci]]) Try.func20 rfl rfl rfl ?_
    intro E R hR
    have hNR := hR N (by simp)
    have hI := hI.le hNR
    have hX' := hX
    have hX := hX.le hNR
    change At _ _ E [R] _
    refine At.seq fun K1 hk_1 => ?_
    refine At.region ?_
    refine op_box (nxla rfl) rfl rfl rfl (fun N1 b1 B1 => ?_)
    refine op_alloc (nxla rfl) ze25 rfl (fun N2 b2 B2 => ?_)
    change Blk N2 b2 _ [.bool false, .slice none 0 0, .slice none 0 0] at B2
    refine At.opsNil ?_
    refine At.norm (hk_1 ?_)
    refine At.seq fun K2 hk_2 => ?_
    refine At.seq fun K3 hk_3 => ?_
    refine At.region ?_
    refine op_fieldAddr (nxlf rfl) fl25_0 rfl rfl ?_
    refine op_loadB (nxlf rfl) sc4 rfl B1 (by first | rfl) mem1 rfl ?_
    refine op_not (nxlf rfl) rfl rfl ?_
    refine At.opsNil ?_
    refine At.norm (hk_3 ?_)
    refine At.condF rfl ?_
    refine At.skip ?_
    refine At.norm (hk_2 ?_)
    refine At.seq fun K4 hk_4 => ?_
    refine At.region ?_
    refine op_build (out := [_, .slice none 0 0, .slice none 0 0]) (nxlf rfl) ze25 pl25 (.cons rfl .nil) rfl rfl ?_
    refine op_alloc (nxla rfl) ze25 rfl (fun N3 b3 B3 => ?_)
    change Blk N3 b3 _ [.bool false, .slice none 0 0, .slice none 0 0] at B3
    refine op_store (nxl rfl) sz25 rfl rfl rfl rfl rfl B3 (by simp) sel0 (fun N3 B3 => ?_)
    simp only [setL, List.set] at B3
    refine At.opsNil ?_
    refine At.norm (hk_4 ?_)
    refine At.seq fun K5 hk_5 => ?_
    refine At.seq fun K6 hk_6 => ?_
    refine At.region ?_
    refine op_assign (nxlf rfl) rfl rfl ?_
    refine At.opsNil ?_
    refine At.norm (hk_6 ?_)
    refine At.block ?_
    refine At.empty ?_
    refine At.empty ?_
    refine At.perm sel5 ?_
    refine At.perm sel1 ?_
    refine At.perm sel2 ?_
    refine At.perm sel3 ?_
    refine At.perm sel4 ?_
    refine At.perm sel5 ?_
    refine At.loop (fun fr_ hp_ ms_ => ∃ (i : Nat) (ai : Option Addr) (ni ci : Nat) (xs' : List IV) (N3 Nr Ns : Heaplet), fr_ = [(1, .pointer (some ⟨b1, 0, none⟩)), (2, .pointer (some ⟨b2, 0, none⟩)), (3, .pointer (some ⟨b3, 0, none⟩)), (4, .int .i64 (i : Int))] ∧ hp_ = [N1, N2, N3, Nr, Ns, R] ∧ x.ni - i = ms_ ∧ (i ≤ x.ni) ∧ (Blk N3 b3 25 [.bool true, .slice none 0 0, .slice ai ni ci]) ∧ (Row Nr 25 3 ai ni ci (cellsI xs')) ∧ (xs'.length = ni) ∧ (ni ≤ i) ∧ (∀ J : Heaplet, Ns.le J → N.le J → ItsN J (It.plains (its.take i)) xs')) ?_ (.refl _) ⟨0, none, 0, 0, [], N3, nilH, nilH, rfl, rfl, rfl, by omega, B3, Row.nil _ _ _, rfl, by omega, fun J _ _ => rfl⟩ ?_
    · exact .cons (by first | exact lkI rfl (by omega) | rfl) (.cons (by first | exact lkI rfl (by omega) | rfl) (.cons (by first | exact lkI rfl (by omega) | rfl) (.cons (by first | exact lkI rfl (by omega) | rfl) .nil)))
    rintro _ _ _ ⟨i, ai, ni, ci, xs', N3, Nr, Ns, rfl, rfl, rfl, hi, B3, rr, hni, hle, hs⟩
    have sr := rr.rsl
    refine At.seq fun K7 hk_7 => ?_
    refine At.seq fun K8 hk_8 => ?_
    refine At.region ?_
    refine op_move (nxlf rfl) rfl rfl ?_
    refine op_fieldAddr (nxlf rfl) fl25_2 rfl rfl ?_
    refine op_loadB (nxlf rfl) sc23 rfl B1 (by first | rfl) mem0 rfl ?_
    refine op_lenS (nxlf rfl) se23 rfl rfl ?_
    refine op_lss (nxlf rfl) rfl rfl rfl ?_
    refine At.opsNil ?_
    refine At.norm (hk_8 ?_)
    refine At.condP rfl (fun c16 => ?_) (fun c16 => ?_)
    · have hlt : i < its.length := by omega
      obtain ⟨y, hy, hyi⟩ := hX'.get (List.getElem?_eq_getElem hlt)
      refine At.skip ?_
      refine At.norm (hk_7 ?_)
      refine At.seq fun K9 hk_9 => ?_
      refine At.block ?_
      refine At.perm sel5 ?_
      refine At.perm sel3 ?_
      refine At.perm sel2 ?_
      refine At.perm sel5 ?_
      refine At.perm sel5 ?_
      refine At.perm sel5 ?_
      refine At.drawnS [N1, N3, R] [9,11] [0,1,2,3,4,5,6,7,8,9,10,11] (by kernel_rfl) (by kernel_rfl) (.cons _ (.cons _ (.cons _ (.refl _)))) ?_
      refine op_fieldAddr (nxsf rfl rfl rfl) fl25_2 rfl rfl ?_
      refine op_loadB (nxsf rfl rfl rfl) sc23 rfl B3 (by first | rfl) mem1 rfl ?_
      refine op_fieldAddr (nxsf rfl rfl rfl) fl25_2 rfl rfl ?_
      refine op_loadB (nxsf rfl rfl rfl) sc23 rfl B1 (by first | rfl) mem0 rfl ?_
      refine op_move (nxsf rfl rfl rfl) rfl rfl ?_
      refine op_idxE (nxsf rfl rfl rfl) se23 rfl rfl (by assumption) (show _ = (((i : Nat)) : Int) from by omega) (by omega) rfl ?_
      refine op_loadAggE (nxsf rfl rfl rfl) ag25 rfl (by assumption) (by exact cells_at hy) (by rfl) (by omega) (by first | exact mem0 | exact mem1 | exact mem2 | exact mem3 | exact mem4 | exact mem5 | exact mem6 | exact mem7 | exact mem8 | exact mem9) rfl ?_
      refine op_callA (Nx.agree (nxsa rfl rfl rfl)) (.cons rfl .nil) ((ih its[i] (List.getElem_mem hlt) N y hyi (by have := sizes_mem (List.getElem_mem hlt); omega)).lift hNR) Try.func20 rfl rfl (by simp) rfl ?_
      rintro v26 L26 ⟨M26, z, rfl, rfl, hz⟩
      change At _ _ _ [M26, N2, Nr, Ns, N1, N3, R] _
      refine At.andS (.cons _ (.cons _ (.cons _ (.cons _ (.refl _))))) ?_
      refine op_lit (Nx.agree (nxsa rfl rfl rfl)) Try.underlying23 ze25 sz25 (.cons rfl .nil) rfl rfl (by simp [Value.cells]) rfl rfl rfl (fun N27 a27 r27 => ?_)
      simp only [flatV, List.flatMap_cons, List.flatMap_nil, Value.cells, List.append_nil, List.cons_append, List.nil_append] at r27
      have s27 := r27.rsl
      refine At.andS (.cons _ (.cons _ (.cons _ (.cons _ (.cons _ (.refl _)))))) ?_
      refine op_append (nxsa rfl rfl rfl) Try.underlying23 Try.underlying23 te25 rfl rfl rr (by assumption) (by first | exact mem0 | exact mem1 | exact mem2 | exact mem3 | exact mem4 | exact mem5 | exact mem6 | exact mem7 | exact mem8 | exact mem9) (by intro u hu; simp at hu; rcases hu with rfl | rfl | rfl <;> rfl) (by omega) (by omega) sel3 rfl (fun N28 a28 p28 r28 => ?_)
      have s28 := r28.rsl
      refine At.andS (.cons _ (.cons _ (.cons _ (.cons _ (.cons _ (.refl _)))))) ?_
      refine op_fieldAddr (nxsf rfl rfl rfl) fl25_2 rfl rfl ?_
      refine op_store (nxsl rfl rfl rfl rfl) sz23 rfl rfl rfl rfl rfl B3 (by simp) sel6 (fun N3 B3 => ?_)
      simp only [setL, List.set] at B3
      refine At.sNil ?_
      refine At.inNorm ?_
      refine At.norm (hk_9 ?_)
      refine At.region ?_
      refine op_move (nxlf rfl) rfl rfl ?_
      refine op_addI (nxlf rfl) rfl rfl (by omega) (by omega) rfl ?_
      refine op_assign (nxlf rfl) rfl rfl ?_
      refine At.opsNil ?_
      refine At.norm ?_
      refine At.perm sel7 ?_
      refine At.perm sel7 ?_
      refine At.perm sel6 ?_
      refine At.perm sel5 ?_
      refine At.perm sel5 ?_
      refine At.perm sel5 ?_
      refine At.perm sel6 ?_
      refine At.perm sel7 ?_
      refine At.mergeN (fun Nz Nz1 Nz2 => ?_)
      refine At.sub (L' := [Nz, N3, N28, N2, N1, R]) (.cons_cons _ (.cons_cons _ (.cons_cons _ (.cons _ (.cons_cons _ (.cons_cons _ (.cons_cons _ (.slnil)))))))) ?_
      refine At.perm sel5 ?_
      refine At.perm sel1 ?_
      refine At.perm sel3 ?_
      refine At.perm sel3 ?_
      refine At.perm sel4 ?_
      refine At.perm sel5 ?_
      refine At.back ?_ (.refl _) ⟨i + 1, a28, ni + 1, p28, xs' ++ [z], N3, N28, Nz, rfl, rfl, rfl, by omega, B3, by rw [cellsI, List.flatMap_append]; exact r28, by simp [hni], by omega, fun J h1 h2 => by rw [List.take_succ_eq_append_getElem hlt, plains_append]; exact (hs J (Heaplet.le_trans Nz1 h1) h2).snoc (hz J (Heaplet.le_trans Nz2 h1) h2)⟩ ?_
      · exact .cons (by first | exact lkI rfl (by omega) | rfl) (.cons (by first | exact lkI rfl (by omega) | rfl) (.cons (by first | exact lkI rfl (by omega) | rfl) (.cons (by first | exact lkI rfl (by omega) | rfl) .nil)))
      · omega
    · refine At.exit (At.thenExit (At.thenExit (At.inHit ?_)))
      refine At.norm (hk_5 ?_)
      refine At.seq fun K10 hk_10 => ?_
      refine At.region ?_
      refine op_loadAggB (ds := [_, _, _]) (nxlf rfl) ag25 rfl B3 rfl rfl mem2 rfl ?_
      refine op_store (nxl rfl) sz25 rfl rfl rfl rfl rfl B2 (by simp) sel1 (fun N2 B2 => ?_)
      simp only [setL, List.set] at B2
      refine At.opsNil ?_
      refine At.norm (hk_10 ?_)
      refine At.ret (?_)
      refine At.perm sel5 ?_
      refine At.perm sel3 ?_
      refine At.perm sel3 ?_
      refine At.perm sel3 ?_
      refine At.perm sel5 ?_
      refine At.perm sel5 ?_
      refine At.mergeN (fun Nx Nx1 Nx2 => ?_)
      refine At.sub (L' := [Nx, N2, R]) (.cons_cons _ (.cons_cons _ (.cons _ (.cons _ (.cons_cons _ (.slnil)))))) ?_
      refine At.perm sel2 ?_
      refine At.perm sel1 ?_
      refine At.perm sel2 ?_
      refine At.ret1 (L1 := [Nx]) rfl (.cell rfl (res_agg (ds := [_, _, _]) ag25 B2 rfl rfl mem0) .nil) (.cons _ (.refl _)) (.refl _) ?_
      refine ⟨Nx, ⟨true, none, 0, 0, ai, ni, ci⟩, rfl, rfl, fun J h1 h2 => ?_⟩
      rw [It.plain]
      have e := hs J (Heaplet.le_trans Nx2 h1) h2
      rw [List.take_of_length_le (by omega)] at e
      exact ItN.mk (RSl.nil _ _) (sr.le (Heaplet.le_trans Nx1 h1)) e
theorem Same_g {t u : It} {N A B : Heaplet} {x y : IV} (h : ItN N t x) (hy : ∀ J : Heaplet, A.le J → B.le J → ItN J u y) :
    Fn Try.prog 19 #[.agg #[.bool x.l, .slice x.ab x.nb x.cb, .slice x.ai x.ni x.ci], .agg #[.bool y.l, .slice y.ab y.nb y.cb, .slice y.ai y.ni y.ci]] [] [N, A, B] (fun v L => v = .bool (t.same u) ∧ L = []) := by
  intro E w R hp hr
  refine Same_f t u N R x y h (hy R (hr A (by simp)) (hr B (by simp))) E w R hp fun M hM => ?_
  rcases List.mem_cons.1 hM with rfl | hM
  · exact hr _ (by simp)
  · rw [List.mem_singleton.1 hM]; exact Heaplet.le_refl _
theorem RlpBack_f {N N' : Heaplet} {t : It} {x : IV} {ao : Option Addr} {n cap : Nat} {l : List UInt8} (h : ItN N t x) (h1 : RSl N' 1 ao n cap (u8s l)) (m : UInt8) :
    Fn Try.prog 5 #[.agg #[.bool x.l, .slice x.ab x.nb x.cb, .slice x.ai x.ni x.ci], .slice ao n cap, .int .u8 (m.toNat : Int)] [] [N, N'] (fun v L => v = .bool true ∧ L = []) := by
  have hlen := h1.len8
  have hl6 : (l.take 6000).length ≤ 6000 := by rw [List.length_take]; omega
  refine Fn.enter (vs := [.agg #[.bool x.l, .slice x.ab x.nb x.cb, .slice x.ai x.ni x.ci], .slice ao n cap, .int .u8 (m.toNat : Int)]) Try.func5 rfl rfl rfl ?_
  intro E R hR
  have h := h.le (hR N (by simp))
  have h1 := h1.le (hR N' (by simp))
  change At _ _ E [R] _
  refine At.seq fun K1 hk_1 => ?_
  refine At.region ?_
  refine op_box (nxla rfl) rfl rfl rfl (fun N3 b3 B3 => ?_)
  refine op_assign (nxlf rfl) rfl rfl ?_
  refine At.opsNil ?_
  refine At.norm (hk_1 ?_)
  refine At.seq fun K2 hk_2 => ?_
  refine At.region ?_
  refine op_loadAggB (ds := [_, _, _]) (nxlf rfl) ag25 rfl B3 rfl rfl mem0 rfl ?_
  refine op_callA (nxla rfl) (.cons rfl .nil) (cut_law_f h) Try.func12 rfl rfl (by simp) rfl ?_
  rintro v20 L20 ⟨M20, y, t', rfl, rfl, hy, hyd, hys⟩
  change At _ _ _ [M20, N3, R] _
  have hfl : t'.form.length ≤ 1227000 := Nat.le_trans (form_size _ (by omega)) (by omega)
  refine op_alloc (nxla rfl) ze25 rfl (fun N7 b7 B7 => ?_)
  change Blk N7 b7 _ [.bool false, .slice none 0 0, .slice none 0 0] at B7
  refine op_store (nxl rfl) sz25 rfl rfl rfl rfl rfl B7 (by simp) sel0 (fun N7 B7 => ?_)
  simp only [setL, List.set] at B7
  refine At.opsNil ?_
  refine At.norm (hk_2 ?_)
  refine At.seq fun K3 hk_3 => ?_
  refine At.region ?_
  refine op_loadAggB (ds := [_, _, _]) (nxlf rfl) ag25 rfl B7 rfl rfl mem0 rfl ?_
  refine op_callA (nxla rfl) (.cons rfl .nil) (Encode_f hy (by omega)) Try.func13 rfl rfl (by simp) rfl ?_
  rintro v23 L23 (⟨M23, a23, p23, rfl, rfl, r23, hd23⟩ | ⟨rfl, rfl, hd23⟩)
  · change At _ _ _ [M23, N7, M20, N3, R] _
    have s23 := r23.rsl
    refine op_move (nxlf rfl) rfl rfl ?_
    refine op_extract (nxlf rfl) rfl rfl rfl ?_
    refine op_extract (nxlf rfl) rfl rfl rfl ?_
    refine op_assign (nxlf rfl) rfl rfl ?_
    refine op_assign (nxlf rfl) rfl rfl ?_
    refine At.opsNil ?_
    refine At.norm (hk_3 ?_)
    refine At.seq fun K4 hk_4 => ?_
    refine At.meet (fun fr_ hp_ => fr_ = [(1, .slice ao n cap)] ∧ hp_ = [R] ∧ (True)) ?_ (fun K4_ jk_4 => ?_)
    rotate_left
    · skip
      refine At.seq fun K5 hk_5 => ?_
      refine At.region ?_
      refine op_move (nxlf rfl) rfl rfl ?_
      refine op_eql (nxlf rfl) rfl rfl rfl ?_
      refine At.opsNil ?_
      refine At.norm (hk_5 ?_)
      refine At.condT rfl ?_
      refine At.seq fun K6 hk_6 => ?_
      refine At.region ?_
      refine op_lit (nxla rfl) Try.underlying22 ze5 sz5 .nil rfl rfl (by simp [Value.cells]) rfl rfl rfl (fun N29 a29 r29 => ?_)
      simp only [flatV, List.flatMap_cons, List.flatMap_nil, Value.cells, List.append_nil, List.cons_append, List.nil_append] at r29
      have s29 := r29.rsl
      refine op_move (nxlf rfl) rfl rfl ?_
      refine op_append (nxl rfl) Try.underlying22 Try.underlying22 te5 rfl rfl r29 (by assumption) (by first | exact mem0 | exact mem1 | exact mem2 | exact mem3 | exact mem4 | exact mem5 | exact mem6 | exact mem7 | exact mem8 | exact mem9) (by first | exact one_u8s _ | exact one_u64s _ | exact one_u32s _ | (intro u hu; simp at hu; subst hu; rfl)) (by omega) (by omega) sel0 rfl (fun N31 a31 p31 r31 => ?_)
      have s31 := r31.rsl
      refine op_callA (nxla rfl) (.cons rfl .nil) (Decode_ok (b := t'.form) s31 (by omega) (decodeF_form (t := t') (by omega) (by omega))) Try.func17 rfl rfl (by simp) rfl ?_
      rintro v32 L32 ⟨M32, x32, rfl, rfl, hx32⟩
      change At _ _ _ [M32, N31, M23, N7, M20, N3, R] _
      refine op_move (nxlf rfl) rfl rfl ?_
      refine op_extract (nxlf rfl) rfl rfl rfl ?_
      refine op_extract (nxlf rfl) rfl rfl rfl ?_
      refine op_alloc (nxla rfl) ze25 rfl (fun N10 b10 B10 => ?_)
      change Blk N10 b10 _ [.bool false, .slice none 0 0, .slice none 0 0] at B10
      refine op_store (nxl rfl) sz25 rfl rfl rfl rfl rfl B10 (by simp) sel0 (fun N10 B10 => ?_)
      simp only [setL, List.set] at B10
      refine op_assign (nxlf rfl) rfl rfl ?_
      refine At.opsNil ?_
      refine At.norm (hk_6 ?_)
      refine At.seq fun K7 hk_7 => ?_
      refine At.region ?_
      refine op_lit (nxla rfl) Try.underlying22 ze5 sz5 .nil rfl rfl (by simp [Value.cells]) rfl rfl rfl (fun N36 a36 r36 => ?_)
      simp only [flatV, List.flatMap_cons, List.flatMap_nil, Value.cells, List.append_nil, List.cons_append, List.nil_append] at r36
      have s36 := r36.rsl
      refine op_move (nxlf rfl) rfl rfl ?_
      refine op_append (nxl rfl) Try.underlying22 Try.underlying22 te5 rfl rfl r36 (by assumption) (by first | exact mem0 | exact mem1 | exact mem2 | exact mem3 | exact mem4 | exact mem5 | exact mem6 | exact mem7 | exact mem8 | exact mem9) (by first | exact one_u8s _ | exact one_u64s _ | exact one_u32s _ | (intro u hu; simp at hu; subst hu; rfl)) (by omega) (by omega) sel0 rfl (fun N38 a38 p38 r38 => ?_)
      have s38 := r38.rsl
      refine op_move (nxlf rfl) rfl rfl ?_
      refine op_lit (nxla rfl) Try.underlying22 ze5 sz5 (.cons rfl .nil) rfl rfl (by simp [Value.cells]) rfl rfl rfl (fun N40 a40 r40 => ?_)
      simp only [flatV, List.flatMap_cons, List.flatMap_nil, Value.cells, List.append_nil, List.cons_append, List.nil_append] at r40
      have s40 := r40.rsl
      refine op_append (nxl rfl) Try.underlying22 Try.underlying22 te5 rfl rfl r38 (by assumption) (by first | exact mem0 | exact mem1 | exact mem2 | exact mem3 | exact mem4 | exact mem5 | exact mem6 | exact mem7 | exact mem8 | exact mem9) (by first | exact one_u8s _ | exact one_u64s _ | exact one_u32s _ | (intro u hu; simp at hu; subst hu; rfl)) (by omega) (by omega) sel1 rfl (fun N41 a41 p41 r41 => ?_)
      have s41 := r41.rsl
      have e41 : RSl N41 1 a41 (0 + t'.form.length + 1) p41 (u8s (t'.form ++ [m])) := by rw [u8s, List.map_append]; exact s41
      refine op_callA (nxla rfl) (.cons rfl .nil) (Decode_err (b := t'.form ++ [m]) e41 (by omega) (decodeF_more (t := t') m (by omega) (by omega))) Try.func17 rfl rfl (by simp) rfl ?_
      rintro v42 L42 ⟨rfl, rfl⟩
      change At _ _ _ [N41, N40, N10, M32, N31, M23, N7, M20, N3, R] _
      refine op_move (nxlf rfl) rfl rfl ?_
      refine op_extract (nxlf rfl) rfl rfl rfl ?_
      refine op_extract (nxlf rfl) rfl rfl rfl ?_
      refine op_alloc (nxla rfl) ze25 rfl (fun N12 b12 B12 => ?_)
      change Blk N12 b12 _ [.bool false, .slice none 0 0, .slice none 0 0] at B12
      refine op_store (nxl rfl) sz25 rfl rfl rfl rfl rfl B12 (by simp) sel0 (fun N12 B12 => ?_)
      simp only [setL, List.set] at B12
      refine op_assign (nxlf rfl) rfl rfl ?_
      refine At.opsNil ?_
      refine At.norm (hk_7 ?_)
      refine At.seq fun K8 hk_8 => ?_
      refine At.drawn [6] [0,1,2,3,4,5,6,7,8,9,10,11,12] (by kernel_rfl) (by kernel_rfl) ?_
      refine op_move (nxof rfl rfl rfl (by kernel_rfl)) rfl rfl ?_
      refine op_neq (nxof rfl rfl rfl (by kernel_rfl)) rfl rfl rfl ?_
      refine op_move (nxof rfl rfl rfl (by kernel_rfl)) rfl rfl ?_
      refine op_loadAggB (ds := [_, _, _]) (nxogf rfl rfl rfl rfl rfl rfl (by kernel_rfl)) ag25 rfl B10 rfl rfl mem3 rfl ?_
      refine op_loadAggB (ds := [_, _, _]) (nxogf rfl rfl rfl rfl rfl rfl (by kernel_rfl)) ag25 rfl B7 rfl rfl mem7 rfl ?_
      refine op_callA (nxoga rfl rfl rfl rfl rfl rfl) (.cons rfl .nil) (plain_f t' M20 y hy (by omega)) Try.func20 rfl rfl (by simp) rfl ?_
      rintro v50 L50 ⟨M50, z, rfl, rfl, hz⟩
      change At _ _ _ [M50, N12, N41, N40, N10, M32, N31, M23, N7, M20, N3, R] _
      refine op_callA (Nx.agree (nxogs rfl rfl rfl rfl rfl rfl rfl)) (.cons rfl (.cons rfl .nil)) (Same_g hx32 hz) Try.func19 rfl rfl (by simp) rfl ?_
      rintro v51 L51 ⟨rfl, rfl⟩
      change At _ _ _ [M50, N12, N41, N40, N10, M32, N31, M23, N7, M20, N3, R] _
      rw [It.same_self]
      refine op_not (nxogf rfl rfl rfl rfl rfl rfl (by kernel_rfl)) rfl rfl ?_
      refine op_pickF (nxof rfl rfl rfl (by kernel_rfl)) rfl rfl rfl ?_
      refine op_move (nxof rfl rfl rfl (by kernel_rfl)) rfl rfl ?_
      refine op_move (nxogf rfl rfl rfl rfl rfl rfl (by kernel_rfl)) rfl rfl ?_
      refine op_neq (nxogf rfl rfl rfl rfl rfl rfl (by kernel_rfl)) rfl rfl rfl ?_
      refine op_pickF (nxof rfl rfl rfl (by kernel_rfl)) rfl rfl rfl ?_
      refine At.oneNil ?_
      refine At.norm (hk_8 ?_)
      refine At.condF rfl ?_
      refine At.skip ?_
      refine At.sub (L' := [R]) (.cons _ (.cons _ (.cons _ (.cons _ (.cons _ (.cons _ (.cons _ (.cons _ (.cons _ (.cons _ (.cons _ (.cons_cons _ (.slnil))))))))))))) ?_
      refine At.norm (jk_4 ?_ (.refl _) ⟨rfl, rfl, trivial⟩)
      exact .cons (by first | exact lkI rfl (by omega) | rfl) .nil
    rintro _ _ ⟨rfl, rfl, ht⟩
    refine hk_4 ?_
    refine At.seq fun K9 hk_9 => ?_
    refine At.region ?_
    refine op_move (nxlf rfl) rfl rfl ?_
    refine op_callA (nxla rfl) (.cons rfl (.cons rfl .nil)) (KTwin_f h1 6000 6000 rfl (by decide)) Try.func16 rfl rfl (by simp) rfl ?_
    rintro v59 L59 ⟨M59, a59, p59, rfl, rfl, r59⟩
    change At _ _ _ [M59, R] _
    have s59 := r59.rsl
    refine op_assign (nxlf rfl) rfl rfl ?_
    refine At.opsNil ?_
    refine At.norm (hk_9 ?_)
    refine At.seq fun K10 hk_10 => ?_
    refine At.region ?_
    refine op_move (nxlf rfl) rfl rfl ?_
    refine op_callA (nxla rfl) (.cons rfl (.cons rfl .nil)) (KTwin_all s59 6000 6000 rfl (by decide) hl6) Try.func16 rfl rfl (by simp) rfl ?_
    rintro v62 L62 ⟨M62, a62, p62, rfl, rfl, r62⟩
    change At _ _ _ [M62, M59, R] _
    have s62 := r62.rsl
    refine op_callA (nxla rfl) (.cons rfl .nil) (Decode_f s62 (by omega)) Try.func17 rfl rfl (by simp) rfl ?_
    rintro v63 L63 (⟨u, M63, z, he, rfl, rfl, hz⟩ | ⟨e, he, rfl, rfl, hne⟩)
    · change At _ _ _ [M63, M62, M59, R] _
      obtain ⟨hfm, hdd⟩ := decodeF_back (by omega) he; have hul : u.form.length ≤ 6000 := by rw [hfm]; exact hl6
      refine op_move (nxlf rfl) rfl rfl ?_
      refine op_extract (nxlf rfl) rfl rfl rfl ?_
      refine op_extract (nxlf rfl) rfl rfl rfl ?_
      refine op_alloc (nxla rfl) ze25 rfl (fun N15 b15 B15 => ?_)
      change Blk N15 b15 _ [.bool false, .slice none 0 0, .slice none 0 0] at B15
      refine op_store (nxl rfl) sz25 rfl rfl rfl rfl rfl B15 (by simp) sel0 (fun N15 B15 => ?_)
      simp only [setL, List.set] at B15
      refine op_assign (nxlf rfl) rfl rfl ?_
      refine At.opsNil ?_
      refine At.norm (hk_10 ?_)
      refine At.seq fun K11 hk_11 => ?_
      refine At.seq fun K12 hk_12 => ?_
      refine At.region ?_
      refine op_move (nxlf rfl) rfl rfl ?_
      refine op_neq (nxlf rfl) rfl rfl rfl ?_
      refine At.opsNil ?_
      refine At.norm (hk_12 ?_)
      refine At.condF rfl ?_
      refine At.skip ?_
      refine At.norm (hk_11 ?_)
      refine At.seq fun K13 hk_13 => ?_
      refine At.region ?_
      refine op_loadAggB (ds := [_, _, _]) (nxlf rfl) ag25 rfl B15 rfl rfl mem0 rfl ?_
      refine op_callA (nxla rfl) (.cons rfl .nil) (Encode_ok hz (by omega) hdd) Try.func13 rfl rfl (by simp) rfl ?_
      rintro v88 L88 ⟨M88, a88, p88, rfl, rfl, r88⟩
      change At _ _ _ [M88, N15, M63, M62, M59, R] _
      have s88 := r88.rsl
      refine op_move (nxlf rfl) rfl rfl ?_
      refine op_extract (nxlf rfl) rfl rfl rfl ?_
      refine op_extract (nxlf rfl) rfl rfl rfl ?_
      refine op_assign (nxlf rfl) rfl rfl ?_
      refine op_assign (nxlf rfl) rfl rfl ?_
      refine At.opsNil ?_
      refine At.norm (hk_13 ?_)
      refine At.seq fun K14 hk_14 => ?_
      refine At.region ?_
      refine op_move (nxlf rfl) rfl rfl ?_
      refine op_eql (nxlf rfl) rfl rfl rfl ?_
      refine op_move (nxlf rfl) rfl rfl ?_
      refine op_move (nxgf rfl rfl rfl rfl) rfl rfl ?_
      refine op_str (nxgf rfl rfl rfl rfl) Try.underlying22 Try.underlying5 Try.underlying9 rfl (by assumption) (by first | exact mem0 | exact mem1 | exact mem2 | exact mem3 | exact mem4 | exact mem5 | exact mem6 | exact mem7 | exact mem8 | exact mem9) rfl ?_
      refine op_move (nxgf rfl rfl rfl rfl) rfl rfl ?_
      refine op_str (nxgf rfl rfl rfl rfl) Try.underlying22 Try.underlying5 Try.underlying9 rfl (by assumption) (by first | exact mem0 | exact mem1 | exact mem2 | exact mem3 | exact mem4 | exact mem5 | exact mem6 | exact mem7 | exact mem8 | exact mem9) rfl ?_
      refine op_eqS (nxgf rfl rfl rfl rfl) rfl rfl rfl ?_
      refine op_pickT (nxlf rfl) rfl rfl rfl ?_
      refine op_move (nxlf rfl) rfl rfl ?_
      refine At.partP (d := 100) rfl (fun g100 => ?_) (fun g100 => ?_)
      · refine op_callA (nxga rfl rfl rfl rfl) .nil (wakes_f) Try.func15 rfl rfl (by simp) rfl ?_
        rintro v101 L101 ⟨rfl, rfl⟩
        change At _ _ _ [M88, N15, M63, M62, M59, R] _
        refine op_pickT (nxlf rfl) rfl rfl rfl ?_
        refine op_assign (nxlf rfl) rfl rfl ?_
        refine At.opsNil ?_
        refine At.norm (hk_14 ?_)
        refine At.ret (?_)
        refine At.sub (L' := [R]) (.cons _ (.cons _ (.cons _ (.cons _ (.cons _ (.cons_cons _ (.slnil))))))) ?_
        refine At.ret1 (L1 := []) rfl (.tmp rfl .nil) (.refl _) (.refl _) ?_
        exact ⟨rfl, rfl⟩
      · exact absurd hfm g100
    · change At _ _ _ [M62, M59, R] _
      refine op_move (nxlf rfl) rfl rfl ?_
      refine op_extract (nxlf rfl) rfl rfl rfl ?_
      refine op_extract (nxlf rfl) rfl rfl rfl ?_
      refine op_alloc (nxla rfl) ze25 rfl (fun N15 b15 B15 => ?_)
      change Blk N15 b15 _ [.bool false, .slice none 0 0, .slice none 0 0] at B15
      refine op_store (nxl rfl) sz25 rfl rfl rfl rfl rfl B15 (by simp) sel0 (fun N15 B15 => ?_)
      simp only [setL, List.set] at B15
      refine op_assign (nxlf rfl) rfl rfl ?_
      refine At.opsNil ?_
      refine At.norm (hk_10 ?_)
      refine At.seq fun K15 hk_15 => ?_
      refine At.seq fun K16 hk_16 => ?_
      refine At.region ?_
      refine op_move (nxlf rfl) rfl rfl ?_
      refine op_neq (nxlf rfl) rfl rfl rfl ?_
      refine At.opsNil ?_
      refine At.norm (hk_16 ?_)
      refine At.condP rfl (fun c67 => ?_) (fun c67 => ?_)
      · refine At.seq fun K17 hk_17 => ?_
        refine At.region ?_
        refine op_fieldAddr (nxlf rfl) fl25_0 rfl rfl ?_
        refine op_loadB (nxlf rfl) sc4 rfl B15 (by first | rfl) mem0 rfl ?_
        refine op_not (nxlf rfl) rfl rfl ?_
        refine op_move (nxlf rfl) rfl rfl ?_
        refine op_fieldAddr (nxgf rfl rfl rfl rfl) fl25_1 rfl rfl ?_
        refine op_loadB (nxgf rfl rfl rfl rfl) sc22 rfl B15 (by first | rfl) mem0 rfl ?_
        refine op_lenS (nxgf rfl rfl rfl rfl) se22 rfl rfl ?_
        refine op_eql (nxgf rfl rfl rfl rfl) rfl rfl rfl ?_
        refine op_pickT (nxlf rfl) rfl rfl rfl ?_
        refine op_move (nxlf rfl) rfl rfl ?_
        refine op_fieldAddr (nxgf rfl rfl rfl rfl) fl25_2 rfl rfl ?_
        refine op_loadB (nxgf rfl rfl rfl rfl) sc23 rfl B15 (by first | rfl) mem0 rfl ?_
        refine op_lenS (nxgf rfl rfl rfl rfl) se23 rfl rfl ?_
        refine op_eql (nxgf rfl rfl rfl rfl) rfl rfl rfl ?_
        refine op_pickT (nxlf rfl) rfl rfl rfl ?_
        refine op_move (nxlf rfl) rfl rfl ?_
        refine op_callA (nxga rfl rfl rfl rfl) .nil (wakes_f) Try.func15 rfl rfl (by simp) rfl ?_
        rintro v84 L84 ⟨rfl, rfl⟩
        change At _ _ _ [N15, M62, M59, R] _
        refine op_pickT (nxlf rfl) rfl rfl rfl ?_
        refine op_assign (nxlf rfl) rfl rfl ?_
        refine At.opsNil ?_
        refine At.norm (hk_17 ?_)
        refine At.ret (At.thenRet (?_))
        refine At.sub (L' := [R]) (.cons _ (.cons _ (.cons _ (.cons_cons _ (.slnil))))) ?_
        refine At.ret1 (L1 := []) rfl (.tmp rfl .nil) (.refl _) (.refl _) ?_
        exact ⟨rfl, rfl⟩
      · exfalso; omega
  · change At _ _ _ [N7, M20, N3, R] _
    refine op_move (nxlf rfl) rfl rfl ?_
    refine op_extract (nxlf rfl) rfl rfl rfl ?_
    refine op_extract (nxlf rfl) rfl rfl rfl ?_
    refine op_assign (nxlf rfl) rfl rfl ?_
    refine op_assign (nxlf rfl) rfl rfl ?_
    refine At.opsNil ?_
    refine At.norm (hk_3 ?_)
    refine At.seq fun K18 hk_18 => ?_
    refine At.seq fun K19 hk_19 => ?_
    refine At.region ?_
    refine op_move (nxlf rfl) rfl rfl ?_
    refine op_eql (nxlf rfl) rfl rfl rfl ?_
    refine At.opsNil ?_
    refine At.norm (hk_19 ?_)
    refine At.condP rfl (fun c27 => ?_) (fun c27 => ?_)
    · exact absurd c27 (by decide)
    · refine At.skip ?_
      refine At.norm (hk_18 ?_)
      refine At.seq fun K20 hk_20 => ?_
      refine At.region ?_
      refine op_move (nxlf rfl) rfl rfl ?_
      refine op_callA (nxla rfl) (.cons rfl (.cons rfl .nil)) (KTwin_f h1 6000 6000 rfl (by decide)) Try.func16 rfl rfl (by simp) rfl ?_
      rintro v59 L59 ⟨M59, a59, p59, rfl, rfl, r59⟩
      change At _ _ _ [M59, N7, M20, N3, R] _
      have s59 := r59.rsl
      refine op_assign (nxlf rfl) rfl rfl ?_
      refine At.opsNil ?_
      refine At.norm (hk_20 ?_)
      refine At.seq fun K21 hk_21 => ?_
      refine At.region ?_
      refine op_move (nxlf rfl) rfl rfl ?_
      refine op_callA (nxla rfl) (.cons rfl (.cons rfl .nil)) (KTwin_all s59 6000 6000 rfl (by decide) hl6) Try.func16 rfl rfl (by simp) rfl ?_
      rintro v62 L62 ⟨M62, a62, p62, rfl, rfl, r62⟩
      change At _ _ _ [M62, M59, N7, M20, N3, R] _
      have s62 := r62.rsl
      refine op_callA (nxla rfl) (.cons rfl .nil) (Decode_f s62 (by omega)) Try.func17 rfl rfl (by simp) rfl ?_
      rintro v63 L63 (⟨u, M63, z, he, rfl, rfl, hz⟩ | ⟨e, he, rfl, rfl, hne⟩)
      · change At _ _ _ [M63, M62, M59, N7, M20, N3, R] _
        obtain ⟨hfm, hdd⟩ := decodeF_back (by omega) he; have hul : u.form.length ≤ 6000 := by rw [hfm]; exact hl6
        refine op_move (nxlf rfl) rfl rfl ?_
        refine op_extract (nxlf rfl) rfl rfl rfl ?_
        refine op_extract (nxlf rfl) rfl rfl rfl ?_
        refine op_alloc (nxla rfl) ze25 rfl (fun N15 b15 B15 => ?_)
        change Blk N15 b15 _ [.bool false, .slice none 0 0, .slice none 0 0] at B15
        refine op_store (nxl rfl) sz25 rfl rfl rfl rfl rfl B15 (by simp) sel0 (fun N15 B15 => ?_)
        simp only [setL, List.set] at B15
        refine op_assign (nxlf rfl) rfl rfl ?_
        refine At.opsNil ?_
        refine At.norm (hk_21 ?_)
        refine At.seq fun K22 hk_22 => ?_
        refine At.seq fun K23 hk_23 => ?_
        refine At.region ?_
        refine op_move (nxlf rfl) rfl rfl ?_
        refine op_neq (nxlf rfl) rfl rfl rfl ?_
        refine At.opsNil ?_
        refine At.norm (hk_23 ?_)
        refine At.condF rfl ?_
        refine At.skip ?_
        refine At.norm (hk_22 ?_)
        refine At.seq fun K24 hk_24 => ?_
        refine At.region ?_
        refine op_loadAggB (ds := [_, _, _]) (nxlf rfl) ag25 rfl B15 rfl rfl mem0 rfl ?_
        refine op_callA (nxla rfl) (.cons rfl .nil) (Encode_ok hz (by omega) hdd) Try.func13 rfl rfl (by simp) rfl ?_
        rintro v88 L88 ⟨M88, a88, p88, rfl, rfl, r88⟩
        change At _ _ _ [M88, N15, M63, M62, M59, N7, M20, N3, R] _
        have s88 := r88.rsl
        refine op_move (nxlf rfl) rfl rfl ?_
        refine op_extract (nxlf rfl) rfl rfl rfl ?_
        refine op_extract (nxlf rfl) rfl rfl rfl ?_
        refine op_assign (nxlf rfl) rfl rfl ?_
        refine op_assign (nxlf rfl) rfl rfl ?_
        refine At.opsNil ?_
        refine At.norm (hk_24 ?_)
        refine At.seq fun K25 hk_25 => ?_
        refine At.region ?_
        refine op_move (nxlf rfl) rfl rfl ?_
        refine op_eql (nxlf rfl) rfl rfl rfl ?_
        refine op_move (nxlf rfl) rfl rfl ?_
        refine op_move (nxgf rfl rfl rfl rfl) rfl rfl ?_
        refine op_str (nxgf rfl rfl rfl rfl) Try.underlying22 Try.underlying5 Try.underlying9 rfl (by assumption) (by first | exact mem0 | exact mem1 | exact mem2 | exact mem3 | exact mem4 | exact mem5 | exact mem6 | exact mem7 | exact mem8 | exact mem9) rfl ?_
        refine op_move (nxgf rfl rfl rfl rfl) rfl rfl ?_
        refine op_str (nxgf rfl rfl rfl rfl) Try.underlying22 Try.underlying5 Try.underlying9 rfl (by assumption) (by first | exact mem0 | exact mem1 | exact mem2 | exact mem3 | exact mem4 | exact mem5 | exact mem6 | exact mem7 | exact mem8 | exact mem9) rfl ?_
        refine op_eqS (nxgf rfl rfl rfl rfl) rfl rfl rfl ?_
        refine op_pickT (nxlf rfl) rfl rfl rfl ?_
        refine op_move (nxlf rfl) rfl rfl ?_
        refine At.partP (d := 100) rfl (fun g100 => ?_) (fun g100 => ?_)
        · refine op_callA (nxga rfl rfl rfl rfl) .nil (wakes_f) Try.func15 rfl rfl (by simp) rfl ?_
          rintro v101 L101 ⟨rfl, rfl⟩
          change At _ _ _ [M88, N15, M63, M62, M59, N7, M20, N3, R] _
          refine op_pickT (nxlf rfl) rfl rfl rfl ?_
          refine op_assign (nxlf rfl) rfl rfl ?_
          refine At.opsNil ?_
          refine At.norm (hk_25 ?_)
          refine At.ret (?_)
          refine At.sub (L' := [R]) (.cons _ (.cons _ (.cons _ (.cons _ (.cons _ (.cons _ (.cons _ (.cons _ (.cons_cons _ (.slnil)))))))))) ?_
          refine At.ret1 (L1 := []) rfl (.tmp rfl .nil) (.refl _) (.refl _) ?_
          exact ⟨rfl, rfl⟩
        · exact absurd hfm g100
      · change At _ _ _ [M62, M59, N7, M20, N3, R] _
        refine op_move (nxlf rfl) rfl rfl ?_
        refine op_extract (nxlf rfl) rfl rfl rfl ?_
        refine op_extract (nxlf rfl) rfl rfl rfl ?_
        refine op_alloc (nxla rfl) ze25 rfl (fun N15 b15 B15 => ?_)
        change Blk N15 b15 _ [.bool false, .slice none 0 0, .slice none 0 0] at B15
        refine op_store (nxl rfl) sz25 rfl rfl rfl rfl rfl B15 (by simp) sel0 (fun N15 B15 => ?_)
        simp only [setL, List.set] at B15
        refine op_assign (nxlf rfl) rfl rfl ?_
        refine At.opsNil ?_
        refine At.norm (hk_21 ?_)
        refine At.seq fun K26 hk_26 => ?_
        refine At.seq fun K27 hk_27 => ?_
        refine At.region ?_
        refine op_move (nxlf rfl) rfl rfl ?_
        refine op_neq (nxlf rfl) rfl rfl rfl ?_
        refine At.opsNil ?_
        refine At.norm (hk_27 ?_)
        refine At.condP rfl (fun c67 => ?_) (fun c67 => ?_)
        · refine At.seq fun K28 hk_28 => ?_
          refine At.region ?_
          refine op_fieldAddr (nxlf rfl) fl25_0 rfl rfl ?_
          refine op_loadB (nxlf rfl) sc4 rfl B15 (by first | rfl) mem0 rfl ?_
          refine op_not (nxlf rfl) rfl rfl ?_
          refine op_move (nxlf rfl) rfl rfl ?_
          refine op_fieldAddr (nxgf rfl rfl rfl rfl) fl25_1 rfl rfl ?_
          refine op_loadB (nxgf rfl rfl rfl rfl) sc22 rfl B15 (by first | rfl) mem0 rfl ?_
          refine op_lenS (nxgf rfl rfl rfl rfl) se22 rfl rfl ?_
          refine op_eql (nxgf rfl rfl rfl rfl) rfl rfl rfl ?_
          refine op_pickT (nxlf rfl) rfl rfl rfl ?_
          refine op_move (nxlf rfl) rfl rfl ?_
          refine op_fieldAddr (nxgf rfl rfl rfl rfl) fl25_2 rfl rfl ?_
          refine op_loadB (nxgf rfl rfl rfl rfl) sc23 rfl B15 (by first | rfl) mem0 rfl ?_
          refine op_lenS (nxgf rfl rfl rfl rfl) se23 rfl rfl ?_
          refine op_eql (nxgf rfl rfl rfl rfl) rfl rfl rfl ?_
          refine op_pickT (nxlf rfl) rfl rfl rfl ?_
          refine op_move (nxlf rfl) rfl rfl ?_
          refine op_callA (nxga rfl rfl rfl rfl) .nil (wakes_f) Try.func15 rfl rfl (by simp) rfl ?_
          rintro v84 L84 ⟨rfl, rfl⟩
          change At _ _ _ [N15, M62, M59, N7, M20, N3, R] _
          refine op_pickT (nxlf rfl) rfl rfl rfl ?_
          refine op_assign (nxlf rfl) rfl rfl ?_
          refine At.opsNil ?_
          refine At.norm (hk_28 ?_)
          refine At.ret (At.thenRet (?_))
          refine At.sub (L' := [R]) (.cons _ (.cons _ (.cons _ (.cons _ (.cons _ (.cons _ (.cons_cons _ (.slnil)))))))) ?_
          refine At.ret1 (L1 := []) rfl (.tmp rfl .nil) (.refl _) (.refl _) ?_
          exact ⟨rfl, rfl⟩
        · exfalso; omega
end Go.Proofs.Ytohmmgggaegbbaa
