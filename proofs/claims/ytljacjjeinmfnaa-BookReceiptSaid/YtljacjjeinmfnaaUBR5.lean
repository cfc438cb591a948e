/- quarrylaw14.BookReceipt answers true. No condition. -/
import Derived.Test.YtljacjjeinmfnaaU14
import Derived.Test.YtljacjjeinmfnaaUBL5
namespace Go.Proofs.Ytljacjjeinmfnaa
set_option linter.unusedVariables false
set_option linter.unusedSimpArgs false
open Go Go.RowKit
set_option maxRecDepth 100000
section
variable {k : Int} {rv lv : Value} {ok : Bool} {gas : UInt64} {bl : List UInt8}
theorem rcC_setL (hb : bl.length = 256) (lv' : Value) : setL (rcC k rv ok gas bl lv) 260 [lv'] = rcC k rv ok gas bl lv' := by
  have hu : (u8s bl).length = 256 := by rw [u8s_len, hb]
  have := setL_append [lv'] (.int .i64 k :: rv :: .bool ok :: .int .u64 (gas.toNat : Int) :: u8s bl) [lv] [] rfl
  simp only [List.length_cons, hu, List.append_nil] at this
  exact this
theorem rcC_setR (rv' : Value) : setL (rcC k rv ok gas bl lv) 1 [rv'] = rcC k rv' ok gas bl lv := by
  exact setL_append [rv'] [.int .i64 k] [rv] (.bool ok :: .int .u64 (gas.toNat : Int) :: (u8s bl ++ [lv])) rfl
theorem rcC_root (hb : bl.length = 256) : (rcC k rv ok gas bl lv)[0 + 1]? = some rv := rfl
end
theorem u8s_ints (l : List UInt8) : (u8s l).all isInt = true := by
  refine List.all_eq_true.2 fun u hu => ?_
  obtain ⟨x, _, rfl⟩ := List.mem_map.1 hu
  rfl
theorem okB_eq8 {P : Program} {l : List (Nat × Value)} {t t' : TypeId} {x y : Operand} {a b : List UInt8} (hx : ev l x = some (.agg (u8s a).toArray)) (hy : ev l y = some (.agg (u8s b).toArray)) (hg : (!P.eqGuardType P.depth t && intsB P t) = true) : okB P l (.binOp .eql t x y t') = true := by
  rw [Bool.and_eq_true] at hg
  simp [okB, Op.operands, floatOK, hx, hy, hg.1, hg.2, u8s_ints]
theorem LogM.cut_cut (g : LogM) : g.cut.cut = g.cut := by simp [LogM.cut, List.take_take]
theorem cutG_cut (gs : List LogM) : cutG (cutG gs) = cutG gs := by
  rw [cutG, cutG, ← List.map_take, List.take_take, List.map_map]
  refine List.map_congr_left fun g _ => ?_
  exact LogM.cut_cut g
theorem LogsN.len20 {N : Heaplet} {gs : List LogM} {xs : List LV} (h : LogsN N gs xs) : ∀ g ∈ gs, g.addr.length = 20 ∧ ∀ t ∈ g.topics, t.length = 32 := fun g hg => by
  obtain ⟨i, hi, rfl⟩ := List.getElem_of_mem hg
  obtain ⟨g', x, h1, _, h2⟩ := h.at hi
  rw [List.getElem?_eq_getElem hi] at h1
  obtain rfl := Option.some.inj h1
  exact ⟨h2.2.1, h2.2.2.2.2.1⟩
theorem forms_le {b : Nat} : ∀ {ts : List It} {n : Nat}, (∀ t ∈ ts, t.form.length ≤ b) → ts.length ≤ n → (It.forms ts).length ≤ n * b
  | [], n, _, _ => by rw [forms_nil]; exact Nat.zero_le _
  | t :: ts, 0, _, hn => by simp at hn
  | t :: ts, n + 1, h, hn => by
    rw [forms_cons, List.length_append, Nat.succ_mul]
    have h1 := h t (by simp)
    have h2 := forms_le (n := n) (fun t ht => h t (List.mem_cons_of_mem _ ht)) (by simpa using hn)
    omega
theorem logIt_len {g : LogM} (ha : g.addr.length = 20) (ht : ∀ t ∈ g.topics, t.length = 32) (hn : g.topics.length ≤ 12) (hd : g.data.length ≤ 200) : (logIt g).form.length ≤ 1000 := by
  have h1 := formS_len g.addr (by omega)
  have h2 := formS_len g.data (by omega)
  have h3 : (It.forms (g.topics.map itS)).length ≤ 12 * 41 := forms_le (fun t h => by
    obtain ⟨x, hx, rfl⟩ := List.mem_map.1 h
    have := ht x hx
    have := formS_len x (by omega)
    omega) (by rw [List.length_map]; exact hn)
  have h4 := formL_len (g.topics.map itS) (by omega)
  have h5 : (It.forms [itS g.addr, itL (g.topics.map itS), itS g.data]).length ≤ 800 := by
    rw [forms_cons, forms_cons, forms_cons, forms_nil, List.length_append, List.length_append, List.length_append, List.length_nil]; omega
  have := formL_len [itS g.addr, itL (g.topics.map itS), itS g.data] (by omega)
  unfold logIt; omega
theorem rcIt_len {y bl : List UInt8} {ok : Bool} {gas : UInt64} {gs : List LogM} (hy : y.length ≤ 40) (hb : bl.length = 256) (hg : ∀ g ∈ gs, g.addr.length = 20 ∧ ∀ t ∈ g.topics, t.length = 32) : (rcIt y ok gas bl (cutG gs)).form.length ≤ 20000 := by
  have h1 : (firstI y ok).form.length ≤ 60 := by
    unfold firstI
    split
    · have h0 : (bytesOf 1).length ≤ 8 := bytes8 1
      have := formS_len (bytesOf 1) (by omega)
      omega
    · have := formS_len y (by omega)
      omega
  have h0 := bytes8 gas
  have h2 := formS_len (bytesOf gas.toNat) (by omega)
  have h3 := formS_len bl (by omega)
  have h4 : (It.forms ((cutG gs).map logIt)).length ≤ 10 * 1000 := forms_le (fun t h => by
    obtain ⟨g, hgm, rfl⟩ := List.mem_map.1 h
    rw [cutG] at hgm
    obtain ⟨g0, hg0, rfl⟩ := List.mem_map.1 hgm
    have := hg g0 (List.mem_of_mem_take hg0)
    exact logIt_len this.1 (fun t ht => this.2 t (List.mem_of_mem_take ht)) (by show (g0.topics.take 12).length ≤ 12; rw [List.length_take]; omega) (by show (g0.data.take 200).length ≤ 200; rw [List.length_take]; omega)) (by rw [List.length_map, cutG, List.length_map, List.length_take]; omega)
  have h5 := formL_len ((cutG gs).map logIt) (by omega)
  have h6 : (It.forms [firstI y ok, itS (bytesOf gas.toNat), itS bl, itL ((cutG gs).map logIt)]).length ≤ 12000 := by
    rw [forms_cons, forms_cons, forms_cons, forms_cons, forms_nil, List.length_append, List.length_append, List.length_append, List.length_append, List.length_nil]; omega
  have := formL_len [firstI y ok, itS (bytesOf gas.toNat), itS bl, itL ((cutG gs).map logIt)] (by omega)
  unfold rcIt; omega
theorem rBloomR_b {M J : Heaplet} {a : Option Addr} {c k : Nat} {ys : List LV} {G : List LogM} (h : RSl M 22 a k c (logsC ys)) (hj : LogsN J G ys) (hk : k ≤ 1099511627776) : Fn Try.prog 19 #[.slice a k c] [] [M, J] (fun v L => v = .agg (u8s (bloomL G)).toArray ∧ L = []) :=
  Fn.overJ (Ns := [M, J]) fun K hK => rBloom_b (h.le (hK _ (by simp))) (hj.le (hK _ (by simp))) hk
theorem FLogsR_b {M J : Heaplet} {a : Option Addr} {c k : Nat} {ys : List LV} {G : List LogM} (h : RSl M 22 a k c (logsC ys)) (hj : LogsN J G ys) : Fn Try.prog 15 #[.slice a k c] [] [M, J] (LogsP (cutG G)) :=
  Fn.overJ (Ns := [M, J]) fun K hK => FLogs_b (h.le (hK _ (by simp))) (hj.le (hK _ (by simp)))
section
variable {N M : Heaplet} {k : Int} {ra la : Option Addr} {rn rc ln lc : Nat} {root bl : List UInt8} {ok : Bool} {gas : UInt64} {gs : List LogM} {xs : List LV} {i v m : UInt64} {a : List UInt8}
set_option maxHeartbeats 4000000 in
theorem BookReceipt_ok (hr : RSl N 1 ra rn rc (u8s root)) (hl : RSl N 22 la ln lc (logsC xs)) (hg : LogsN N gs xs) (hb : bl.length = 256) (ha : a.length = 20) (hv : 0 ≤ k ∧ k ≤ 3 ∧ ((root.take 40).length = 0 ∨ (root.take 40).length = 32)) : Fn Try.prog 5 #[.agg (rcC k (.slice ra rn rc) ok gas bl (.slice la ln lc)).toArray, .agg (wdC i v a m).toArray] [] [N] (fun v L => v = .bool true ∧ L = []) := by
  have hcl := fun (rv lv : Value) => rcC_len (k := k) (rv := rv) (ok := ok) (gas := gas) (lv := lv) hb
  have hwl := wdC_len (i := i) (v := v) (m := m) ha
  obtain ⟨y, hy⟩ : ∃ y, root.take 40 = y := ⟨_, rfl⟩
  have hyl : y.length ≤ 40 := by rw [← hy, List.length_take]; omega
  rw [hy] at hv
  have hf0 := rcIt_len (ok := ok) (gas := gas) hyl hb hg.len20
  have hcc := cutG_cut gs
  have hT0 : ∀ g ∈ cutG gs, g.topics.length ≤ 1099511627776 ∧ g.data.length ≤ 1099511627776 := fun g h => by
    rw [cutG] at h
    obtain ⟨g0, _, rfl⟩ := List.mem_map.1 h
    constructor
    · show (g0.topics.take 12).length ≤ _
      rw [List.length_take]; omega
    · show (g0.data.take 200).length ≤ _
      rw [List.length_take]; omega
  have hGl : (cutG gs).length ≤ 10 := by rw [cutG, List.length_map, List.length_take]; omega
  obtain ⟨G, hG⟩ : ∃ G, cutG gs = G := ⟨_, rfl⟩
  rw [hG] at hf0 hT0 hGl hcc
  have hbl := bloomL_len G
  obtain ⟨O, hO⟩ : ∃ O, rcB k y ok gas bl G = O := ⟨_, rfl⟩
  obtain ⟨W, hW⟩ : ∃ W, (wdIt i v a m).form = W := ⟨_, rfl⟩
  refine Fn.enter (vs := [.agg (rcC k (.slice ra rn rc) ok gas bl (.slice la ln lc)).toArray, .agg (wdC i v a m).toArray]) Try.func5 rfl rfl rfl ?_
  intro E R hR
  have hr := hr.le (hR N (by simp))
  have hl := hl.le (hR N (by simp))
  have hg := hg.le (hR N (by simp))
  change At _ _ E [R] _
  refine At.seq fun K1 hk_1 => ?_
  refine At.region ?_
  refine op_box (nxla rfl) rfl rfl rfl (fun N2 b2 B2 => ?_)
  refine op_box (nxla rfl) rfl rfl rfl (fun N3 b3 B3 => ?_)
  refine op_assign (nxlf rfl) rfl rfl ?_
  refine At.opsNil ?_
  refine At.norm (hk_1 ?_)
  refine At.seq fun K2 hk_2 => ?_
  refine At.region ?_
  refine op_fieldAddr (nxlf rfl) fl46_5 rfl rfl ?_
  refine op_loadB (nxlf rfl) sc35 rfl B2 (by first | rfl | exact rcC_logs hb | exact rcC_root hb) mem1 rfl ?_
  refine op_callA (nxla rfl) (.cons rfl .nil) (FLogs_b hl hg) Try.func15 rfl rfl (by simp) rfl ?_
  rintro v11 L11 ⟨N11, J11, a11, c11, y11, rfl, rfl, r11, j11⟩
  change At _ _ _ [N11, J11, N3, N2, R] _
  rw [hG] at r11 j11 ⊢
  refine op_fieldAddr (nxlf rfl) fl46_5 rfl rfl ?_
  refine op_store (nxl rfl) sz35 rfl rfl rfl rfl rfl B2 (by rw [hcl]; exact show 0 + 260 + 1 ≤ 261 by decide) sel3 (fun N2 B2 => ?_)
  rw [rcC_setL hb] at B2
  refine At.opsNil ?_
  refine At.norm (hk_2 ?_)
  refine At.seq fun K3 hk_3 => ?_
  refine At.region ?_
  refine op_fieldAddr (nxlf rfl) fl46_1 rfl rfl ?_
  refine op_loadB (nxlf rfl) sc27 rfl B2 (by first | rfl | exact rcC_logs hb | exact rcC_root hb) mem0 rfl ?_
  refine op_callA (nxla rfl) (.cons rfl (.cons rfl .nil)) (KTwin_f hr 40 40 rfl (by decide)) Try.func8 rfl rfl (by simp) rfl ?_
  rintro v15 L15 ⟨N15, a15, c15, rfl, rfl, r15⟩
  change At _ _ _ [N15, N2, N11, J11, N3, R] _
  rw [hy] at r15 ⊢; have s15 := r15.rsl
  refine op_fieldAddr (nxlf rfl) fl46_1 rfl rfl ?_
  refine op_store (nxl rfl) sz27 rfl rfl rfl rfl rfl B2 (by rw [hcl]; exact show 0 + 1 + 1 ≤ 261 by decide) sel1 (fun N2 B2 => ?_)
  rw [rcC_setR] at B2
  refine At.opsNil ?_
  refine At.norm (hk_3 ?_)
  refine At.seq fun K4 hk_4 => ?_
  refine At.region ?_
  refine op_loadAggB (ds := rcC k (.slice a15 y.length c15) ok gas bl (.slice a11 G.length c11)) (nxlf rfl) ag46 rfl B2 (by exact tk_all (hcl _ _)) (by exact hcl _ _) mem0 rfl ?_
  refine op_callA (nxla rfl) (.cons rfl .nil) (Fn.overJ (Ns := [N15, N11, J11]) fun K hK => FReceipt_ok (s15.le (hK _ (by simp))) (r11.rsl.le (hK _ (by simp))) (j11.le (hK _ (by simp))) hb hv (fun g h => (hT0 g h).1) (by omega) (by omega)) Try.func17 rfl rfl (by simp) rfl ?_
  rintro v19 L19 ⟨N19, a19, c19, rfl, rfl, s19⟩
  change At _ _ _ [N19, N2, N15, N11, J11, N3, R] _
  rw [hO] at s19 ⊢
  refine op_move (nxlf rfl) rfl rfl ?_
  refine op_extract (nxlf rfl) rfl rfl rfl ?_
  refine op_extract (nxlf rfl) rfl rfl rfl ?_
  refine op_assign (nxlf rfl) rfl rfl ?_
  refine op_assign (nxlf rfl) rfl rfl ?_
  refine At.opsNil ?_
  refine At.norm (hk_4 ?_)
  refine At.seq fun K5 hk_5 => ?_
  refine At.region ?_
  refine op_loadAggB (ds := rcC k (.slice a15 y.length c15) ok gas bl (.slice a11 G.length c11)) (nxlf rfl) ag46 rfl B2 (by exact tk_all (hcl _ _)) (by exact hcl _ _) mem1 rfl ?_
  refine op_callA (nxla rfl) (.cons rfl .nil) (Fn.overJ (Ns := [N15, N11, J11]) fun K hK => rReceipt_ok (s15.le (hK _ (by simp))) (r11.rsl.le (hK _ (by simp))) (j11.le (hK _ (by simp))) hb hv hT0 (by omega) (by omega)) Try.func18 rfl rfl (by simp) rfl ?_
  rintro v24 L24 ⟨N24, a24, c24, rfl, rfl, s24⟩
  change At _ _ _ [N24, N19, N2, N15, N11, J11, N3, R] _
  rw [hO] at s24 ⊢
  refine op_move (nxlf rfl) rfl rfl ?_
  refine op_extract (nxlf rfl) rfl rfl rfl ?_
  refine op_extract (nxlf rfl) rfl rfl rfl ?_
  refine op_assign (nxlf rfl) rfl rfl ?_
  refine op_assign (nxlf rfl) rfl rfl ?_
  refine At.opsNil ?_
  refine At.norm (hk_5 ?_)
  refine At.seq fun K6 hk_6 => ?_
  refine At.seq fun K7 hk_7 => ?_
  refine At.region ?_
  refine op_move (nxlf rfl) rfl rfl ?_
  refine op_move (nxlf rfl) rfl rfl ?_
  refine op_eql (nxlf rfl) rfl rfl rfl ?_
  refine op_neB (nxlf rfl) Try.underlying4 rfl rfl rfl ?_
  refine op_move (nxlf rfl) rfl rfl ?_
  refine op_move (nxgf rfl rfl rfl rfl) rfl rfl ?_
  refine op_str (nxgf rfl rfl rfl rfl) Try.underlying27 Try.underlying5 Try.underlying9 rfl (by assumption) (by first | exact mem0 | exact mem1 | exact mem2 | exact mem3 | exact mem4 | exact mem5 | exact mem6 | exact mem7 | exact mem8 | exact mem9) rfl ?_
  refine op_move (nxgf rfl rfl rfl rfl) rfl rfl ?_
  refine op_str (nxgf rfl rfl rfl rfl) Try.underlying27 Try.underlying5 Try.underlying9 rfl (by assumption) (by first | exact mem0 | exact mem1 | exact mem2 | exact mem3 | exact mem4 | exact mem5 | exact mem6 | exact mem7 | exact mem8 | exact mem9) rfl ?_
  refine op_neS (nxgf rfl rfl rfl rfl) rfl rfl rfl ?_
  rw [decide_eq_false (fun h => h rfl)]
  refine op_pickF (nxlf rfl) rfl rfl rfl ?_
  refine op_move (nxlf rfl) rfl rfl ?_
  refine op_move (nxgf rfl rfl rfl rfl) rfl rfl ?_
  refine op_not (nxgf rfl rfl rfl rfl) rfl rfl ?_
  refine op_move (nxgf rfl rfl rfl rfl) rfl rfl ?_
  refine op_skip rfl rfl rfl rfl rfl rfl rfl ?_
  refine op_skip rfl rfl rfl rfl rfl rfl rfl ?_
  refine op_pickF (nxgf rfl rfl rfl rfl) rfl rfl rfl ?_
  refine op_pickF (nxlf rfl) rfl rfl rfl ?_
  refine At.opsNil ?_
  refine At.norm (hk_7 ?_)
  refine At.condF rfl ?_
  refine At.skip ?_
  refine At.norm (hk_6 ?_)
  refine At.seq fun K8 hk_8 => ?_
  refine At.drawn [6,18] [0,1,4,5,2,3,6,7,8,9,12,10,11,13,14,15,16,17,18,19,20] (by kernel_rfl) (by kernel_rfl) ?_
  refine op_fieldAddr (nxof rfl rfl rfl (by kernel_rfl)) fl46_5 rfl rfl ?_
  refine op_loadB (nxof rfl rfl rfl (by kernel_rfl)) sc35 rfl B2 (by first | rfl | exact rcC_logs hb | exact rcC_root hb) mem2 rfl ?_
  refine op_fieldAddr (nxof rfl rfl rfl (by kernel_rfl)) fl46_5 rfl rfl ?_
  refine op_loadB (nxof rfl rfl rfl (by kernel_rfl)) sc35 rfl B2 (by first | rfl | exact rcC_logs hb | exact rcC_root hb) mem2 rfl ?_
  refine op_callA (nxoa rfl rfl rfl) (.cons rfl .nil) (FLogsR_b r11.rsl j11) Try.func15 rfl rfl (by simp) rfl ?_
  rintro v48 L48 ⟨N48, J48, a48, c48, y48, rfl, rfl, r48, j48⟩
  change At _ _ _ [N48, J48, N24, N19, N2, N15, N11, J11, N3, R] _
  rw [hcc] at r48 j48 ⊢
  refine op_callA (nxoa rfl rfl rfl) (.cons rfl .nil) (FBloomR_b r48.rsl j48 (by omega)) Try.func14 rfl rfl (by simp) rfl ?_
  rintro v49 L49 ⟨rfl, rfl⟩
  change At _ _ _ [N48, J48, N24, N19, N2, N15, N11, J11, N3, R] _
  refine op_callA (nxosa rfl rfl rfl rfl) (.cons rfl .nil) (rBloomR_b r11.rsl j11 (by omega)) Try.func19 rfl rfl (by simp) rfl ?_
  rintro v52 L52 ⟨rfl, rfl⟩
  change At _ _ _ [N48, J48, N24, N19, N2, N15, N11, J11, N3, R] _
  refine op_eqW8 (a := bloomL G) (b := bloomL G) (nxof rfl rfl rfl (by exact okB_eq8 rfl rfl (by kernel_rfl))) ae36 Try.underlying5 (by kernel_rfl) rfl rfl hbl hbl rfl ?_
  rw [decide_eq_true (rfl : bloomL G = bloomL G)]
  refine op_move (nxof rfl rfl rfl (by kernel_rfl)) rfl rfl ?_
  refine op_loadAggB (ds := wdC i v a m) (nxogf rfl rfl rfl rfl rfl rfl (by kernel_rfl)) ag48 rfl B3 (by exact tk_all hwl) (by exact hwl) mem8 rfl ?_
  refine op_loadAggB (ds := wdC i v a m) (nxogf rfl rfl rfl rfl rfl rfl (by kernel_rfl)) ag48 rfl B3 (by exact tk_all hwl) (by exact hwl) mem8 rfl ?_
  refine op_callA (nxoga rfl rfl rfl rfl rfl rfl) (.cons rfl .nil) (FWithdraw_b ha) Try.func20 rfl rfl (by simp) rfl ?_
  rintro v56 L56 ⟨N56, a56, c56, rfl, rfl, r56⟩
  change At _ _ _ [N56, N48, J48, N24, N19, N2, N15, N11, J11, N3, R] _
  rw [hW] at r56 ⊢; have s56 := r56.rsl
  refine op_str (nxogf rfl rfl rfl rfl rfl rfl (by kernel_rfl)) Try.underlying27 Try.underlying5 Try.underlying9 rfl (by assumption) (by first | exact mem0 | exact mem1 | exact mem2 | exact mem3 | exact mem4 | exact mem5 | exact mem6 | exact mem7 | exact mem8 | exact mem9 | exact mem10) rfl ?_
  refine op_callA (nxoga rfl rfl rfl rfl rfl rfl) (.cons rfl .nil) (rWithdraw_b ha) Try.func21 rfl rfl (by simp) rfl ?_
  rintro v59 L59 ⟨N59, a59, c59, rfl, rfl, r59⟩
  change At _ _ _ [N59, N56, N48, J48, N24, N19, N2, N15, N11, J11, N3, R] _
  rw [hW] at r59 ⊢; have s59 := r59.rsl
  refine op_str (nxogf rfl rfl rfl rfl rfl rfl (by kernel_rfl)) Try.underlying27 Try.underlying5 Try.underlying9 rfl (by assumption) (by first | exact mem0 | exact mem1 | exact mem2 | exact mem3 | exact mem4 | exact mem5 | exact mem6 | exact mem7 | exact mem8 | exact mem9 | exact mem10 | exact mem11) rfl ?_
  refine op_eqS (nxogf rfl rfl rfl rfl rfl rfl (by kernel_rfl)) rfl rfl rfl ?_
  rw [decide_eq_true (rfl : W = W)]
  refine op_pickT (nxof rfl rfl rfl (by kernel_rfl)) rfl rfl rfl ?_
  refine op_move (nxof rfl rfl rfl (by kernel_rfl)) rfl rfl ?_
  refine op_callA (Nx.agree (nxogs rfl rfl rfl rfl rfl rfl rfl)) .nil (BWakes_f) Try.func13 rfl rfl (by simp) rfl ?_
  rintro v64 L64 ⟨rfl, rfl⟩
  change At _ _ _ [N59, N56, N48, J48, N24, N19, N2, N15, N11, J11, N3, R] _
  refine op_pickT (nxof rfl rfl rfl (by kernel_rfl)) rfl rfl rfl ?_
  refine op_assign (nxof rfl rfl rfl (by kernel_rfl)) rfl rfl ?_
  refine At.oneNil ?_
  refine At.norm (hk_8 ?_)
  refine At.ret (?_)
  refine At.sub (L' := [R]) (.cons _ (.cons _ (.cons _ (.cons _ (.cons _ (.cons _ (.cons _ (.cons _ (.cons _ (.cons _ (.cons _ (.cons_cons _ (.slnil))))))))))))) ?_
  refine At.ret1 (L1 := []) rfl (.tmp rfl .nil) (.refl _) (.refl _) ?_
  exact ⟨rfl, rfl⟩
set_option maxHeartbeats 4000000 in
theorem BookReceipt_bad (hr : RSl N 1 ra rn rc (u8s root)) (hl : RSl N 22 la ln lc (logsC xs)) (hg : LogsN N gs xs) (hb : bl.length = 256) (ha : a.length = 20) (hv : ¬ (0 ≤ k ∧ k ≤ 3 ∧ ((root.take 40).length = 0 ∨ (root.take 40).length = 32))) : Fn Try.prog 5 #[.agg (rcC k (.slice ra rn rc) ok gas bl (.slice la ln lc)).toArray, .agg (wdC i v a m).toArray] [] [N] (fun v L => v = .bool true ∧ L = []) := by
  have hcl := fun (rv lv : Value) => rcC_len (k := k) (rv := rv) (ok := ok) (gas := gas) (lv := lv) hb
  have hwl := wdC_len (i := i) (v := v) (m := m) ha
  obtain ⟨y, hy⟩ : ∃ y, root.take 40 = y := ⟨_, rfl⟩
  have hyl : y.length ≤ 40 := by rw [← hy, List.length_take]; omega
  rw [hy] at hv
  have hf0 := rcIt_len (ok := ok) (gas := gas) hyl hb hg.len20
  have hcc := cutG_cut gs
  have hT0 : ∀ g ∈ cutG gs, g.topics.length ≤ 1099511627776 ∧ g.data.length ≤ 1099511627776 := fun g h => by
    rw [cutG] at h
    obtain ⟨g0, _, rfl⟩ := List.mem_map.1 h
    constructor
    · show (g0.topics.take 12).length ≤ _
      rw [List.length_take]; omega
    · show (g0.data.take 200).length ≤ _
      rw [List.length_take]; omega
  have hGl : (cutG gs).length ≤ 10 := by rw [cutG, List.length_map, List.length_take]; omega
  obtain ⟨G, hG⟩ : ∃ G, cutG gs = G := ⟨_, rfl⟩
  rw [hG] at hf0 hT0 hGl hcc
  have hbl := bloomL_len G
  obtain ⟨W, hW⟩ : ∃ W, (wdIt i v a m).form = W := ⟨_, rfl⟩
  refine Fn.enter (vs := [.agg (rcC k (.slice ra rn rc) ok gas bl (.slice la ln lc)).toArray, .agg (wdC i v a m).toArray]) Try.func5 rfl rfl rfl ?_
  intro E R hR
  have hr := hr.le (hR N (by simp))
  have hl := hl.le (hR N (by simp))
  have hg := hg.le (hR N (by simp))
  change At _ _ E [R] _
  refine At.seq fun K1 hk_1 => ?_
  refine At.region ?_
  refine op_box (nxla rfl) rfl rfl rfl (fun N2 b2 B2 => ?_)
  refine op_box (nxla rfl) rfl rfl rfl (fun N3 b3 B3 => ?_)
  refine op_assign (nxlf rfl) rfl rfl ?_
  refine At.opsNil ?_
  refine At.norm (hk_1 ?_)
  refine At.seq fun K2 hk_2 => ?_
  refine At.region ?_
  refine op_fieldAddr (nxlf rfl) fl46_5 rfl rfl ?_
  refine op_loadB (nxlf rfl) sc35 rfl B2 (by first | rfl | exact rcC_logs hb | exact rcC_root hb) mem1 rfl ?_
  refine op_callA (nxla rfl) (.cons rfl .nil) (FLogs_b hl hg) Try.func15 rfl rfl (by simp) rfl ?_
  rintro v11 L11 ⟨N11, J11, a11, c11, y11, rfl, rfl, r11, j11⟩
  change At _ _ _ [N11, J11, N3, N2, R] _
  rw [hG] at r11 j11 ⊢
  refine op_fieldAddr (nxlf rfl) fl46_5 rfl rfl ?_
  refine op_store (nxl rfl) sz35 rfl rfl rfl rfl rfl B2 (by rw [hcl]; exact show 0 + 260 + 1 ≤ 261 by decide) sel3 (fun N2 B2 => ?_)
  rw [rcC_setL hb] at B2
  refine At.opsNil ?_
  refine At.norm (hk_2 ?_)
  refine At.seq fun K3 hk_3 => ?_
  refine At.region ?_
  refine op_fieldAddr (nxlf rfl) fl46_1 rfl rfl ?_
  refine op_loadB (nxlf rfl) sc27 rfl B2 (by first | rfl | exact rcC_logs hb | exact rcC_root hb) mem0 rfl ?_
  refine op_callA (nxla rfl) (.cons rfl (.cons rfl .nil)) (KTwin_f hr 40 40 rfl (by decide)) Try.func8 rfl rfl (by simp) rfl ?_
  rintro v15 L15 ⟨N15, a15, c15, rfl, rfl, r15⟩
  change At _ _ _ [N15, N2, N11, J11, N3, R] _
  rw [hy] at r15 ⊢; have s15 := r15.rsl
  refine op_fieldAddr (nxlf rfl) fl46_1 rfl rfl ?_
  refine op_store (nxl rfl) sz27 rfl rfl rfl rfl rfl B2 (by rw [hcl]; exact show 0 + 1 + 1 ≤ 261 by decide) sel1 (fun N2 B2 => ?_)
  rw [rcC_setR] at B2
  refine At.opsNil ?_
  refine At.norm (hk_3 ?_)
  refine At.seq fun K4 hk_4 => ?_
  refine At.region ?_
  refine op_loadAggB (ds := rcC k (.slice a15 y.length c15) ok gas bl (.slice a11 G.length c11)) (nxlf rfl) ag46 rfl B2 (by exact tk_all (hcl _ _)) (by exact hcl _ _) mem0 rfl ?_
  refine op_callA (nxla rfl) (.cons rfl .nil) (FReceipt_bad (ok := ok) (gas := gas) (la := a11) (ln := G.length) (lc := c11) s15 hb hv) Try.func17 rfl rfl (by simp) rfl ?_
  rintro v19 L19 ⟨rfl, rfl⟩
  change At _ _ _ [N2, N15, N11, J11, N3, R] _
  refine op_move (nxlf rfl) rfl rfl ?_
  refine op_extract (nxlf rfl) rfl rfl rfl ?_
  refine op_extract (nxlf rfl) rfl rfl rfl ?_
  refine op_assign (nxlf rfl) rfl rfl ?_
  refine op_assign (nxlf rfl) rfl rfl ?_
  refine At.opsNil ?_
  refine At.norm (hk_4 ?_)
  refine At.seq fun K5 hk_5 => ?_
  refine At.region ?_
  refine op_loadAggB (ds := rcC k (.slice a15 y.length c15) ok gas bl (.slice a11 G.length c11)) (nxlf rfl) ag46 rfl B2 (by exact tk_all (hcl _ _)) (by exact hcl _ _) mem0 rfl ?_
  refine op_callA (nxla rfl) (.cons rfl .nil) (rReceipt_bad (ok := ok) (gas := gas) (la := a11) (ln := G.length) (lc := c11) s15 hb hv) Try.func18 rfl rfl (by simp) rfl ?_
  rintro v24 L24 ⟨rfl, rfl⟩
  change At _ _ _ [N2, N15, N11, J11, N3, R] _
  refine op_move (nxlf rfl) rfl rfl ?_
  refine op_extract (nxlf rfl) rfl rfl rfl ?_
  refine op_extract (nxlf rfl) rfl rfl rfl ?_
  refine op_assign (nxlf rfl) rfl rfl ?_
  refine op_assign (nxlf rfl) rfl rfl ?_
  refine At.opsNil ?_
  refine At.norm (hk_5 ?_)
  refine At.seq fun K6 hk_6 => ?_
  refine At.seq fun K7 hk_7 => ?_
  refine At.region ?_
  refine op_move (nxlf rfl) rfl rfl ?_
  refine op_move (nxlf rfl) rfl rfl ?_
  refine op_eql (nxlf rfl) rfl rfl rfl ?_
  refine op_neB (nxlf rfl) Try.underlying4 rfl rfl rfl ?_
  refine op_move (nxlf rfl) rfl rfl ?_
  refine op_move (nxgf rfl rfl rfl rfl) rfl rfl ?_
  have hnil : RSl R 1 none 0 0 (u8s []) := RSl.nil R 1
  refine op_str (nxgf rfl rfl rfl rfl) Try.underlying27 Try.underlying5 Try.underlying9 rfl (by assumption) (by first | exact mem0 | exact mem1 | exact mem2 | exact mem3 | exact mem4 | exact mem5 | exact mem6 | exact mem7 | exact mem8 | exact mem9) rfl ?_
  refine op_move (nxgf rfl rfl rfl rfl) rfl rfl ?_
  refine op_str (nxgf rfl rfl rfl rfl) Try.underlying27 Try.underlying5 Try.underlying9 rfl (by assumption) (by first | exact mem0 | exact mem1 | exact mem2 | exact mem3 | exact mem4 | exact mem5 | exact mem6 | exact mem7 | exact mem8 | exact mem9) rfl ?_
  refine op_neS (nxgf rfl rfl rfl rfl) rfl rfl rfl ?_
  rw [decide_eq_false (fun h => h rfl)]
  refine op_pickF (nxlf rfl) rfl rfl rfl ?_
  refine op_move (nxlf rfl) rfl rfl ?_
  refine op_move (nxgf rfl rfl rfl rfl) rfl rfl ?_
  refine op_not (nxgf rfl rfl rfl rfl) rfl rfl ?_
  refine op_move (nxgf rfl rfl rfl rfl) rfl rfl ?_
  refine op_move (nxgf rfl rfl rfl rfl) rfl rfl ?_
  refine op_neq (nxgf rfl rfl rfl rfl) rfl rfl rfl ?_
  refine op_pickT (nxgf rfl rfl rfl rfl) rfl rfl rfl ?_
  refine op_pickF (nxlf rfl) rfl rfl rfl ?_
  refine At.opsNil ?_
  refine At.norm (hk_7 ?_)
  refine At.condF rfl ?_
  refine At.skip ?_
  refine At.norm (hk_6 ?_)
  refine At.seq fun K8 hk_8 => ?_
  refine At.drawn [6,18] [0,1,4,5,2,3,6,7,8,9,12,10,11,13,14,15,16,17,18,19,20] (by kernel_rfl) (by kernel_rfl) ?_
  refine op_fieldAddr (nxof rfl rfl rfl (by kernel_rfl)) fl46_5 rfl rfl ?_
  refine op_loadB (nxof rfl rfl rfl (by kernel_rfl)) sc35 rfl B2 (by first | rfl | exact rcC_logs hb | exact rcC_root hb) mem0 rfl ?_
  refine op_fieldAddr (nxof rfl rfl rfl (by kernel_rfl)) fl46_5 rfl rfl ?_
  refine op_loadB (nxof rfl rfl rfl (by kernel_rfl)) sc35 rfl B2 (by first | rfl | exact rcC_logs hb | exact rcC_root hb) mem0 rfl ?_
  refine op_callA (nxoa rfl rfl rfl) (.cons rfl .nil) (FLogsR_b r11.rsl j11) Try.func15 rfl rfl (by simp) rfl ?_
  rintro v48 L48 ⟨N48, J48, a48, c48, y48, rfl, rfl, r48, j48⟩
  change At _ _ _ [N48, J48, N2, N15, N11, J11, N3, R] _
  rw [hcc] at r48 j48 ⊢
  refine op_callA (nxoa rfl rfl rfl) (.cons rfl .nil) (FBloomR_b r48.rsl j48 (by omega)) Try.func14 rfl rfl (by simp) rfl ?_
  rintro v49 L49 ⟨rfl, rfl⟩
  change At _ _ _ [N48, J48, N2, N15, N11, J11, N3, R] _
  refine op_callA (nxosa rfl rfl rfl rfl) (.cons rfl .nil) (rBloomR_b r11.rsl j11 (by omega)) Try.func19 rfl rfl (by simp) rfl ?_
  rintro v52 L52 ⟨rfl, rfl⟩
  change At _ _ _ [N48, J48, N2, N15, N11, J11, N3, R] _
  refine op_eqW8 (a := bloomL G) (b := bloomL G) (nxof rfl rfl rfl (by exact okB_eq8 rfl rfl (by kernel_rfl))) ae36 Try.underlying5 (by kernel_rfl) rfl rfl hbl hbl rfl ?_
  rw [decide_eq_true (rfl : bloomL G = bloomL G)]
  refine op_move (nxof rfl rfl rfl (by kernel_rfl)) rfl rfl ?_
  refine op_loadAggB (ds := wdC i v a m) (nxogf rfl rfl rfl rfl rfl rfl (by kernel_rfl)) ag48 rfl B3 (by exact tk_all hwl) (by exact hwl) mem6 rfl ?_
  refine op_loadAggB (ds := wdC i v a m) (nxogf rfl rfl rfl rfl rfl rfl (by kernel_rfl)) ag48 rfl B3 (by exact tk_all hwl) (by exact hwl) mem6 rfl ?_
  refine op_callA (nxoga rfl rfl rfl rfl rfl rfl) (.cons rfl .nil) (FWithdraw_b ha) Try.func20 rfl rfl (by simp) rfl ?_
  rintro v56 L56 ⟨N56, a56, c56, rfl, rfl, r56⟩
  change At _ _ _ [N56, N48, J48, N2, N15, N11, J11, N3, R] _
  rw [hW] at r56 ⊢; have s56 := r56.rsl
  refine op_str (nxogf rfl rfl rfl rfl rfl rfl (by kernel_rfl)) Try.underlying27 Try.underlying5 Try.underlying9 rfl (by assumption) (by first | exact mem0 | exact mem1 | exact mem2 | exact mem3 | exact mem4 | exact mem5 | exact mem6 | exact mem7 | exact mem8 | exact mem9) rfl ?_
  refine op_callA (nxoga rfl rfl rfl rfl rfl rfl) (.cons rfl .nil) (rWithdraw_b ha) Try.func21 rfl rfl (by simp) rfl ?_
  rintro v59 L59 ⟨N59, a59, c59, rfl, rfl, r59⟩
  change At _ _ _ [N59, N56, N48, J48, N2, N15, N11, J11, N3, R] _
  rw [hW] at r59 ⊢; have s59 := r59.rsl
  refine op_str (nxogf rfl rfl rfl rfl rfl rfl (by kernel_rfl)) Try.underlying27 Try.underlying5 Try.underlying9 rfl (by assumption) (by first | exact mem0 | exact mem1 | exact mem2 | exact mem3 | exact mem4 | exact mem5 | exact mem6 | exact mem7 | exact mem8 | exact mem9) rfl ?_
  refine op_eqS (nxogf rfl rfl rfl rfl rfl rfl (by kernel_rfl)) rfl rfl rfl ?_
  rw [decide_eq_true (rfl : W = W)]
  refine op_pickT (nxof rfl rfl rfl (by kernel_rfl)) rfl rfl rfl ?_
  refine op_move (nxof rfl rfl rfl (by kernel_rfl)) rfl rfl ?_
  refine op_callA (Nx.agree (nxogs rfl rfl rfl rfl rfl rfl rfl)) .nil (BWakes_f) Try.func13 rfl rfl (by simp) rfl ?_
  rintro v64 L64 ⟨rfl, rfl⟩
  change At _ _ _ [N59, N56, N48, J48, N2, N15, N11, J11, N3, R] _
  refine op_pickT (nxof rfl rfl rfl (by kernel_rfl)) rfl rfl rfl ?_
  refine op_assign (nxof rfl rfl rfl (by kernel_rfl)) rfl rfl ?_
  refine At.oneNil ?_
  refine At.norm (hk_8 ?_)
  refine At.ret (?_)
  refine At.sub (L' := [R]) (.cons _ (.cons _ (.cons _ (.cons _ (.cons _ (.cons _ (.cons _ (.cons _ (.cons _ (.cons_cons _ (.slnil))))))))))) ?_
  refine At.ret1 (L1 := []) rfl (.tmp rfl .nil) (.refl _) (.refl _) ?_
  exact ⟨rfl, rfl⟩
theorem BookReceipt_f (hr : RSl N 1 ra rn rc (u8s root)) (hl : RSl N 22 la ln lc (logsC xs)) (hg : LogsN N gs xs) (hb : bl.length = 256) (ha : a.length = 20) : Fn Try.prog 5 #[.agg (rcC k (.slice ra rn rc) ok gas bl (.slice la ln lc)).toArray, .agg (wdC i v a m).toArray] [] [N] (fun v L => v = .bool true ∧ L = []) := by
  by_cases hv : 0 ≤ k ∧ k ≤ 3 ∧ ((root.take 40).length = 0 ∨ (root.take 40).length = 32)
  · exact BookReceipt_ok hr hl hg hb ha hv
  · exact BookReceipt_bad hr hl hg hb ha hv
end
end Go.Proofs.Ytljacjjeinmfnaa
