/- Several texts in one: see the remarks ahead of each part. No condition but those told there. -/
import Derived.Test.YtdplcfineaikjaaDoorO1
import Derived.Test.YtdplcfineaikjaaDoorCLay3
import Derived.Test.YtdplcfineaikjaaDoorO2
import Derived.Lib.AppendIntMem
/- Codes written down, in plain words; strconv.Itoa at any number. Condition: the table of powers of ten is laid. -/
namespace Go.Proofs.YtdplcfineaikjaaDoor
set_option linter.unusedVariables false
set_option linter.unusedSimpArgs false
open Go Go.RowKit
/-- The table of powers of ten, in this part of the memory. -/
def PowH (N : Heaplet) : Prop := ∀ w, N.le (whole w) → Lib.TabIs Tryd.prog w "internal/strconv.uint64pow10" .u64 Lib.pow10Tab
theorem PowH.le {N M : Heaplet} (h : PowH N) (hl : N.le M) : PowH M := fun w hw => h w (Heaplet.le_trans hl hw)
theorem Itoa_f {N : Heaplet} (hP : PowH N) (k : Nat) (hk : k ≤ 1099511627776) : Fn Tryd.prog 32 #[.int .i64 (k : Int)] [] [N] (fun v L => v = str (Lib.decDigits k) ∧ L = []) := by
  refine Fn.of_val fun w hr => ?_
  refine (Tryd.strconv_Itoa (k : Int) (by omega) (by omega) w (hP w (hr N (by simp)))).mono ?_
  rintro e w' ⟨he, q, os, rfl⟩
  have e1 : Lib.itoa (k : Int) = Lib.decDigits k := by rw [Lib.itoa, if_neg (by omega), Int.toNat_natCast]
  rw [e1] at he
  exact ret_mono he rfl (Lib.below_grow _ w (Nat.le_refl _) q os)
theorem nameN_len (late : Bool) : ∀ n, n < 256 → (nameN late n).length ≤ 20 := by cases late <;> decide +kernel
theorem nameC_len (f op : Int) : (nameC f op).length ≤ 20 := by
  cases h : opM f op with
  | false => rw [nameC_no h]; decide
  | true =>
    obtain ⟨n, rfl, hn, _⟩ := op_range h
    rw [nameC_y h]
    exact nameN_len _ n hn
def wINV : List UInt8 := [73, 78, 86, 65, 76, 73, 68, 32]
/-- How many bytes of its own the operation at a place has. -/
def ownC (f : Int) (l : List UInt8) (p : Nat) : Nat := if nameC f ((l.getD p 0).toNat : Int) = [] then 0 else ownB (l.getD p 0)
/-- The line of the operation at a place. -/
def lineC (f : Int) (l : List UInt8) (p : Nat) : List UInt8 :=
  if nameC f ((l.getD p 0).toNat : Int) = [] then Lib.decDigits p ++ [32] ++ (wINV ++ hexT [l.getD p 0])
  else if ownB (l.getD p 0) = 0 then Lib.decDigits p ++ [32] ++ nameC f ((l.getD p 0).toNat : Int)
  else Lib.decDigits p ++ [32] ++ nameC f ((l.getD p 0).toNat : Int) ++ ([32] ++ hexT ((l.drop (p + 1)).take (ownB (l.getD p 0))))
def listF (f : Int) : Nat → List UInt8 → Nat → List (List UInt8)
  | 0, _, _ => []
  | k + 1, l, p => if p < l.length then lineC f l p :: listF f k l (p + 1 + ownC f l p) else []
theorem listF_end {f : Int} {k : Nat} {l : List UInt8} {p : Nat} (h : l.length ≤ p) : listF f k l p = [] := by
  cases k with
  | zero => rfl
  | succ k => rw [listF, if_neg (by omega)]
theorem listF_fuel {f : Int} : ∀ (k m : Nat) (l : List UInt8) (p : Nat), l.length ≤ p + k → l.length ≤ p + m → listF f k l p = listF f m l p := by
  intro k
  induction k with
  | zero => intro m l p h1 h2; rw [listF_end (by omega), listF_end (by omega)]
  | succ k ih =>
    intro m l p h1 h2
    cases m with
    | zero => rw [listF_end (by omega), listF_end (by omega)]
    | succ m => rw [listF, listF, ih m l (p + 1 + ownC f l p) (by omega) (by omega)]
def listAt (f : Int) (l : List UInt8) (p : Nat) : List (List UInt8) := listF f l.length l p
/-- A code, written down. -/
def listC (f : Int) (l : List UInt8) : List (List UInt8) := listAt f l 0
theorem listAt_end {f : Int} {l : List UInt8} {p : Nat} (h : l.length ≤ p) : listAt f l p = [] := listF_end h
theorem listAt_on {f : Int} {l : List UInt8} {p : Nat} (h : p < l.length) : listAt f l p = lineC f l p :: listAt f l (p + 1 + ownC f l p) := by
  rw [listAt, listF_fuel l.length (l.length + 1) l p (by omega) (by omega), listF, if_pos h]; rfl
theorem listF_len {f : Int} : ∀ (k : Nat) (l : List UInt8) (p : Nat), (listF f k l p).length ≤ l.length - p := by
  intro k
  induction k with
  | zero => intro l p; exact Nat.zero_le _
  | succ k ih =>
    intro l p
    rw [listF]
    split
    · have := ih l (p + 1 + ownC f l p)
      rw [List.length_cons]; omega
    · exact Nat.zero_le _
theorem listC_len (f : Int) (l : List UInt8) : (listC f l).length ≤ l.length := listF_len _ _ _
theorem lineC_n {f : Int} {l : List UInt8} {p : Nat} (h : nameC f ((l.getD p 0).toNat : Int) = []) : lineC f l p = Lib.decDigits p ++ [32] ++ (wINV ++ hexT [l.getD p 0]) ∧ ownC f l p = 0 := ⟨if_pos h, if_pos h⟩
theorem lineC_0 {f : Int} {l : List UInt8} {p : Nat} (h : nameC f ((l.getD p 0).toNat : Int) ≠ []) (h0 : ownB (l.getD p 0) = 0) : lineC f l p = Lib.decDigits p ++ [32] ++ nameC f ((l.getD p 0).toNat : Int) := by rw [lineC, if_neg h, if_pos h0]
theorem lineC_y {f : Int} {l : List UInt8} {p : Nat} (h : nameC f ((l.getD p 0).toNat : Int) ≠ []) (h0 : ownB (l.getD p 0) ≠ 0) : lineC f l p = Lib.decDigits p ++ [32] ++ nameC f ((l.getD p 0).toNat : Int) ++ ([32] ++ hexT ((l.drop (p + 1)).take (ownB (l.getD p 0)))) := by rw [lineC, if_neg h, if_neg h0]
theorem ownC_y {f : Int} {l : List UInt8} {p : Nat} (h : nameC f ((l.getD p 0).toNat : Int) ≠ []) : ownC f l p = ownB (l.getD p 0) := if_neg h
theorem ownC_le (f : Int) (l : List UInt8) (p : Nat) : ownC f l p ≤ 32 := by
  unfold ownC; split
  · omega
  · exact ownB_le _
theorem strs_app (a b : List (List UInt8)) : strs (a ++ b) = strs a ++ strs b := by simp [strs]
theorem one_at {l : List UInt8} {p : Nat} (h : p < l.length) : (l.drop p).take (p + 1 - p) = [l.getD p 0] := by
  rw [show p + 1 - p = 1 by omega, List.getD_eq_getElem?_getD, List.getElem?_eq_getElem h, List.drop_eq_getElem_cons h]; rfl
theorem cut_at {l : List UInt8} {p k e : Nat} (he : e = min (p + 1 + k) l.length) : (l.drop (p + 1)).take (e - (p + 1)) = (l.drop (p + 1)).take k := by
  subst he
  rcases Nat.le_total (p + 1 + k) l.length with h | h
  · rw [Nat.min_eq_left h, show p + 1 + k - (p + 1) = k by omega]
  · rw [Nat.min_eq_right h, List.take_of_length_le (by rw [List.length_drop]; omega), List.take_of_length_le (by rw [List.length_drop]; omega)]
section
variable {P : Program} {n : Nat} {l : List (Nat × Value)} {E : World} {L Ls : List Heaplet} {X Y : Act → World → Prop} {d : Nat} {t t' ty : TypeId} {x y : Operand}
theorem op_minI {a b : Nat} {p q : Int} {pos : _} {aft : _} {g : _} (s : NxF P n l E L Ls ⟨some d, .call ⟨.builtin .min, #[x, y], #[t, t']⟩, ty, pos, aft, g⟩ X Y) (hx : ev l x = some (.int .i64 p)) (hy : ev l y = some (.int .i64 q)) (ha : p = (a : Int)) (hb : q = (b : Int)) (hn : Nat.ble (d + 1) n = true) (h : At n ((d, .int .i64 ((min a b : Nat) : Int)) :: l) E L Y) : At n l E L X := by
  subst ha; subst hb
  refine op_val s (fun c w hf hw => ?_) rfl hn h
  have e : (if (b : Int) < (a : Int) then (b : Int) else (a : Int)) = ((min a b : Nat) : Int) := by
    split <;> omega
  simp only [execOp, resolve, invoke, builtin, Sem.run_bind, Sem.run_pure, Result.andThen_ok, List.map_toArray, List.map_cons, List.map_nil, hf.eval hx, hf.eval hy, Builtin.min_, List.foldlM_cons, List.foldlM_nil, Builtin.min2, e]
end
/-- The lines, in new memory. -/
def LinP (xs : List (List UInt8)) (v : Value) (L : List Heaplet) : Prop := ∃ M a c, v = .slice a xs.length c ∧ L = [M] ∧ RSl M 1 a xs.length c (strs xs)
section
variable {N M : Heaplet} {ao : Option Addr} {n cap : Nat} {l : List UInt8}
set_option maxRecDepth 100000 in
set_option maxHeartbeats 4000000 in
theorem FList_f (hT : TabH M) (hP : PowH M) (f : Int) (h : RSl N 1 ao n cap (u8s l)) (hn : n ≤ 1073741824) : Fn Tryd.prog 14 #[.int .i64 f, .slice ao n cap] [] [N, M] (LinP (listC f l)) := by
  have hlen := h.len8
  have hcap := h.cap63
  refine Fn.enter (vs := [.int .i64 f, .slice ao n cap]) Tryd.func14 rfl rfl rfl ?_
  intro E R hR
  have h := h.le (hR N (by simp))
  have hT := hT.le (hR M (by simp))
  have hP := hP.le (hR M (by simp))
  change At _ _ E [R] _
  refine At.seq fun K1 hk_1 => ?_
  refine At.region ?_
  refine op_assign (nxlf rfl) rfl rfl ?_
  refine At.opsNil ?_
  refine At.norm (hk_1 ?_)
  refine At.seq fun K2 hk_2 => ?_
  refine At.region ?_
  refine op_assign (nxlf rfl) rfl rfl ?_
  refine At.opsNil ?_
  refine At.norm (hk_2 ?_)
  refine At.seq fun K3 hk_3 => ?_
  refine At.seq fun K4 hk_4 => ?_
  refine At.region ?_
  refine op_assign (nxlf rfl) rfl rfl ?_
  refine At.opsNil ?_
  refine At.norm (hk_4 ?_)
  refine At.block ?_
  refine At.empty ?_
  refine At.loop (fun fr_ hp_ ms_ => ∃ (p : Nat) (done : List (List UInt8)) (a : Option Addr) (dn c : Nat) (Na : Heaplet), fr_ = [(0, .int .i64 f), (1, .slice ao n cap), (5, .slice a dn c), (6, .int .i64 (p : Int))] ∧ hp_ = [Na, R] ∧ n - p = ms_ ∧ (p ≤ n + 33) ∧ (dn = done.length) ∧ (dn ≤ p) ∧ (done ++ listAt f l p = listC f l) ∧ (Row Na 9 1 a dn c (strs done))) ?_ (.refl _) ⟨0, [], none, 0, 0, nilH, rfl, rfl, rfl, by omega, rfl, by omega, rfl, Row.nil _ _ _⟩ ?_
  · exact .cons (by first | exact lkI rfl (by omega) | rfl) (.cons (by first | exact lkI rfl (by omega) | rfl) (.cons (by first | exact lkI rfl (by omega) | rfl) (.cons (by first | exact lkI rfl (by omega) | rfl) .nil)))
  rintro _ _ _ ⟨p, done, a, dn, c, Na, rfl, rfl, rfl, hp, hdn, hdp, hd, ra⟩
  refine At.seq fun K5 hk_5 => ?_
  refine At.seq fun K6 hk_6 => ?_
  refine At.region ?_
  refine op_move (nxlf rfl) rfl rfl ?_
  refine op_move (nxlf rfl) rfl rfl ?_
  refine op_lenS (nxlf rfl) se22 rfl rfl ?_
  refine op_lss (nxlf rfl) rfl rfl rfl ?_
  refine At.opsNil ?_
  refine At.norm (hk_6 ?_)
  refine At.condP rfl (fun c13 => ?_) (fun c13 => ?_)
  · have hx := (l.getD p 0).toNat_lt
    have ho := ownB_le (l.getD p 0)
    have hoc := ownC_le f l p
    have hnl := nameC_len f ((l.getD p 0).toNat : Int)
    have hdl := dec_len p
    refine At.skip ?_
    refine At.norm (hk_5 ?_)
    refine At.block ?_
    refine At.seq fun K7 hk_7 => ?_
    refine At.drawnS [Na, R] [11] [7,8] [0,1,2,3,4,5,7,8,9,10,6,11,12,13] (by kernel_rfl) (by kernel_rfl) (.refl _) ?_
    refine op_move (nxsf rfl rfl rfl) rfl rfl ?_
    refine op_move (nxsf rfl rfl rfl) rfl rfl ?_
    refine op_move (nxsf rfl rfl rfl) rfl rfl ?_
    refine op_idx1 (nxsf rfl rfl rfl) se22 rfl rfl h (show _ = (((p : Nat)) : Int) from by omega) (by omega) rfl ?_
    refine op_loadE (nxsf rfl rfl rfl) sc5 rfl h (by first | exact get8 (by omega) | exact get64 (by omega) | exact get32 (by omega)) (by first | exact mem0 | exact mem1 | exact mem2 | exact mem3 | exact mem4 | exact mem5 | exact mem6 | exact mem7 | exact mem8 | exact mem9) rfl ?_
    refine op_convI (nxsf rfl rfl rfl) (und_some Tryd.underlying5) Tryd.underlying3 rfl (by omega) (by omega) rfl ?_
    refine op_move (nxsf rfl rfl rfl) rfl rfl ?_
    refine op_move (nxsf rfl rfl rfl) rfl rfl ?_
    refine op_idx1 (nxsf rfl rfl rfl) se22 rfl rfl h (show _ = (((p : Nat)) : Int) from by omega) (by omega) rfl ?_
    refine op_loadE (nxsf rfl rfl rfl) sc5 rfl h (by first | exact get8 (by omega) | exact get64 (by omega) | exact get32 (by omega)) (by first | exact mem0 | exact mem1 | exact mem2 | exact mem3 | exact mem4 | exact mem5 | exact mem6 | exact mem7 | exact mem8 | exact mem9) rfl ?_
    refine op_callA (Nx.agree (nxsm rfl rfl rfl)) (.cons rfl (.cons rfl .nil)) (FName_f hT f ((l.getD p 0).toNat : Int)) Tryd.func21 rfl rfl (by simp) rfl ?_
    rintro v20 L20 ⟨rfl, rfl⟩
    change At _ _ _ [Na, R] _
    refine At.moreS (Lst := [Na, R]) (Lst' := [Na, R]) (.refl _) (.refl _) ?_
    refine op_callA (Nx.agree (nxss rfl rfl rfl rfl)) (.cons rfl .nil) (FOwn_f (l.getD p 0)) Tryd.func26 rfl rfl (by simp) rfl ?_
    rintro v25 L25 ⟨rfl, rfl⟩
    change At _ _ _ [Na, R] _
    refine At.anyS (.refl _) ?_
    refine op_assign (nxsf rfl rfl rfl) rfl rfl ?_
    refine op_assign (nxsf rfl rfl rfl) rfl rfl ?_
    refine At.sNil ?_
    refine At.norm (hk_7 ?_)
    refine At.seq fun K8 hk_8 => ?_
    refine At.meet (fun fr_ hp_ => ∃ (nm : List UInt8) (k : Nat), fr_ = [(0, .int .i64 f), (1, .slice ao n cap), (5, .slice a dn c), (6, .int .i64 (p : Int)), (7, str nm), (8, .int .i64 (k : Int))] ∧ hp_ = [Na, R] ∧ (k = ownC f l p) ∧ (nm.length ≤ 40) ∧ (lineC f l p = if k = 0 then Lib.decDigits p ++ [32] ++ nm else Lib.decDigits p ++ [32] ++ nm ++ ([32] ++ hexT ((l.drop (p + 1)).take k)))) ?_ (fun K8_ jk_8 => ?_)
    rotate_left
    · skip
      refine At.seq fun K9 hk_9 => ?_
      refine At.region ?_
      refine op_move (nxlf rfl) rfl rfl ?_
      refine op_eqS (b := []) (nxlf rfl) rfl rfl rfl ?_
      refine At.opsNil ?_
      refine At.norm (hk_9 ?_)
      refine At.condP rfl (fun c27 => ?_) (fun c27 => ?_)
      · refine At.region ?_
        refine op_move (nxlf rfl) rfl rfl ?_
        refine op_move (nxlf rfl) rfl rfl ?_
        refine op_move (nxlf rfl) rfl rfl ?_
        refine op_addI (nxlf rfl) rfl rfl (by omega) (by omega) rfl ?_
        refine op_slice (nxlf rfl) se22 rfl (.some rfl (show _ = (((p : Nat)) : Int) from by omega)) (.some rfl (show _ = (((p + 1 : Nat)) : Int) from by omega)) .none (by omega) (by omega) (by omega) (by simp) rfl ?_
        have s32 := h.part8 (lo := p) (hi := p + 1) (m := cap) (by omega) (by omega) (by omega) (by omega)
        rw [one_at (by omega)] at s32
        refine op_callA (nxla rfl) (.cons rfl .nil) (FText_f s32 (by omega)) Tryd.func31 rfl rfl (by simp) rfl ?_
        rintro v33 L33 ⟨rfl, rfl⟩
        change At _ _ _ [Na, R] _
        have ht3 := hexT_len [l.getD p 0]
        refine op_addS (a := [73, 78, 86, 65, 76, 73, 68, 32]) (nxlf rfl) rfl rfl (by (rw [ht3, List.length_singleton]; decide)) rfl ?_
        refine op_assign (nxlf rfl) rfl rfl ?_
        refine op_assign (nxlf rfl) rfl rfl ?_
        refine At.opsNil ?_
        refine At.norm (jk_8 ?_ (.refl _) ⟨wINV ++ hexT [l.getD p 0], 0, rfl, rfl, (lineC_n c27).2.symm, by rw [List.length_append, hexT_len, List.length_singleton]; decide, by rw [if_pos rfl]; exact (lineC_n c27).1⟩)
        exact .cons (by first | exact lkI rfl (by omega) | rfl) (.cons (by first | exact lkI rfl (by omega) | rfl) (.cons (by first | exact lkI rfl (by omega) | rfl) (.cons (by first | exact lkI rfl (by omega) | rfl) (.cons (by first | exact lkI rfl (by omega) | rfl) (.cons (by first | exact lkI rfl (by omega) | rfl) .nil)))))
      · refine At.skip ?_
        refine At.norm (jk_8 ?_ (.refl _) ⟨nameC f ((l.getD p 0).toNat : Int), ownB (l.getD p 0), rfl, rfl, (ownC_y c27).symm, by omega, by split; exact lineC_0 c27 (by assumption); exact lineC_y c27 (by assumption)⟩)
        exact .cons (by first | exact lkI rfl (by omega) | rfl) (.cons (by first | exact lkI rfl (by omega) | rfl) (.cons (by first | exact lkI rfl (by omega) | rfl) (.cons (by first | exact lkI rfl (by omega) | rfl) (.cons (by first | exact lkI rfl (by omega) | rfl) (.cons (by first | exact lkI rfl (by omega) | rfl) .nil)))))
    rintro _ _ ⟨nm, k, rfl, rfl, hk, hnl, hline⟩
    refine hk_8 ?_
    refine At.seq fun K10 hk_10 => ?_
    refine At.region ?_
    refine op_move (nxlf rfl) rfl rfl ?_
    refine op_callA (nxla rfl) (.cons rfl .nil) (Itoa_f hP p (by omega)) Tryd.func32 rfl rfl (by simp) rfl ?_
    rintro v36 L36 ⟨rfl, rfl⟩
    change At _ _ _ [Na, R] _
    refine op_addS (b := [32]) (nxlf rfl) rfl rfl (by (rw [List.length_singleton]; omega)) rfl ?_
    refine op_move (nxlf rfl) rfl rfl ?_
    refine op_addS (nxlf rfl) rfl rfl (by (rw [List.length_append, List.length_singleton]; omega)) rfl ?_
    refine op_assign (nxlf rfl) rfl rfl ?_
    refine At.opsNil ?_
    refine At.norm (hk_10 ?_)
    refine At.seq fun K11 hk_11 => ?_
    refine At.meet (fun fr_ hp_ => fr_ = [(0, .int .i64 f), (1, .slice ao n cap), (5, .slice a dn c), (6, .int .i64 (p : Int)), (8, .int .i64 (k : Int)), (9, str (lineC f l p))] ∧ hp_ = [Na, R] ∧ (True)) ?_ (fun K11_ jk_11 => ?_)
    rotate_left
    · skip
      refine At.seq fun K12 hk_12 => ?_
      refine At.region ?_
      refine op_move (nxlf rfl) rfl rfl ?_
      refine op_gtr (nxlf rfl) rfl rfl rfl ?_
      refine At.opsNil ?_
      refine At.norm (hk_12 ?_)
      refine At.condP rfl (fun c41 => ?_) (fun c41 => ?_)
      · refine At.region ?_
        refine op_move (nxlf rfl) rfl rfl ?_
        refine op_move (nxlf rfl) rfl rfl ?_
        refine op_move (nxlf rfl) rfl rfl ?_
        refine op_addI (nxlf rfl) rfl rfl (by omega) (by omega) rfl ?_
        refine op_move (nxlf rfl) rfl rfl ?_
        refine op_addI (nxlf rfl) rfl rfl (by omega) (by omega) rfl ?_
        refine op_move (nxlf rfl) rfl rfl ?_
        refine op_addI (nxlf rfl) rfl rfl (by omega) (by omega) rfl ?_
        refine op_move (nxlf rfl) rfl rfl ?_
        refine op_lenS (nxlf rfl) se22 rfl rfl ?_
        refine op_minI (a := p + 1 + k) (b := n) (nxlf rfl) rfl rfl (by omega) (by omega) rfl ?_
        refine op_slice (nxlf rfl) se22 rfl (.some rfl (show _ = (((p + 1 : Nat)) : Int) from by omega)) (.some rfl (show _ = (((min (p + 1 + k) n : Nat)) : Int) from by omega)) .none (by omega) (by omega) (by omega) (by simp) rfl ?_
        have s53 := h.part8 (lo := p + 1) (hi := min (p + 1 + k) n) (m := cap) (by omega) (by omega) (by omega) (by omega)
        rw [cut_at (k := k) (by rw [hlen])] at s53
        refine op_callA (nxla rfl) (.cons rfl .nil) (FText_f s53 (by omega)) Tryd.func31 rfl rfl (by simp) rfl ?_
        rintro v54 L54 ⟨rfl, rfl⟩
        change At _ _ _ [Na, R] _
        have ht5 := hexT_len ((l.drop (p + 1)).take k); rw [List.length_take] at ht5
        refine op_addS (a := [32]) (nxlf rfl) rfl rfl (by (rw [List.length_singleton]; omega)) rfl ?_
        refine op_addS (nxlf rfl) rfl rfl (by (rw [List.length_append, List.length_append, List.length_append, List.length_singleton]; omega)) rfl ?_
        refine op_assign (nxlf rfl) rfl rfl ?_
        refine At.opsNil ?_
        rw [show Lib.decDigits p ++ [32] ++ nm ++ ([32] ++ hexT ((l.drop (p + 1)).take k)) = lineC f l p by rw [hline, if_neg (by omega)]]
        refine At.norm (jk_11 ?_ (.refl _) ⟨rfl, rfl, trivial⟩)
        exact .cons (by first | exact lkI rfl (by omega) | rfl) (.cons (by first | exact lkI rfl (by omega) | rfl) (.cons (by first | exact lkI rfl (by omega) | rfl) (.cons (by first | exact lkI rfl (by omega) | rfl) (.cons (by first | exact lkI rfl (by omega) | rfl) (.cons (by first | exact lkI rfl (by omega) | rfl) .nil)))))
      · refine At.skip ?_
        rw [show Lib.decDigits p ++ [32] ++ nm = lineC f l p by rw [hline, if_pos (by omega)]]
        refine At.norm (jk_11 ?_ (.refl _) ⟨rfl, rfl, trivial⟩)
        exact .cons (by first | exact lkI rfl (by omega) | rfl) (.cons (by first | exact lkI rfl (by omega) | rfl) (.cons (by first | exact lkI rfl (by omega) | rfl) (.cons (by first | exact lkI rfl (by omega) | rfl) (.cons (by first | exact lkI rfl (by omega) | rfl) (.cons (by first | exact lkI rfl (by omega) | rfl) .nil)))))
    rintro _ _ ⟨rfl, rfl, hu⟩
    refine hk_11 ?_
    refine At.seq fun K13 hk_13 => ?_
    refine At.region ?_
    refine op_move (nxlf rfl) rfl rfl ?_
    refine op_move (nxlf rfl) rfl rfl ?_
    refine op_lit (nxla rfl) Tryd.underlying31 ze9 sz9 (.cons rfl .nil) rfl rfl (by simp [Value.cells, str]) rfl rfl rfl (fun N59 a59 r59 => ?_)
    simp only [flatV, List.flatMap_cons, List.flatMap_nil, Value.cells, List.append_nil, List.cons_append, List.nil_append, str] at r59
    have s59 := r59.rsl
    change Row N59 _ 1 a59 1 1 [str (lineC f l p)] at r59
    have s59 := r59.rsl
    refine op_append (nxl rfl) Tryd.underlying31 Tryd.underlying31 te9 rfl rfl ra s59 (by first | exact mem0 | exact mem1 | exact mem2 | exact mem3 | exact mem4 | exact mem5 | exact mem6 | exact mem7 | exact mem8 | exact mem9) (by first | exact one_u8s _ | exact one_u64s _ | exact one_u32s _ | (intro u hu; simp at hu; subst hu; rfl)) (by omega) (by omega) sel1 rfl (fun N60 a60 p60 r60 => ?_)
    have s60 := r60.rsl
    have r60 : Row N60 9 1 a60 (dn + 1) p60 (strs (done ++ [lineC f l p])) := by
      rw [strs_app]
      exact r60
    refine op_assign (nxlf rfl) rfl rfl ?_
    refine At.opsNil ?_
    refine At.norm (hk_13 ?_)
    refine At.region ?_
    refine op_move (nxlf rfl) rfl rfl ?_
    refine op_move (nxlf rfl) rfl rfl ?_
    refine op_addI (nxlf rfl) rfl rfl (by omega) (by omega) rfl ?_
    refine op_addI (nxlf rfl) rfl rfl (by omega) (by omega) rfl ?_
    refine op_assign (nxlf rfl) rfl rfl ?_
    refine At.opsNil ?_
    refine At.inNorm ?_
    refine At.norm ?_
    refine At.sub (L' := [N60, R]) (.cons_cons _ (.cons _ (.cons_cons _ (.slnil)))) ?_
    refine At.back ?_ (.refl _) ⟨p + 1 + ownC f l p, done ++ [lineC f l p], a60, dn + 1, p60, N60, rfl, rfl, rfl, by omega, by rw [List.length_append, hdn]; rfl, by omega, by rw [List.append_assoc, List.singleton_append, ← listAt_on (by omega)]; exact hd, r60⟩ ?_
    · exact .cons (by first | exact lkI rfl (by omega) | rfl) (.cons (by first | exact lkI rfl (by omega) | rfl) (.cons (by first | exact lkI rfl (by omega) | rfl) (.cons (by first | exact lkI rfl (by omega) | rfl) .nil)))
    · omega
  · have hfin : done = listC f l := by rw [← hd, listAt_end (by omega), List.append_nil]
    refine At.exit (At.thenExit (At.thenExit (At.inHit ?_)))
    refine At.norm (hk_3 ?_)
    refine At.seq fun K14 hk_14 => ?_
    refine At.region ?_
    refine op_move (nxlf rfl) rfl rfl ?_
    refine op_assign (nxlf rfl) rfl rfl ?_
    refine At.opsNil ?_
    refine At.norm (hk_14 ?_)
    refine At.ret (?_)
    refine At.ret1 (L1 := [Na]) rfl (.tmp rfl .nil) (.refl _) (.refl _) ?_
    exact ⟨Na, a, c, by rw [← hfin, hdn], rfl, by rw [← hfin, ← hdn]; exact ra.rsl⟩
end
end Go.Proofs.YtdplcfineaikjaaDoor
/- Codes written down by the reference; quarrylaw18.CodeList answers true. Condition: the tables are laid. -/
namespace Go.Proofs.YtdplcfineaikjaaDoor
set_option linter.unusedVariables false
set_option linter.unusedSimpArgs false
open Go Go.RowKit
section
variable {N M : Heaplet} {ao : Option Addr} {n cap : Nat} {l : List UInt8}
set_option maxRecDepth 100000 in
set_option maxHeartbeats 4000000 in
theorem rList_f (f : Int) (h : RSl N 1 ao n cap (u8s l)) (hn : n ≤ 1073741824) : Fn Tryd.prog 15 #[.int .i64 f, .slice ao n cap] [] [N] (LinP (listC f l)) := by
  have hlen := h.len8
  have hcap := h.cap63
  refine Fn.enter (vs := [.int .i64 f, .slice ao n cap]) Tryd.func15 rfl rfl rfl ?_
  intro E R hR
  have h := h.le (hR N (by simp))
  change At _ _ E [R] _
  refine At.seq fun K1 hk_1 => ?_
  refine At.region ?_
  refine op_assign (nxlf rfl) rfl rfl ?_
  refine At.opsNil ?_
  refine At.norm (hk_1 ?_)
  refine At.seq fun K2 hk_2 => ?_
  refine At.region ?_
  refine op_assign (nxlf rfl) rfl rfl ?_
  refine At.opsNil ?_
  refine At.norm (hk_2 ?_)
  refine At.seq fun K3 hk_3 => ?_
  refine At.region ?_
  refine op_assign (nxlf rfl) rfl rfl ?_
  refine At.opsNil ?_
  refine At.norm (hk_3 ?_)
  refine At.seq fun K4 hk_4 => ?_
  refine At.block ?_
  refine At.empty ?_
  refine At.loop (fun fr_ hp_ ms_ => ∃ (p : Nat) (done : List (List UInt8)) (a : Option Addr) (dn c : Nat) (Na : Heaplet), fr_ = [(0, .int .i64 f), (1, .slice ao n cap), (5, .slice a dn c), (6, .int .i64 (p : Int))] ∧ hp_ = [Na, R] ∧ n - p = ms_ ∧ (p ≤ n + 33) ∧ (dn = done.length) ∧ (dn ≤ p) ∧ (done ++ listAt f l p = listC f l) ∧ (Row Na 9 1 a dn c (strs done))) ?_ (.refl _) ⟨0, [], none, 0, 0, nilH, rfl, rfl, rfl, by omega, rfl, by omega, rfl, Row.nil _ _ _⟩ ?_
  · exact .cons (by first | exact lkI rfl (by omega) | rfl) (.cons (by first | exact lkI rfl (by omega) | rfl) (.cons (by first | exact lkI rfl (by omega) | rfl) (.cons (by first | exact lkI rfl (by omega) | rfl) .nil)))
  rintro _ _ _ ⟨p, done, a, dn, c, Na, rfl, rfl, rfl, hp, hdn, hdp, hd, ra⟩
  refine At.seq fun K5 hk_5 => ?_
  refine At.seq fun K6 hk_6 => ?_
  refine At.region ?_
  refine op_move (nxlf rfl) rfl rfl ?_
  refine op_move (nxlf rfl) rfl rfl ?_
  refine op_lenS (nxlf rfl) se22 rfl rfl ?_
  refine op_lss (nxlf rfl) rfl rfl rfl ?_
  refine At.opsNil ?_
  refine At.norm (hk_6 ?_)
  refine At.condP rfl (fun c14 => ?_) (fun c14 => ?_)
  · have hx := (l.getD p 0).toNat_lt
    have ho := ownB_le (l.getD p 0)
    have hoc := ownC_le f l p
    have hnl := nameC_len f ((l.getD p 0).toNat : Int)
    have hdl := dec_len p
    refine At.skip ?_
    refine At.norm (hk_5 ?_)
    refine At.block ?_
    refine At.seq fun K7 hk_7 => ?_
    refine At.region ?_
    refine op_move (nxlf rfl) rfl rfl ?_
    refine op_callA (nxla rfl) (.cons rfl .nil) (rDigits_f p (by omega)) Tryd.func33 rfl rfl (by simp) rfl ?_
    rintro v16 L16 ⟨rfl, rfl⟩
    change At _ _ _ [Na, R] _
    refine op_addS (b := [32]) (nxlf rfl) rfl rfl (by (rw [List.length_singleton]; omega)) rfl ?_
    refine op_assign (nxlf rfl) rfl rfl ?_
    refine At.opsNil ?_
    refine At.norm (hk_7 ?_)
    refine At.seq fun K8 hk_8 => ?_
    refine At.region ?_
    refine op_move (nxlf rfl) rfl rfl ?_
    refine op_move (nxlf rfl) rfl rfl ?_
    refine op_move (nxlf rfl) rfl rfl ?_
    refine op_idx1 (nxlf rfl) se22 rfl rfl h (show _ = (((p : Nat)) : Int) from by omega) (by omega) rfl ?_
    refine op_loadE (nxlf rfl) sc5 rfl h (by first | exact get8 (by omega) | exact get64 (by omega) | exact get32 (by omega)) (by first | exact mem0 | exact mem1 | exact mem2 | exact mem3 | exact mem4 | exact mem5 | exact mem6 | exact mem7 | exact mem8 | exact mem9) rfl ?_
    refine op_convI (nxlf rfl) (und_some Tryd.underlying5) Tryd.underlying3 rfl (by omega) (by omega) rfl ?_
    refine op_callA (nxla rfl) (.cons rfl (.cons rfl .nil)) (rName_f f ((l.getD p 0).toNat : Int)) Tryd.func34 rfl rfl (by simp) rfl ?_
    rintro v24 L24 ⟨rfl, rfl⟩
    change At _ _ _ [Na, R] _
    refine op_assign (nxlf rfl) rfl rfl ?_
    refine At.opsNil ?_
    refine At.norm (hk_8 ?_)
    refine At.seq fun K9 hk_9 => ?_
    refine At.region ?_
    refine op_assign (nxlf rfl) rfl rfl ?_
    refine At.opsNil ?_
    refine At.norm (hk_9 ?_)
    refine At.seq fun K10 hk_10 => ?_
    refine At.meet (fun fr_ hp_ => fr_ = [(0, .int .i64 f), (1, .slice ao n cap), (5, .slice a dn c), (6, .int .i64 (p : Int)), (7, str (lineC f l p)), (9, .int .i64 (ownC f l p : Int))] ∧ hp_ = [Na, R] ∧ (True)) ?_ (fun K10_ jk_10 => ?_)
    rotate_left
    · skip
      refine At.seq fun K11 hk_11 => ?_
      refine At.region ?_
      refine op_move (nxlf rfl) rfl rfl ?_
      refine op_eqS (b := []) (nxlf rfl) rfl rfl rfl ?_
      refine At.opsNil ?_
      refine At.norm (hk_11 ?_)
      refine At.condP rfl (fun c26 => ?_) (fun c26 => ?_)
      · refine At.region ?_
        refine op_move (nxlf rfl) rfl rfl ?_
        refine op_addS (b := [73, 78, 86, 65, 76, 73, 68, 32]) (nxlf rfl) rfl rfl (by (simp; omega)) rfl ?_
        refine op_move (nxlf rfl) rfl rfl ?_
        refine op_move (nxlf rfl) rfl rfl ?_
        refine op_move (nxlf rfl) rfl rfl ?_
        refine op_addI (nxlf rfl) rfl rfl (by omega) (by omega) rfl ?_
        refine op_slice (nxlf rfl) se22 rfl (.some rfl (show _ = (((p : Nat)) : Int) from by omega)) (.some rfl (show _ = (((p + 1 : Nat)) : Int) from by omega)) .none (by omega) (by omega) (by omega) (by simp) rfl ?_
        have s33 := h.part8 (lo := p) (hi := p + 1) (m := cap) (by omega) (by omega) (by omega) (by omega)
        rw [one_at (by omega)] at s33
        refine op_callA (nxla rfl) (.cons rfl .nil) (rText_f s33 (by omega)) Tryd.func35 rfl rfl (by simp) rfl ?_
        rintro v34 L34 ⟨rfl, rfl⟩
        change At _ _ _ [Na, R] _
        have ht3 := hexT_len [l.getD p 0]
        refine op_addS (nxlf rfl) rfl rfl (by (rw [ht3, List.length_singleton]; simp; omega)) rfl ?_
        refine op_assign (nxlf rfl) rfl rfl ?_
        refine At.opsNil ?_
        rw [show Lib.decDigits p ++ [32] ++ [73, 78, 86, 65, 76, 73, 68, 32] ++ hexT [l.getD p 0] = lineC f l p by rw [(lineC_n c26).1, List.append_assoc]; rfl]; have hoc0 := (lineC_n c26).2
        refine At.norm (jk_10 ?_ (.refl _) ⟨rfl, rfl, trivial⟩)
        exact .cons (by first | exact lkI rfl (by omega) | rfl) (.cons (by first | exact lkI rfl (by omega) | rfl) (.cons (by first | exact lkI rfl (by omega) | rfl) (.cons (by first | exact lkI rfl (by omega) | rfl) (.cons (by first | exact lkI rfl (by omega) | rfl) (.cons (by first | exact lkI rfl (by omega) | rfl) .nil)))))
      · refine At.seq fun K12 hk_12 => ?_
        refine At.region ?_
        refine op_move (nxlf rfl) rfl rfl ?_
        refine op_move (nxlf rfl) rfl rfl ?_
        refine op_addS (nxlf rfl) rfl rfl (by (rw [List.length_append, List.length_singleton]; omega)) rfl ?_
        refine op_assign (nxlf rfl) rfl rfl ?_
        refine At.opsNil ?_
        refine At.norm (hk_12 ?_)
        refine At.seq fun K13 hk_13 => ?_
        refine At.region ?_
        refine op_move (nxlf rfl) rfl rfl ?_
        refine op_move (nxlf rfl) rfl rfl ?_
        refine op_idx1 (nxlf rfl) se22 rfl rfl h (show _ = (((p : Nat)) : Int) from by omega) (by omega) rfl ?_
        refine op_loadE (nxlf rfl) sc5 rfl h (by first | exact get8 (by omega) | exact get64 (by omega) | exact get32 (by omega)) (by first | exact mem0 | exact mem1 | exact mem2 | exact mem3 | exact mem4 | exact mem5 | exact mem6 | exact mem7 | exact mem8 | exact mem9) rfl ?_
        refine op_callA (nxla rfl) (.cons rfl .nil) (rOwn_f (l.getD p 0)) Tryd.func27 rfl rfl (by simp) rfl ?_
        rintro v43 L43 ⟨rfl, rfl⟩
        change At _ _ _ [Na, R] _
        refine op_assign (nxlf rfl) rfl rfl ?_
        refine At.opsNil ?_
        refine At.norm (hk_13 ?_)
        refine At.seq fun K14 hk_14 => ?_
        refine At.region ?_
        refine op_move (nxlf rfl) rfl rfl ?_
        refine op_gtr (nxlf rfl) rfl rfl rfl ?_
        refine At.opsNil ?_
        refine At.norm (hk_14 ?_)
        refine At.condP rfl (fun c45 => ?_) (fun c45 => ?_)
        · refine At.seq fun K15 hk_15 => ?_
          refine At.region ?_
          refine op_move (nxlf rfl) rfl rfl ?_
          refine op_addI (nxlf rfl) rfl rfl (by omega) (by omega) rfl ?_
          refine op_move (nxlf rfl) rfl rfl ?_
          refine op_addI (nxlf rfl) rfl rfl (by omega) (by omega) rfl ?_
          refine op_assign (nxlf rfl) rfl rfl ?_
          refine At.opsNil ?_
          refine At.norm (hk_15 ?_)
          refine At.seq fun K16 hk_16 => ?_
          refine At.meet (fun fr_ hp_ => ∃ (e : Nat), fr_ = [(0, .int .i64 f), (1, .slice ao n cap), (5, .slice a dn c), (6, .int .i64 (p : Int)), (7, str (Lib.decDigits p ++ [32] ++ nameC f ((l.getD p 0).toNat : Int))), (9, .int .i64 (ownB (l.getD p 0) : Int)), (10, .int .i64 (e : Int))] ∧ hp_ = [Na, R] ∧ (e = min (p + 1 + ownB (l.getD p 0)) l.length) ∧ (p + 1 ≤ e) ∧ (e ≤ n)) ?_ (fun K16_ jk_16 => ?_)
          rotate_left
          · skip
            refine At.seq fun K17 hk_17 => ?_
            refine At.region ?_
            refine op_move (nxlf rfl) rfl rfl ?_
            refine op_move (nxlf rfl) rfl rfl ?_
            refine op_lenS (nxlf rfl) se22 rfl rfl ?_
            refine op_gtr (nxlf rfl) rfl rfl rfl ?_
            refine At.opsNil ?_
            refine At.norm (hk_17 ?_)
            refine At.condP rfl (fun c53 => ?_) (fun c53 => ?_)
            · refine At.region ?_
              refine op_move (nxlf rfl) rfl rfl ?_
              refine op_lenS (nxlf rfl) se22 rfl rfl ?_
              refine op_assign (nxlf rfl) rfl rfl ?_
              refine At.opsNil ?_
              refine At.norm (jk_16 ?_ (.refl _) ⟨n, rfl, rfl, by omega, by omega, by omega⟩)
              exact .cons (by first | exact lkI rfl (by omega) | rfl) (.cons (by first | exact lkI rfl (by omega) | rfl) (.cons (by first | exact lkI rfl (by omega) | rfl) (.cons (by first | exact lkI rfl (by omega) | rfl) (.cons (by first | exact lkI rfl (by omega) | rfl) (.cons (by first | exact lkI rfl (by omega) | rfl) (.cons (by first | exact lkI rfl (by omega) | rfl) .nil))))))
            · refine At.skip ?_
              refine At.norm (jk_16 ?_ (.refl _) ⟨p + 1 + ownB (l.getD p 0), rfl, rfl, by omega, by omega, by omega⟩)
              exact .cons (by first | exact lkI rfl (by omega) | rfl) (.cons (by first | exact lkI rfl (by omega) | rfl) (.cons (by first | exact lkI rfl (by omega) | rfl) (.cons (by first | exact lkI rfl (by omega) | rfl) (.cons (by first | exact lkI rfl (by omega) | rfl) (.cons (by first | exact lkI rfl (by omega) | rfl) (.cons (by first | exact lkI rfl (by omega) | rfl) .nil))))))
          rintro _ _ ⟨e, rfl, rfl, he, hpe, hen⟩
          refine hk_16 ?_
          refine At.region ?_
          refine op_move (nxlf rfl) rfl rfl ?_
          refine op_addS (b := [32]) (nxlf rfl) rfl rfl (by (rw [List.length_append, List.length_append, List.length_singleton]; omega)) rfl ?_
          refine op_move (nxlf rfl) rfl rfl ?_
          refine op_move (nxlf rfl) rfl rfl ?_
          refine op_addI (nxlf rfl) rfl rfl (by omega) (by omega) rfl ?_
          refine op_move (nxlf rfl) rfl rfl ?_
          refine op_slice (nxlf rfl) se22 rfl (.some rfl (show _ = (((p + 1 : Nat)) : Int) from by omega)) (.some rfl (show _ = (((e : Nat)) : Int) from by omega)) .none (by omega) (by omega) (by omega) (by simp) rfl ?_
          have s62 := h.part8 (lo := p + 1) (hi := e) (m := cap) (by omega) (by omega) (by omega) (by omega)
          rw [cut_at (k := ownB (l.getD p 0)) he] at s62
          refine op_callA (nxla rfl) (.cons rfl .nil) (rText_f s62 (by omega)) Tryd.func35 rfl rfl (by simp) rfl ?_
          rintro v63 L63 ⟨rfl, rfl⟩
          change At _ _ _ [Na, R] _
          have ht5 := hexT_len ((l.drop (p + 1)).take (ownB (l.getD p 0))); rw [List.length_take] at ht5
          refine op_addS (nxlf rfl) rfl rfl (by (rw [List.length_append, List.length_append, List.length_append, List.length_singleton]; omega)) rfl ?_
          refine op_assign (nxlf rfl) rfl rfl ?_
          refine At.opsNil ?_
          rw [show Lib.decDigits p ++ [32] ++ nameC f ((l.getD p 0).toNat : Int) ++ [32] ++ hexT ((l.drop (p + 1)).take (ownB (l.getD p 0))) = lineC f l p by rw [lineC_y c26 (by omega), List.append_assoc]]; have hoc0 := ownC_y (f := f) (l := l) (p := p) c26
          refine At.norm (jk_10 ?_ (.refl _) ⟨rfl, rfl, trivial⟩)
          exact .cons (by first | exact lkI rfl (by omega) | rfl) (.cons (by first | exact lkI rfl (by omega) | rfl) (.cons (by first | exact lkI rfl (by omega) | rfl) (.cons (by first | exact lkI rfl (by omega) | rfl) (.cons (by first | exact lkI rfl (by omega) | rfl) (.cons (by first | exact lkI rfl (by omega) | rfl) .nil)))))
        · refine At.skip ?_
          rw [show Lib.decDigits p ++ [32] ++ nameC f ((l.getD p 0).toNat : Int) = lineC f l p by rw [lineC_0 c26 (by omega)]]; have hoc0 := ownC_y (f := f) (l := l) (p := p) c26
          refine At.norm (jk_10 ?_ (.refl _) ⟨rfl, rfl, trivial⟩)
          exact .cons (by first | exact lkI rfl (by omega) | rfl) (.cons (by first | exact lkI rfl (by omega) | rfl) (.cons (by first | exact lkI rfl (by omega) | rfl) (.cons (by first | exact lkI rfl (by omega) | rfl) (.cons (by first | exact lkI rfl (by omega) | rfl) (.cons (by first | exact lkI rfl (by omega) | rfl) .nil)))))
    rintro _ _ ⟨rfl, rfl, hu⟩
    refine hk_10 ?_
    refine At.seq fun K18 hk_18 => ?_
    refine At.region ?_
    refine op_move (nxlf rfl) rfl rfl ?_
    refine op_move (nxlf rfl) rfl rfl ?_
    refine op_lit (nxla rfl) Tryd.underlying31 ze9 sz9 (.cons rfl .nil) rfl rfl (by simp [Value.cells, str]) rfl rfl rfl (fun N67 a67 r67 => ?_)
    simp only [flatV, List.flatMap_cons, List.flatMap_nil, Value.cells, List.append_nil, List.cons_append, List.nil_append, str] at r67
    have s67 := r67.rsl
    change Row N67 _ 1 a67 1 1 [str (lineC f l p)] at r67
    have s67 := r67.rsl
    refine op_append (nxl rfl) Tryd.underlying31 Tryd.underlying31 te9 rfl rfl ra s67 (by first | exact mem0 | exact mem1 | exact mem2 | exact mem3 | exact mem4 | exact mem5 | exact mem6 | exact mem7 | exact mem8 | exact mem9) (by first | exact one_u8s _ | exact one_u64s _ | exact one_u32s _ | (intro u hu; simp at hu; subst hu; rfl)) (by omega) (by omega) sel1 rfl (fun N68 a68 p68 r68 => ?_)
    have s68 := r68.rsl
    have r68 : Row N68 9 1 a68 (dn + 1) p68 (strs (done ++ [lineC f l p])) := by
      rw [strs_app]
      exact r68
    refine op_assign (nxlf rfl) rfl rfl ?_
    refine At.opsNil ?_
    refine At.norm (hk_18 ?_)
    refine At.region ?_
    refine op_move (nxlf rfl) rfl rfl ?_
    refine op_addI (nxlf rfl) rfl rfl (by omega) (by omega) rfl ?_
    refine op_move (nxlf rfl) rfl rfl ?_
    refine op_addI (nxlf rfl) rfl rfl (by omega) (by omega) rfl ?_
    refine op_assign (nxlf rfl) rfl rfl ?_
    refine At.opsNil ?_
    refine At.inNorm ?_
    refine At.norm ?_
    refine At.sub (L' := [N68, R]) (.cons_cons _ (.cons _ (.cons_cons _ (.slnil)))) ?_
    refine At.back ?_ (.refl _) ⟨p + 1 + ownC f l p, done ++ [lineC f l p], a68, dn + 1, p68, N68, rfl, rfl, rfl, by omega, by rw [List.length_append, hdn]; rfl, by omega, by rw [List.append_assoc, List.singleton_append, ← listAt_on (by omega)]; exact hd, r68⟩ ?_
    · exact .cons (by first | exact lkI rfl (by omega) | rfl) (.cons (by first | exact lkI rfl (by omega) | rfl) (.cons (by first | exact lkI rfl (by omega) | rfl) (.cons (by first | exact lkI rfl (by omega) | rfl) .nil)))
    · omega
  · have hfin : done = listC f l := by rw [← hd, listAt_end (by omega), List.append_nil]
    refine At.exit (At.thenExit (At.thenExit (At.inHit ?_)))
    refine At.norm (hk_4 ?_)
    refine At.seq fun K19 hk_19 => ?_
    refine At.region ?_
    refine op_move (nxlf rfl) rfl rfl ?_
    refine op_assign (nxlf rfl) rfl rfl ?_
    refine At.opsNil ?_
    refine At.norm (hk_19 ?_)
    refine At.ret (?_)
    refine At.ret1 (L1 := [Na]) rfl (.tmp rfl .nil) (.refl _) (.refl _) ?_
    exact ⟨Na, a, c, by rw [← hfin, hdn], rfl, by rw [← hfin, ← hdn]; exact ra.rsl⟩
set_option maxRecDepth 100000 in
set_option maxHeartbeats 2000000 in
theorem CodeList_f (hT : TabH M) (hP : PowH M) (f : Int) (h : RSl N 1 ao n cap (u8s l)) : Fn Tryd.prog 4 #[.int .i64 f, .slice ao n cap] [] [N, M] (fun v L => v = .bool true ∧ L = []) := by
  have hl : (l.take 3000).length ≤ 3000 := by rw [List.length_take]; omega
  obtain ⟨xs, hxs⟩ : ∃ xs, listC f (l.take 3000) = xs := ⟨_, rfl⟩
  have hxl := listC_len f (l.take 3000)
  rw [hxs] at hxl
  refine Fn.enter (vs := [.int .i64 f, .slice ao n cap]) Tryd.func4 rfl rfl rfl ?_
  intro E R hR
  have h := h.le (hR N (by simp))
  have hT := hT.le (hR M (by simp))
  have hP := hP.le (hR M (by simp))
  change At _ _ E [R] _
  refine At.seq fun K1 hk_1 => ?_
  refine At.region ?_
  refine op_assign (nxlf rfl) rfl rfl ?_
  refine At.opsNil ?_
  refine At.norm (hk_1 ?_)
  refine At.seq fun K2 hk_2 => ?_
  refine At.region ?_
  refine op_move (nxlf rfl) rfl rfl ?_
  refine op_move (nxlf rfl) rfl rfl ?_
  refine op_callA (nxla rfl) (.cons rfl .nil) (few_f h) Tryd.func8 rfl rfl (by simp) rfl ?_
  rintro v10 L10 ⟨N10, a10, c10, rfl, rfl, r10⟩
  change At _ _ _ [N10, R] _
  have s10 := r10.rsl
  refine op_callA (nxla rfl) (.cons rfl (.cons rfl .nil)) (FList_f hT hP f s10 (by omega)) Tryd.func14 rfl rfl (by simp) rfl ?_
  rintro v11 L11 ⟨N11, a11, c11, rfl, rfl, s11⟩
  change At _ _ _ [N11, N10, R] _
  rw [hxs] at s11 ⊢
  refine op_assign (nxlf rfl) rfl rfl ?_
  refine At.opsNil ?_
  refine At.norm (hk_2 ?_)
  refine At.seq fun K3 hk_3 => ?_
  refine At.region ?_
  refine op_move (nxlf rfl) rfl rfl ?_
  refine op_move (nxlf rfl) rfl rfl ?_
  refine op_callA (nxla rfl) (.cons rfl .nil) (few_f h) Tryd.func8 rfl rfl (by simp) rfl ?_
  rintro v14 L14 ⟨N14, a14, c14, rfl, rfl, r14⟩
  change At _ _ _ [N14, N11, N10, R] _
  have s14 := r14.rsl
  refine op_callA (nxla rfl) (.cons rfl (.cons rfl .nil)) (rList_f f s14 (by omega)) Tryd.func15 rfl rfl (by simp) rfl ?_
  rintro v15 L15 ⟨N15, a15, c15, rfl, rfl, s15⟩
  change At _ _ _ [N15, N14, N11, N10, R] _
  rw [hxs] at s15 ⊢
  refine op_assign (nxlf rfl) rfl rfl ?_
  refine At.opsNil ?_
  refine At.norm (hk_3 ?_)
  refine At.seq fun K4 hk_4 => ?_
  refine At.seq fun K5 hk_5 => ?_
  refine At.region ?_
  refine op_move (nxlf rfl) rfl rfl ?_
  refine op_lenS (nxlf rfl) se31 rfl rfl ?_
  refine op_move (nxlf rfl) rfl rfl ?_
  refine op_lenS (nxlf rfl) se31 rfl rfl ?_
  refine op_neq (nxlf rfl) rfl rfl rfl ?_
  refine At.opsNil ?_
  refine At.norm (hk_5 ?_)
  refine At.condP rfl (fun c20 => ?_) (fun c20 => ?_)
  · exact absurd rfl c20
  · refine At.skip ?_
    refine At.norm (hk_4 ?_)
    refine At.seq fun K6 hk_6 => ?_
    refine At.seq fun K7 hk_7 => ?_
    refine At.region ?_
    refine op_assign (nxlf rfl) rfl rfl ?_
    refine At.opsNil ?_
    refine At.norm (hk_7 ?_)
    refine At.block ?_
    refine At.sub (L' := [N15, N11, R]) (.cons_cons _ (.cons _ (.cons_cons _ (.cons _ (.cons_cons _ (.slnil)))))) ?_
    refine At.loop (fun fr_ hp_ ms_ => ∃ (i : Nat), fr_ = [(5, .slice a11 xs.length c11), (6, .slice a15 xs.length c15), (7, .int .i64 (i : Int))] ∧ hp_ = [N15, N11, R] ∧ xs.length - i = ms_ ∧ (i ≤ xs.length)) ?_ (.refl _) ⟨0, rfl, rfl, rfl, Nat.zero_le _⟩ ?_
    · exact .cons (by first | exact lkI rfl (by omega) | rfl) (.cons (by first | exact lkI rfl (by omega) | rfl) (.cons (by first | exact lkI rfl (by omega) | rfl) .nil))
    rintro _ _ _ ⟨i, rfl, rfl, rfl, hi⟩
    refine At.seq fun K8 hk_8 => ?_
    refine At.seq fun K9 hk_9 => ?_
    refine At.region ?_
    refine op_move (nxlf rfl) rfl rfl ?_
    refine op_move (nxlf rfl) rfl rfl ?_
    refine op_lenS (nxlf rfl) se31 rfl rfl ?_
    refine op_lss (nxlf rfl) rfl rfl rfl ?_
    refine At.opsNil ?_
    refine At.norm (hk_9 ?_)
    refine At.condP rfl (fun c24 => ?_) (fun c24 => ?_)
    · refine At.skip ?_
      refine At.norm (hk_8 ?_)
      refine At.seq fun K10 hk_10 => ?_
      refine At.block ?_
      refine At.seq fun K11 hk_11 => ?_
      refine At.drawn [] [0,1,2,3,4,5,6,7,8] (by kernel_rfl) (by kernel_rfl) ?_
      refine op_move (nxof rfl rfl rfl (by kernel_rfl)) rfl rfl ?_
      refine op_move (nxof rfl rfl rfl (by kernel_rfl)) rfl rfl ?_
      refine op_idx1 (nxof rfl rfl rfl (by kernel_rfl)) se31 rfl rfl s11 (show _ = (((i : Nat)) : Int) from by omega) (by omega) rfl ?_
      refine op_loadE (nxof rfl rfl rfl (by kernel_rfl)) sc9 rfl s11 (by first | exact get8 (by omega) | exact get64 (by omega) | exact get32 (by omega) | exact strs_get (by omega)) (by first | exact mem0 | exact mem1 | exact mem2 | exact mem3 | exact mem4 | exact mem5 | exact mem6 | exact mem7 | exact mem8 | exact mem9) rfl ?_
      refine op_move (nxof rfl rfl rfl (by kernel_rfl)) rfl rfl ?_
      refine op_move (nxof rfl rfl rfl (by kernel_rfl)) rfl rfl ?_
      refine op_idx1 (nxof rfl rfl rfl (by kernel_rfl)) se31 rfl rfl s15 (show _ = (((i : Nat)) : Int) from by omega) (by omega) rfl ?_
      refine op_loadE (nxof rfl rfl rfl (by kernel_rfl)) sc9 rfl s15 (by first | exact get8 (by omega) | exact get64 (by omega) | exact get32 (by omega) | exact strs_get (by omega)) (by first | exact mem0 | exact mem1 | exact mem2 | exact mem3 | exact mem4 | exact mem5 | exact mem6 | exact mem7 | exact mem8 | exact mem9) rfl ?_
      refine op_neS (nxof rfl rfl rfl (by kernel_rfl)) rfl rfl rfl ?_
      refine At.oneNil ?_
      refine At.norm (hk_11 ?_)
      refine At.condP rfl (fun c35 => ?_) (fun c35 => ?_)
      · exact absurd rfl c35
      · refine At.skip ?_
        refine At.inNorm ?_
        refine At.norm (hk_10 ?_)
        refine At.region ?_
        refine op_move (nxlf rfl) rfl rfl ?_
        refine op_addI (nxlf rfl) rfl rfl (by omega) (by omega) rfl ?_
        refine op_assign (nxlf rfl) rfl rfl ?_
        refine At.opsNil ?_
        refine At.norm ?_
        refine At.back ?_ (.refl _) ⟨i + 1, rfl, rfl, rfl, by omega⟩ ?_
        · exact .cons (by first | exact lkI rfl (by omega) | rfl) (.cons (by first | exact lkI rfl (by omega) | rfl) (.cons (by first | exact lkI rfl (by omega) | rfl) .nil))
        · omega
    · refine At.exit (At.thenExit (At.thenExit (At.inHit ?_)))
      refine At.norm (hk_6 ?_)
      refine At.seq fun K12 hk_12 => ?_
      refine At.region ?_
      refine op_callA (nxla rfl) .nil (Cwakes_f hT) Tryd.func13 rfl rfl (by simp) rfl ?_
      rintro v36 L36 ⟨rfl, rfl⟩
      change At _ _ _ [N15, N11, R] _
      refine op_assign (nxlf rfl) rfl rfl ?_
      refine At.opsNil ?_
      refine At.norm (hk_12 ?_)
      refine At.ret (?_)
      refine At.sub (L' := [R]) (.cons _ (.cons _ (.cons_cons _ (.slnil)))) ?_
      refine At.ret1 (L1 := []) rfl (.tmp rfl .nil) (.refl _) (.refl _) ?_
      exact ⟨rfl, rfl⟩
end
end Go.Proofs.YtdplcfineaikjaaDoor
