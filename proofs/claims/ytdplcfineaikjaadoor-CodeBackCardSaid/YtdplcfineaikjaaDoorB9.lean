/- Several texts in one: see the remarks ahead of each part. No condition but those told there. -/
import Derived.Shelf.Strconv.Itoa3
import Derived.Test.YtdplcfineaikjaaDoorProg
import Derived.Test.YtdplcfineaikjaaDoorBCN4
import Derived.Test.YtdplcfineaikjaaDoorB5
import Derived.Lib.AppendIntMem
import Derived.Test.YtdplcfineaikjaaDoorB7
import Derived.Shelf.Strings.Split
import Derived.Shelf.Strings.SplitCore
import Derived.Test.YtdplcfineaikjaaDoorB6
/- Contracts of Go's library at this program, in plain words (written by the kit's tool lay-plain). No condition. -/
namespace Go.Proofs
set_option linter.unusedVariables false
set_option linter.unusedSimpArgs false
open Go.Shelf
def Tryd.laysM171_ren : Go.Shelf.Ren := ⟨fun | 171 => 32 | 243 => 50 | 246 => 61 | 283 => 70 | 284 => 71 | 285 => 72 | 286 => 73 | 129 => 82 | 317 => 81 | 318 => 83 | 319 => 84 | 320 => 85 | 337 => 93 | 338 => 94 | n => n, fun | 3 => 3 | 9 => 9 | 2 => 2 | 4 => 4 | 171 => 103 | 0 => 0 | 53 => 23 | 37 => 22 | 5 => 5 | 173 => 106 | 212 => 126 | 51 => 92 | 20 => 20 | 213 => 127 | 46 => 69 | 232 => 140 | 233 => 141 | n => n, fun | 17 => 2 | 18 => 6 | 19 => 7 | n => n⟩
theorem Tryd.laysM171 : Go.Proofs.LaysM.n171 Tryd.prog Tryd.laysM171_ren := {
  mixed := by kernel_rfl
  f129 := Tryd.func82.trans (congrArg some (by kernel_rfl))
  f171 := Tryd.func32.trans (congrArg some (by kernel_rfl))
  f243 := Tryd.func50.trans (congrArg some (by kernel_rfl))
  f246 := Tryd.func61.trans (congrArg some (by kernel_rfl))
  f283 := Tryd.func70.trans (congrArg some (by kernel_rfl))
  f284 := Tryd.func71.trans (congrArg some (by kernel_rfl))
  f285 := Tryd.func72.trans (congrArg some (by kernel_rfl))
  f286 := Tryd.func73.trans (congrArg some (by kernel_rfl))
  f317 := Tryd.func81.trans (congrArg some (by kernel_rfl))
  f318 := Tryd.func83.trans (congrArg some (by kernel_rfl))
  f319 := Tryd.func84.trans (congrArg some (by kernel_rfl))
  f320 := Tryd.func85.trans (congrArg some (by kernel_rfl))
  f337 := Tryd.func93.trans (congrArg some (by kernel_rfl))
  f338 := Tryd.func94.trans (congrArg some (by kernel_rfl))
  t0 := Tryd.underlying0
  a0 := Tryd.isAgg0
  z0 := Tryd.sizeOf0
  v0 := Tryd.zeroValue0
  t2 := Tryd.underlying2
  a2 := Tryd.isAgg2
  z2 := Tryd.sizeOf2
  v2 := Tryd.zeroValue2
  t3 := Tryd.underlying3
  a3 := Tryd.isAgg3
  z3 := Tryd.sizeOf3
  v3 := Tryd.zeroValue3
  t4 := Tryd.underlying4
  a4 := Tryd.isAgg4
  z4 := Tryd.sizeOf4
  v4 := Tryd.zeroValue4
  t5 := Tryd.underlying5
  a5 := Tryd.isAgg5
  z5 := Tryd.sizeOf5
  v5 := Tryd.zeroValue5
  t9 := Tryd.underlying9
  a9 := Tryd.isAgg9
  z9 := Tryd.sizeOf9
  v9 := Tryd.zeroValue9
  t20 := Tryd.underlying20
  a20 := Tryd.isAgg20
  z20 := Tryd.sizeOf20
  v20 := Tryd.zeroValue20
  t37 := Tryd.underlying22
  a37 := Tryd.isAgg22
  z37 := Tryd.sizeOf22
  v37 := Tryd.zeroValue22
  t46 := Tryd.underlying69
  a46 := Tryd.isAgg69
  z46 := Tryd.sizeOf69
  v46 := Tryd.zeroValue69
  t51 := Tryd.underlying92
  a51 := Tryd.isAgg92
  z51 := Tryd.sizeOf92
  v51 := Tryd.zeroValue92
  t53 := Tryd.underlying23
  a53 := Tryd.isAgg23
  z53 := Tryd.sizeOf23
  v53 := Tryd.zeroValue23
  t171 := Tryd.underlying103
  a171 := Tryd.isAgg103
  z171 := Tryd.sizeOf103
  v171 := Tryd.zeroValue103
  t173 := Tryd.underlying106
  a173 := Tryd.isAgg106
  z173 := Tryd.sizeOf106
  v173 := Tryd.zeroValue106
  t212 := Tryd.underlying126
  a212 := Tryd.isAgg126
  z212 := Tryd.sizeOf126
  v212 := Tryd.zeroValue126
  t213 := Tryd.underlying127
  a213 := Tryd.isAgg127
  z213 := Tryd.sizeOf127
  t232 := Tryd.underlying140
  a232 := Tryd.isAgg140
  z232 := Tryd.sizeOf140
  v232 := Tryd.zeroValue140
  t233 := Tryd.underlying141
  a233 := Tryd.isAgg141
  z233 := Tryd.sizeOf141
  v233 := Tryd.zeroValue141
  g17 := by kernel_rfl
  g18 := by kernel_rfl
  g19 := by kernel_rfl
  i0 := by kernel_rfl
  i2 := by kernel_rfl
  i3 := by kernel_rfl
  i4 := by kernel_rfl
  i5 := by kernel_rfl
  i9 := by kernel_rfl
  i20 := by kernel_rfl
  i37 := by kernel_rfl
  i46 := by kernel_rfl
  i51 := by kernel_rfl
  i53 := by kernel_rfl
  i171 := by kernel_rfl
  i173 := by kernel_rfl
  i212 := by kernel_rfl
  i232 := by kernel_rfl
  i233 := by kernel_rfl
  m17 := by kernel_rfl
  m18 := by kernel_rfl
  m19 := by kernel_rfl }
open Go.RowKit Go.Sort Go.Lib in
theorem Tryd.strconv_Itoa (n : Int) (h0 : -9223372036854775808 ≤ n) (h1 : n ≤ 9223372036854775807) (w : World) (htab : Lib.TabIs Tryd.prog w "internal/strconv.uint64pow10" .u64 Lib.pow10Tab) :
    Calls Tryd.prog 32 #[.int .i64 n] w fun e w' => e = .returned (.string ⟨(Lib.itoa n).toArray⟩) ∧ ∃ k os, w' = grow (w.drewN k) os := Any.strconv_Itoa Tryd.laysM171 n h0 h1 w htab
end Go.Proofs
/- Codes written down, in plain words; strconv.Itoa at any number. Condition: the table of powers of ten is laid. -/
namespace Go.Proofs.YtdplcfineaikjaaDoor
set_option linter.unusedVariables false
set_option linter.unusedSimpArgs false
open Go Go.RowKit
/-- The table of powers of ten, in this part of the memory. -/
def PowH (N : Heaplet) : Prop := ∀ w, N.le (whole w) → Lib.TabIs Tryd.prog w "internal/strconv.uint64pow10" .u64 Lib.pow10Tab
theorem PowH.le {N M : Heaplet} (h : PowH N) (hl : N.le M) : PowH M := fun w hw => h w (Heaplet.le_trans hl hw)
theorem Itoa_f {N : Heaplet} (hP : PowH N) (k : Nat) (hk : k ≤ 1099511627776) : Fn Tryd.prog 32 #[.int .i64 (k : Int)] [] [N] (fun v L => v = str (Lib.decDigits k) ∧ L = []) := by
  refine Fn.of_val fun w hr => ?_
  refine (Tryd.strconv_Itoa (k : Int) (by omega) (by omega) w (hP w (hr N (by simp)))).mono ?_
  rintro e w' ⟨he, q, os, rfl⟩
  have e1 : Lib.itoa (k : Int) = Lib.decDigits k := by rw [Lib.itoa, if_neg (by omega), Int.toNat_natCast]
  rw [e1] at he
  exact ret_mono he rfl (Lib.below_grow _ w (Nat.le_refl _) q os)
theorem nameN_len (late : Bool) : ∀ n, n < 256 → (nameN late n).length ≤ 20 := by cases late <;> decide +kernel
theorem nameC_len (f op : Int) : (nameC f op).length ≤ 20 := by
  cases h : opM f op with
  | false => rw [nameC_no h]; decide
  | true =>
    obtain ⟨n, rfl, hn, _⟩ := op_range h
    rw [nameC_y h]
    exact nameN_len _ n hn
def wINV : List UInt8 := [73, 78, 86, 65, 76, 73, 68, 32]
/-- How many bytes of its own the operation at a place has. -/
def ownC (f : Int) (l : List UInt8) (p : Nat) : Nat := if nameC f ((l.getD p 0).toNat : Int) = [] then 0 else ownB (l.getD p 0)
/-- The line of the operation at a place. -/
def lineC (f : Int) (l : List UInt8) (p : Nat) : List UInt8 :=
  if nameC f ((l.getD p 0).toNat : Int) = [] then Lib.decDigits p ++ [32] ++ (wINV ++ hexT [l.getD p 0])
  else if ownB (l.getD p 0) = 0 then Lib.decDigits p ++ [32] ++ nameC f ((l.getD p 0).toNat : Int)
  else Lib.decDigits p ++ [32] ++ nameC f ((l.getD p 0).toNat : Int) ++ ([32] ++ hexT ((l.drop (p + 1)).take (ownB (l.getD p 0))))
def listF (f : Int) : Nat → List UInt8 → Nat → List (List UInt8)
  | 0, _, _ => []
  | k + 1, l, p => if p < l.length then lineC f l p :: listF f k l (p + 1 + ownC f l p) else []
theorem listF_end {f : Int} {k : Nat} {l : List UInt8} {p : Nat} (h : l.length ≤ p) : listF f k l p = [] := by
  cases k with
  | zero => rfl
  | succ k => rw [listF, if_neg (by omega)]
theorem listF_fuel {f : Int} : ∀ (k m : Nat) (l : List UInt8) (p : Nat), l.length ≤ p + k → l.length ≤ p + m → listF f k l p = listF f m l p := by
  intro k
  induction k with
  | zero => intro m l p h1 h2; rw [listF_end (by omega), listF_end (by omega)]
  | succ k ih =>
    intro m l p h1 h2
    cases m with
    | zero => rw [listF_end (by omega), listF_end (by omega)]
    | succ m => rw [listF, listF, ih m l (p + 1 + ownC f l p) (by omega) (by omega)]
def listAt (f : Int) (l : List UInt8) (p : Nat) : List (List UInt8) := listF f l.length l p
/-- A code, written down. -/
def listC (f : Int) (l : List UInt8) : List (List UInt8) := listAt f l 0
theorem listAt_end {f : Int} {l : List UInt8} {p : Nat} (h : l.length ≤ p) : listAt f l p = [] := listF_end h
theorem listAt_on {f : Int} {l : List UInt8} {p : Nat} (h : p < l.length) : listAt f l p = lineC f l p :: listAt f l (p + 1 + ownC f l p) := by
  rw [listAt, listF_fuel l.length (l.length + 1) l p (by omega) (by omega), listF, if_pos h]; rfl
theorem listF_len {f : Int} : ∀ (k : Nat) (l : List UInt8) (p : Nat), (listF f k l p).length ≤ l.length - p := by
  intro k
  induction k with
  | zero => intro l p; exact Nat.zero_le _
  | succ k ih =>
    intro l p
    rw [listF]
    split
    · have := ih l (p + 1 + ownC f l p)
      rw [List.length_cons]; omega
    · exact Nat.zero_le _
theorem listC_len (f : Int) (l : List UInt8) : (listC f l).length ≤ l.length := listF_len _ _ _
theorem lineC_n {f : Int} {l : List UInt8} {p : Nat} (h : nameC f ((l.getD p 0).toNat : Int) = []) : lineC f l p = Lib.decDigits p ++ [32] ++ (wINV ++ hexT [l.getD p 0]) ∧ ownC f l p = 0 := ⟨if_pos h, if_pos h⟩
theorem lineC_0 {f : Int} {l : List UInt8} {p : Nat} (h : nameC f ((l.getD p 0).toNat : Int) ≠ []) (h0 : ownB (l.getD p 0) = 0) : lineC f l p = Lib.decDigits p ++ [32] ++ nameC f ((l.getD p 0).toNat : Int) := by rw [lineC, if_neg h, if_pos h0]
theorem lineC_y {f : Int} {l : List UInt8} {p : Nat} (h : nameC f ((l.getD p 0).toNat : Int) ≠ []) (h0 : ownB (l.getD p 0) ≠ 0) : lineC f l p = Lib.decDigits p ++ [32] ++ nameC f ((l.getD p 0).toNat : Int) ++ ([32] ++ hexT ((l.drop (p + 1)).take (ownB (l.getD p 0)))) := by rw [lineC, if_neg h, if_neg h0]
theorem ownC_y {f : Int} {l : List UInt8} {p : Nat} (h : nameC f ((l.getD p 0).toNat : Int) ≠ []) : ownC f l p = ownB (l.getD p 0) := if_neg h
theorem ownC_le (f : Int) (l : List UInt8) (p : Nat) : ownC f l p ≤ 32 := by
  unfold ownC; split
  · omega
  · exact ownB_le _
theorem strs_app (a b : List (List UInt8)) : strs (a ++ b) = strs a ++ strs b := by simp [strs]
theorem one_at {l : List UInt8} {p : Nat} (h : p < l.length) : (l.drop p).take (p + 1 - p) = [l.getD p 0] := by
  rw [show p + 1 - p = 1 by omega, List.getD_eq_getElem?_getD, List.getElem?_eq_getElem h, List.drop_eq_getElem_cons h]; rfl
theorem cut_at {l : List UInt8} {p k e : Nat} (he : e = min (p + 1 + k) l.length) : (l.drop (p + 1)).take (e - (p + 1)) = (l.drop (p + 1)).take k := by
  subst he
  rcases Nat.le_total (p + 1 + k) l.length with h | h
  · rw [Nat.min_eq_left h, show p + 1 + k - (p + 1) = k by omega]
  · rw [Nat.min_eq_right h, List.take_of_length_le (by rw [List.length_drop]; omega), List.take_of_length_le (by rw [List.length_drop]; omega)]
section
variable {P : Program} {n : Nat} {l : List (Nat × Value)} {E : World} {L Ls : List Heaplet} {X Y : Act → World → Prop} {d : Nat} {t t' ty : TypeId} {x y : Operand}
theorem op_minI {a b : Nat} {p q : Int} {pos : _} {aft : _} {g : _} (s : NxF P n l E L Ls ⟨some d, .call ⟨.builtin .min, #[x, y], #[t, t']⟩, ty, pos, aft, g⟩ X Y) (hx : ev l x = some (.int .i64 p)) (hy : ev l y = some (.int .i64 q)) (ha : p = (a : Int)) (hb : q = (b : Int)) (hn : Nat.ble (d + 1) n = true) (h : At n ((d, .int .i64 ((min a b : Nat) : Int)) :: l) E L Y) : At n l E L X := by
  subst ha; subst hb
  refine op_val s (fun c w hf hw => ?_) rfl hn h
  have e : (if (b : Int) < (a : Int) then (b : Int) else (a : Int)) = ((min a b : Nat) : Int) := by
    split <;> omega
  simp only [execOp, resolve, invoke, builtin, Sem.run_bind, Sem.run_pure, Result.andThen_ok, List.map_toArray, List.map_cons, List.map_nil, hf.eval hx, hf.eval hy, Builtin.min_, List.foldlM_cons, List.foldlM_nil, Builtin.min2, e]
end
/-- The lines, in new memory. -/
def LinP (xs : List (List UInt8)) (v : Value) (L : List Heaplet) : Prop := ∃ M a c, v = .slice a xs.length c ∧ L = [M] ∧ RSl M 1 a xs.length c (strs xs)
section
variable {N M : Heaplet} {ao : Option Addr} {n cap : Nat} {l : List UInt8}
set_option maxRecDepth 100000 in
set_option maxHeartbeats 4000000 in
theorem FList_f (hT : TabH M) (hP : PowH M) (f : Int) (h : RSl N 1 ao n cap (u8s l)) (hn : n ≤ 1073741824) : Fn Tryd.prog 14 #[.int .i64 f, .slice ao n cap] [] [N, M] (LinP (listC f l)) := by
  have hlen := h.len8
  have hcap := h.cap63
  refine Fn.enter (vs := [.int .i64 f, .slice ao n cap]) Tryd.func14 rfl rfl rfl ?_
  intro E R hR
  have h := h.le (hR N (by simp))
  have hT := hT.le (hR M (by simp))
  have hP := hP.le (hR M (by simp))
  change At _ _ E [R] _
  refine At.seq fun K1 hk_1 => ?_
  refine At.region ?_
  refine op_assign (nxlf rfl) rfl rfl ?_
  refine At.opsNil ?_
  refine At.norm (hk_1 ?_)
  refine At.seq fun K2 hk_2 => ?_
  refine At.region ?_
  refine op_assign (nxlf rfl) rfl rfl ?_
  refine At.opsNil ?_
  refine At.norm (hk_2 ?_)
  refine At.seq fun K3 hk_3 => ?_
  refine At.seq fun K4 hk_4 => ?_
  refine At.region ?_
  refine op_assign (nxlf rfl) rfl rfl ?_
  refine At.opsNil ?_
  refine At.norm (hk_4 ?_)
  refine At.block ?_
  refine At.empty ?_
  refine At.loop (fun fr_ hp_ ms_ => ∃ (p : Nat) (done : List (List UInt8)) (a : Option Addr) (dn c : Nat) (Na : Heaplet), fr_ = [(0, .int .i64 f), (1, .slice ao n cap), (5, .slice a dn c), (6, .int .i64 (p : Int))] ∧ hp_ = [Na, R] ∧ n - p = ms_ ∧ (p ≤ n + 33) ∧ (dn = done.length) ∧ (dn ≤ p) ∧ (done ++ listAt f l p = listC f l) ∧ (Row Na 9 1 a dn c (strs done))) ?_ (.refl _) ⟨0, [], none, 0, 0, nilH, rfl, rfl, rfl, by omega, rfl, by omega, rfl, Row.nil _ _ _⟩ ?_
  · exact .cons (by first | exact lkI rfl (by omega) | rfl) (.cons (by first | exact lkI rfl (by omega) | rfl) (.cons (by first | exact lkI rfl (by omega) | rfl) (.cons (by first | exact lkI rfl (by omega) | rfl) .nil)))
  rintro _ _ _ ⟨p, done, a, dn, c, Na, rfl, rfl, rfl, hp, hdn, hdp, hd, ra⟩
  refine At.seq fun K5 hk_5 => ?_
  refine At.seq fun K6 hk_6 => ?_
  refine At.region ?_
  refine op_move (nxlf rfl) rfl rfl ?_
  refine op_move (nxlf rfl) rfl rfl ?_
  refine op_lenS (nxlf rfl) se22 rfl rfl ?_
  refine op_lss (nxlf rfl) rfl rfl rfl ?_
  refine At.opsNil ?_
  refine At.norm (hk_6 ?_)
  refine At.condP rfl (fun c13 => ?_) (fun c13 => ?_)
  · have hx := (l.getD p 0).toNat_lt
    have ho := ownB_le (l.getD p 0)
    have hoc := ownC_le f l p
    have hnl := nameC_len f ((l.getD p 0).toNat : Int)
    have hdl := dec_len p
    refine At.skip ?_
    refine At.norm (hk_5 ?_)
    refine At.block ?_
    refine At.seq fun K7 hk_7 => ?_
    refine At.drawnS [Na, R] [11] [7,8] [0,1,2,3,4,5,7,8,9,10,6,11,12,13] (by kernel_rfl) (by kernel_rfl) (.refl _) ?_
    refine op_move (nxsf rfl rfl rfl) rfl rfl ?_
    refine op_move (nxsf rfl rfl rfl) rfl rfl ?_
    refine op_move (nxsf rfl rfl rfl) rfl rfl ?_
    refine op_idx1 (nxsf rfl rfl rfl) se22 rfl rfl h (show _ = (((p : Nat)) : Int) from by omega) (by omega) rfl ?_
    refine op_loadE (nxsf rfl rfl rfl) sc5 rfl h (by first | exact get8 (by omega) | exact get64 (by omega) | exact get32 (by omega)) (by first | exact mem0 | exact mem1 | exact mem2 | exact mem3 | exact mem4 | exact mem5 | exact mem6 | exact mem7 | exact mem8 | exact mem9) rfl ?_
    refine op_convI (nxsf rfl rfl rfl) (und_some Tryd.underlying5) Tryd.underlying3 rfl (by omega) (by omega) rfl ?_
    refine op_move (nxsf rfl rfl rfl) rfl rfl ?_
    refine op_move (nxsf rfl rfl rfl) rfl rfl ?_
    refine op_idx1 (nxsf rfl rfl rfl) se22 rfl rfl h (show _ = (((p : Nat)) : Int) from by omega) (by omega) rfl ?_
    refine op_loadE (nxsf rfl rfl rfl) sc5 rfl h (by first | exact get8 (by omega) | exact get64 (by omega) | exact get32 (by omega)) (by first | exact mem0 | exact mem1 | exact mem2 | exact mem3 | exact mem4 | exact mem5 | exact mem6 | exact mem7 | exact mem8 | exact mem9) rfl ?_
    refine op_callA (Nx.agree (nxsm rfl rfl rfl)) (.cons rfl (.cons rfl .nil)) (FName_f hT f ((l.getD p 0).toNat : Int)) Tryd.func21 rfl rfl (by simp) rfl ?_
    rintro v20 L20 ⟨rfl, rfl⟩
    change At _ _ _ [Na, R] _
    refine At.moreS (Lst := [Na, R]) (Lst' := [Na, R]) (.refl _) (.refl _) ?_
    refine op_callA (Nx.agree (nxss rfl rfl rfl rfl)) (.cons rfl .nil) (FOwn_f (l.getD p 0)) Tryd.func26 rfl rfl (by simp) rfl ?_
    rintro v25 L25 ⟨rfl, rfl⟩
    change At _ _ _ [Na, R] _
    refine At.anyS (.refl _) ?_
    refine op_assign (nxsf rfl rfl rfl) rfl rfl ?_
    refine op_assign (nxsf rfl rfl rfl) rfl rfl ?_
    refine At.sNil ?_
    refine At.norm (hk_7 ?_)
    refine At.seq fun K8 hk_8 => ?_
    refine At.meet (fun fr_ hp_ => ∃ (nm : List UInt8) (k : Nat), fr_ = [(0, .int .i64 f), (1, .slice ao n cap), (5, .slice a dn c), (6, .int .i64 (p : Int)), (7, str nm), (8, .int .i64 (k : Int))] ∧ hp_ = [Na, R] ∧ (k = ownC f l p) ∧ (nm.length ≤ 40) ∧ (lineC f l p = if k = 0 then Lib.decDigits p ++ [32] ++ nm else Lib.decDigits p ++ [32] ++ nm ++ ([32] ++ hexT ((l.drop (p + 1)).take k)))) ?_ (fun K8_ jk_8 => ?_)
    rotate_left
    · skip
      refine At.seq fun K9 hk_9 => ?_
      refine At.region ?_
      refine op_move (nxlf rfl) rfl rfl ?_
      refine op_eqS (b := []) (nxlf rfl) rfl rfl rfl ?_
      refine At.opsNil ?_
      refine At.norm (hk_9 ?_)
      refine At.condP rfl (fun c27 => ?_) (fun c27 => ?_)
      · refine At.region ?_
        refine op_move (nxlf rfl) rfl rfl ?_
        refine op_move (nxlf rfl) rfl rfl ?_
        refine op_move (nxlf rfl) rfl rfl ?_
        refine op_addI (nxlf rfl) rfl rfl (by omega) (by omega) rfl ?_
        refine op_slice (nxlf rfl) se22 rfl (.some rfl (show _ = (((p : Nat)) : Int) from by omega)) (.some rfl (show _ = (((p + 1 : Nat)) : Int) from by omega)) .none (by omega) (by omega) (by omega) (by simp) rfl ?_
        have s32 := h.part8 (lo := p) (hi := p + 1) (m := cap) (by omega) (by omega) (by omega) (by omega)
        rw [one_at (by omega)] at s32
        refine op_callA (nxla rfl) (.cons rfl .nil) (FText_f s32 (by omega)) Tryd.func31 rfl rfl (by simp) rfl ?_
        rintro v33 L33 ⟨rfl, rfl⟩
        change At _ _ _ [Na, R] _
        have ht3 := hexT_len [l.getD p 0]
        refine op_addS (a := [73, 78, 86, 65, 76, 73, 68, 32]) (nxlf rfl) rfl rfl (by (rw [ht3, List.length_singleton]; decide)) rfl ?_
        refine op_assign (nxlf rfl) rfl rfl ?_
        refine op_assign (nxlf rfl) rfl rfl ?_
        refine At.opsNil ?_
        refine At.norm (jk_8 ?_ (.refl _) ⟨wINV ++ hexT [l.getD p 0], 0, rfl, rfl, (lineC_n c27).2.symm, by rw [List.length_append, hexT_len, List.length_singleton]; decide, by rw [if_pos rfl]; exact (lineC_n c27).1⟩)
        exact .cons (by first | exact lkI rfl (by omega) | rfl) (.cons (by first | exact lkI rfl (by omega) | rfl) (.cons (by first | exact lkI rfl (by omega) | rfl) (.cons (by first | exact lkI rfl (by omega) | rfl) (.cons (by first | exact lkI rfl (by omega) | rfl) (.cons (by first | exact lkI rfl (by omega) | rfl) .nil)))))
      · refine At.skip ?_
        refine At.norm (jk_8 ?_ (.refl _) ⟨nameC f ((l.getD p 0).toNat : Int), ownB (l.getD p 0), rfl, rfl, (ownC_y c27).symm, by omega, by split; exact lineC_0 c27 (by assumption); exact lineC_y c27 (by assumption)⟩)
        exact .cons (by first | exact lkI rfl (by omega) | rfl) (.cons (by first | exact lkI rfl (by omega) | rfl) (.cons (by first | exact lkI rfl (by omega) | rfl) (.cons (by first | exact lkI rfl (by omega) | rfl) (.cons (by first | exact lkI rfl (by omega) | rfl) (.cons (by first | exact lkI rfl (by omega) | rfl) .nil)))))
    rintro _ _ ⟨nm, k, rfl, rfl, hk, hnl, hline⟩
    refine hk_8 ?_
    refine At.seq fun K10 hk_10 => ?_
    refine At.region ?_
    refine op_move (nxlf rfl) rfl rfl ?_
    refine op_callA (nxla rfl) (.cons rfl .nil) (Itoa_f hP p (by omega)) Tryd.func32 rfl rfl (by simp) rfl ?_
    rintro v36 L36 ⟨rfl, rfl⟩
    change At _ _ _ [Na, R] _
    refine op_addS (b := [32]) (nxlf rfl) rfl rfl (by (rw [List.length_singleton]; omega)) rfl ?_
    refine op_move (nxlf rfl) rfl rfl ?_
    refine op_addS (nxlf rfl) rfl rfl (by (rw [List.length_append, List.length_singleton]; omega)) rfl ?_
    refine op_assign (nxlf rfl) rfl rfl ?_
    refine At.opsNil ?_
    refine At.norm (hk_10 ?_)
    refine At.seq fun K11 hk_11 => ?_
    refine At.meet (fun fr_ hp_ => fr_ = [(0, .int .i64 f), (1, .slice ao n cap), (5, .slice a dn c), (6, .int .i64 (p : Int)), (8, .int .i64 (k : Int)), (9, str (lineC f l p))] ∧ hp_ = [Na, R] ∧ (True)) ?_ (fun K11_ jk_11 => ?_)
    rotate_left
    · skip
      refine At.seq fun K12 hk_12 => ?_
      refine At.region ?_
      refine op_move (nxlf rfl) rfl rfl ?_
      refine op_gtr (nxlf rfl) rfl rfl rfl ?_
      refine At.opsNil ?_
      refine At.norm (hk_12 ?_)
      refine At.condP rfl (fun c41 => ?_) (fun c41 => ?_)
      · refine At.region ?_
        refine op_move (nxlf rfl) rfl rfl ?_
        refine op_move (nxlf rfl) rfl rfl ?_
        refine op_move (nxlf rfl) rfl rfl ?_
        refine op_addI (nxlf rfl) rfl rfl (by omega) (by omega) rfl ?_
        refine op_move (nxlf rfl) rfl rfl ?_
        refine op_addI (nxlf rfl) rfl rfl (by omega) (by omega) rfl ?_
        refine op_move (nxlf rfl) rfl rfl ?_
        refine op_addI (nxlf rfl) rfl rfl (by omega) (by omega) rfl ?_
        refine op_move (nxlf rfl) rfl rfl ?_
        refine op_lenS (nxlf rfl) se22 rfl rfl ?_
        refine op_minI (a := p + 1 + k) (b := n) (nxlf rfl) rfl rfl (by omega) (by omega) rfl ?_
        refine op_slice (nxlf rfl) se22 rfl (.some rfl (show _ = (((p + 1 : Nat)) : Int) from by omega)) (.some rfl (show _ = (((min (p + 1 + k) n : Nat)) : Int) from by omega)) .none (by omega) (by omega) (by omega) (by simp) rfl ?_
        have s53 := h.part8 (lo := p + 1) (hi := min (p + 1 + k) n) (m := cap) (by omega) (by omega) (by omega) (by omega)
        rw [cut_at (k := k) (by rw [hlen])] at s53
        refine op_callA (nxla rfl) (.cons rfl .nil) (FText_f s53 (by omega)) Tryd.func31 rfl rfl (by simp) rfl ?_
        rintro v54 L54 ⟨rfl, rfl⟩
        change At _ _ _ [Na, R] _
        have ht5 := hexT_len ((l.drop (p + 1)).take k); rw [List.length_take] at ht5
        refine op_addS (a := [32]) (nxlf rfl) rfl rfl (by (rw [List.length_singleton]; omega)) rfl ?_
        refine op_addS (nxlf rfl) rfl rfl (by (rw [List.length_append, List.length_append, List.length_append, List.length_singleton]; omega)) rfl ?_
        refine op_assign (nxlf rfl) rfl rfl ?_
        refine At.opsNil ?_
        rw [show Lib.decDigits p ++ [32] ++ nm ++ ([32] ++ hexT ((l.drop (p + 1)).take k)) = lineC f l p by rw [hline, if_neg (by omega)]]
        refine At.norm (jk_11 ?_ (.refl _) ⟨rfl, rfl, trivial⟩)
        exact .cons (by first | exact lkI rfl (by omega) | rfl) (.cons (by first | exact lkI rfl (by omega) | rfl) (.cons (by first | exact lkI rfl (by omega) | rfl) (.cons (by first | exact lkI rfl (by omega) | rfl) (.cons (by first | exact lkI rfl (by omega) | rfl) (.cons (by first | exact lkI rfl (by omega) | rfl) .nil)))))
      · refine At.skip ?_
        rw [show Lib.decDigits p ++ [32] ++ nm = lineC f l p by rw [hline, if_pos (by omega)]]
        refine At.norm (jk_11 ?_ (.refl _) ⟨rfl, rfl, trivial⟩)
        exact .cons (by first | exact lkI rfl (by omega) | rfl) (.cons (by first | exact lkI rfl (by omega) | rfl) (.cons (by first | exact lkI rfl (by omega) | rfl) (.cons (by first | exact lkI rfl (by omega) | rfl) (.cons (by first | exact lkI rfl (by omega) | rfl) (.cons (by first | exact lkI rfl (by omega) | rfl) .nil)))))
    rintro _ _ ⟨rfl, rfl, hu⟩
    refine hk_11 ?_
    refine At.seq fun K13 hk_13 => ?_
    refine At.region ?_
    refine op_move (nxlf rfl) rfl rfl ?_
    refine op_move (nxlf rfl) rfl rfl ?_
    refine op_lit (nxla rfl) Tryd.underlying31 ze9 sz9 (.cons rfl .nil) rfl rfl (by simp [Value.cells, str]) rfl rfl rfl (fun N59 a59 r59 => ?_)
    simp only [flatV, List.flatMap_cons, List.flatMap_nil, Value.cells, List.append_nil, List.cons_append, List.nil_append, str] at r59
    have s59 := r59.rsl
    change Row N59 _ 1 a59 1 1 [str (lineC f l p)] at r59
    have s59 := r59.rsl
    refine op_append (nxl rfl) Tryd.underlying31 Tryd.underlying31 te9 rfl rfl ra s59 (by first | exact mem0 | exact mem1 | exact mem2 | exact mem3 | exact mem4 | exact mem5 | exact mem6 | exact mem7 | exact mem8 | exact mem9) (by first | exact one_u8s _ | exact one_u64s _ | exact one_u32s _ | (intro u hu; simp at hu; subst hu; rfl)) (by omega) (by omega) sel1 rfl (fun N60 a60 p60 r60 => ?_)
    have s60 := r60.rsl
    have r60 : Row N60 9 1 a60 (dn + 1) p60 (strs (done ++ [lineC f l p])) := by
      rw [strs_app]
      exact r60
    refine op_assign (nxlf rfl) rfl rfl ?_
    refine At.opsNil ?_
    refine At.norm (hk_13 ?_)
    refine At.region ?_
    refine op_move (nxlf rfl) rfl rfl ?_
    refine op_move (nxlf rfl) rfl rfl ?_
    refine op_addI (nxlf rfl) rfl rfl (by omega) (by omega) rfl ?_
    refine op_addI (nxlf rfl) rfl rfl (by omega) (by omega) rfl ?_
    refine op_assign (nxlf rfl) rfl rfl ?_
    refine At.opsNil ?_
    refine At.inNorm ?_
    refine At.norm ?_
    refine At.sub (L' := [N60, R]) (.cons_cons _ (.cons _ (.cons_cons _ (.slnil)))) ?_
    refine At.back ?_ (.refl _) ⟨p + 1 + ownC f l p, done ++ [lineC f l p], a60, dn + 1, p60, N60, rfl, rfl, rfl, by omega, by rw [List.length_append, hdn]; rfl, by omega, by rw [List.append_assoc, List.singleton_append, ← listAt_on (by omega)]; exact hd, r60⟩ ?_
    · exact .cons (by first | exact lkI rfl (by omega) | rfl) (.cons (by first | exact lkI rfl (by omega) | rfl) (.cons (by first | exact lkI rfl (by omega) | rfl) (.cons (by first | exact lkI rfl (by omega) | rfl) .nil)))
    · omega
  · have hfin : done = listC f l := by rw [← hd, listAt_end (by omega), List.append_nil]
    refine At.exit (At.thenExit (At.thenExit (At.inHit ?_)))
    refine At.norm (hk_3 ?_)
    refine At.seq fun K14 hk_14 => ?_
    refine At.region ?_
    refine op_move (nxlf rfl) rfl rfl ?_
    refine op_assign (nxlf rfl) rfl rfl ?_
    refine At.opsNil ?_
    refine At.norm (hk_14 ?_)
    refine At.ret (?_)
    refine At.ret1 (L1 := [Na]) rfl (.tmp rfl .nil) (.refl _) (.refl _) ?_
    exact ⟨Na, a, c, by rw [← hfin, hdn], rfl, by rw [← hfin, ← hdn]; exact ra.rsl⟩
end
end Go.Proofs.YtdplcfineaikjaaDoor
/- The operation of a name; quarrylaw18.CodeNames answers true. Condition: the table of white space is laid. -/
namespace Go.Proofs.YtdplcfineaikjaaDoor
set_option linter.unusedVariables false
set_option linter.unusedSimpArgs false
open Go Go.RowKit
/-- The first operation from i on, of so many, with this name. -/
def namedF (f : Int) (s : List UInt8) : Nat → Nat → Nat × Bool
  | 0, _ => (0, false)
  | k + 1, i => if s ≠ [] ∧ nameC f (i : Int) = s then (i, true) else namedF f s k (i + 1)
def namedC (f : Int) (s : List UInt8) : Nat × Bool := namedF f s 256 0
theorem named_nil (f : Int) : ∀ k i, namedF f [] k i = (0, false) := by
  intro k
  induction k with
  | zero => intro i; rfl
  | succ k ih => intro i; rw [namedF, if_neg (fun h => h.1 rfl)]; exact ih _
theorem named_hit {f : Int} {s : List UInt8} {k i : Nat} (h0 : s ≠ []) (h : nameC f (i : Int) = s) (hi : i + (k + 1) = 256) : namedF f s (256 - i) i = (i, true) := by
  rw [show 256 - i = k + 1 by omega, namedF, if_pos ⟨h0, h⟩]
theorem named_on {f : Int} {s : List UInt8} {i : Nat} (hi : i < 256) (h : ¬ (s ≠ [] ∧ nameC f (i : Int) = s)) : namedF f s (256 - i) i = namedF f s (256 - (i + 1)) (i + 1) := by
  rw [show 256 - i = (256 - (i + 1)) + 1 by omega, namedF, if_neg h]
theorem pair_ne {α : Type} {R : α → α → Prop} (hs : ∀ a b, R a b → R b a) : ∀ {l : List α}, l.Pairwise R → ∀ {a b : α}, a ∈ l → b ∈ l → a ≠ b → R a b := by
  intro l
  induction l with
  | nil => intro _ a b ha; cases ha
  | cons x t ih =>
    intro h a b ha hb hne
    obtain ⟨h1, h2⟩ := List.pairwise_cons.1 h
    rcases List.mem_cons.1 ha with e | ha2
    · subst e
      rcases List.mem_cons.1 hb with e | hb2
      · exact absurd e.symm hne
      · exact h1 b hb2
    · rcases List.mem_cons.1 hb with e | hb2
      · subst e; exact hs _ _ (h1 a ha2)
      · exact ih h2 ha2 hb2 hne
theorem name_one {f : Int} {i n : Nat} (hn : opM f (n : Int) = true) (hnn : n < 256) (hin : isOp n = true) (h : nameC f (i : Int) = nameC f (n : Int)) : i = n := by
  have hsn : nameC f (n : Int) ≠ [] := by rw [nameC_y hn]; exact names_some _ n hnn hin
  cases hi : opM f (i : Int) with
  | false => rw [nameC_no hi] at h; exact absurd h.symm hsn
  | true =>
    obtain ⟨j, hj, hjn, hji⟩ := op_range hi
    obtain rfl : i = j := by omega
    rw [nameC_y hi, nameC_y hn] at h
    by_cases e : i = n
    · exact e
    · refine absurd h (pair_ne (R := fun a b => nameN (decide (13 ≤ f)) a ≠ nameN (decide (13 ≤ f)) b) (fun _ _ h => Ne.symm h) (List.pairwise_map.1 (names_once (decide (13 ≤ f)))) ?_ ?_ e)
      · exact List.mem_filter.2 ⟨List.mem_range.2 hjn, hji⟩
      · exact List.mem_filter.2 ⟨List.mem_range.2 hnn, hin⟩
theorem named_self {f : Int} {n : Nat} (hn : opM f (n : Int) = true) (hnn : n < 256) (hin : isOp n = true) : namedC f (nameC f (n : Int)) = (n, true) := by
  have hsn : nameC f (n : Int) ≠ [] := by rw [nameC_y hn]; exact names_some _ n hnn hin
  have key : ∀ d i, i + d = n → namedF f (nameC f (n : Int)) (256 - i) i = (n, true) := by
    intro d
    induction d with
    | zero => intro i hi; obtain rfl : i = n := by omega
              exact named_hit (k := 255 - i) hsn rfl (by omega)
    | succ d ih =>
      intro i hi
      rw [named_on (by omega) (fun h => by have := name_one hn hnn hin h.2; omega)]
      exact ih (i + 1) (by omega)
  exact key n 0 (by omega)
section
variable {N : Heaplet} {s : List UInt8}
set_option maxRecDepth 100000 in
theorem FNamed_f (hN : TabH N) (f : Int) (s : List UInt8) : Fn Tryd.prog 18 #[.int .i64 f, str s] [] [N] (fun v L => v = .tuple #[.int .i64 ((namedC f s).1 : Int), .bool (namedC f s).2] ∧ L = []) := by
  refine Fn.enter (vs := [.int .i64 f, str s]) Tryd.func18 rfl rfl rfl ?_
  intro E R hR
  have hN := hN.le (hR N (by simp))
  change At _ _ E [R] _
  refine At.seq fun K1 hk_1 => ?_
  refine At.region ?_
  refine op_assign (nxlf rfl) rfl rfl ?_
  refine op_assign (nxlf rfl) rfl rfl ?_
  refine At.opsNil ?_
  refine At.norm (hk_1 ?_)
  refine At.seq fun K2 hk_2 => ?_
  refine At.seq fun K3 hk_3 => ?_
  refine At.region ?_
  refine op_move (nxlf rfl) rfl rfl ?_
  refine At.opsNil ?_
  refine At.norm (hk_3 ?_)
  refine At.block ?_
  refine At.loop (fun fr_ hp_ ms_ => ∃ (i : Nat), fr_ = [(0, .int .i64 f), (1, str s), (7, .int .i64 (i : Int))] ∧ hp_ = [R] ∧ 256 - i = ms_ ∧ (i ≤ 256) ∧ (namedF f s (256 - i) i = namedC f s)) ?_ (.refl _) ⟨0, rfl, rfl, rfl, by decide, rfl⟩ ?_
  · exact .cons (by first | exact lkI rfl (by omega) | rfl) (.cons (by first | exact lkI rfl (by omega) | rfl) (.cons (by first | exact lkI rfl (by omega) | rfl) .nil))
  rintro _ _ _ ⟨i, rfl, rfl, rfl, hi, hno⟩
  refine At.seq fun K4 hk_4 => ?_
  refine At.region ?_
  refine op_lss (nxlf rfl) rfl rfl rfl ?_
  refine At.opsNil ?_
  refine At.norm (hk_4 ?_)
  refine At.seq fun K5 hk_5 => ?_
  refine At.condP rfl (fun c8 => ?_) (fun c8 => ?_)
  · refine At.skip ?_
    refine At.norm (hk_5 ?_)
    refine At.seq fun K6 hk_6 => ?_
    refine At.block ?_
    refine At.seq fun K7 hk_7 => ?_
    refine At.region ?_
    refine op_move (nxlf rfl) rfl rfl ?_
    refine op_assign (nxlf rfl) rfl rfl ?_
    refine At.opsNil ?_
    refine At.norm (hk_7 ?_)
    refine At.seq fun K8 hk_8 => ?_
    refine At.region ?_
    refine op_move (nxlf rfl) rfl rfl ?_
    refine op_neS (b := []) (nxlf rfl) rfl rfl rfl ?_
    refine op_move (nxlf rfl) rfl rfl ?_
    refine At.partP (d := 12) rfl (fun g12 => ?_) (fun g12 => ?_)
    · refine op_move (nxgf rfl rfl rfl rfl) rfl rfl ?_
      refine op_move (nxgf rfl rfl rfl rfl) rfl rfl ?_
      refine op_callA (nxga rfl rfl rfl rfl) (.cons rfl (.cons rfl .nil)) (FName_f hN f i) Tryd.func21 rfl rfl (by simp) rfl ?_
      rintro v15 L15 ⟨rfl, rfl⟩
      change At _ _ _ [R] _
      refine op_move (nxgf rfl rfl rfl rfl) rfl rfl ?_
      refine op_eqS (nxgf rfl rfl rfl rfl) rfl rfl rfl ?_
      refine op_pickT (nxlf rfl) rfl rfl rfl ?_
      refine At.opsNil ?_
      refine At.norm (hk_8 ?_)
      refine At.condP rfl (fun c18 => ?_) (fun c18 => ?_)
      · refine At.seq fun K9 hk_9 => ?_
        refine At.region ?_
        refine op_move (nxlf rfl) rfl rfl ?_
        refine op_assign (nxlf rfl) rfl rfl ?_
        refine op_assign (nxlf rfl) rfl rfl ?_
        refine At.opsNil ?_
        refine At.norm (hk_9 ?_)
        refine At.ret (At.inRet (At.thenRet (At.thenRet (At.inRet (At.thenRet (?_))))))
        refine At.retN (L1 := []) rfl (.tmp rfl (.tmp rfl .nil)) rfl (.refl _) (.refl _) ?_
        exact ⟨by rw [← hno, named_hit (k := 255 - i) g12 c18 (by omega)], rfl⟩
      · refine At.skip ?_
        refine At.inNorm ?_
        refine At.norm (hk_6 ?_)
        refine At.region ?_
        refine op_addI (nxlf rfl) rfl rfl (by omega) (by omega) rfl ?_
        refine op_move (nxlf rfl) rfl rfl ?_
        refine At.opsNil ?_
        refine At.norm ?_
        refine At.back ?_ (.refl _) ⟨i + 1, rfl, rfl, rfl, by omega, by
          rw [← named_on (by omega) (fun h => by first | exact g12 h.1 | exact c18 h.2)]; exact hno⟩ ?_
        · exact .cons (by first | exact lkI rfl (by omega) | rfl) (.cons (by first | exact lkI rfl (by omega) | rfl) (.cons (by first | exact lkI rfl (by omega) | rfl) .nil))
        · omega
    · refine op_skip rfl rfl rfl rfl rfl rfl rfl ?_
      refine op_skip rfl rfl rfl rfl rfl rfl rfl ?_
      refine op_skip rfl rfl rfl rfl rfl rfl rfl ?_
      refine op_skip rfl rfl rfl rfl rfl rfl rfl ?_
      refine op_skip rfl rfl rfl rfl rfl rfl rfl ?_
      refine op_pickF (nxlf rfl) rfl rfl rfl ?_
      refine At.opsNil ?_
      refine At.norm (hk_8 ?_)
      refine At.condF rfl ?_
      refine At.skip ?_
      refine At.inNorm ?_
      refine At.norm (hk_6 ?_)
      refine At.region ?_
      refine op_addI (nxlf rfl) rfl rfl (by omega) (by omega) rfl ?_
      refine op_move (nxlf rfl) rfl rfl ?_
      refine At.opsNil ?_
      refine At.norm ?_
      refine At.back ?_ (.refl _) ⟨i + 1, rfl, rfl, rfl, by omega, by
        rw [← named_on (by omega) (fun h => by first | exact g12 h.1 | exact c18 h.2)]; exact hno⟩ ?_
      · exact .cons (by first | exact lkI rfl (by omega) | rfl) (.cons (by first | exact lkI rfl (by omega) | rfl) (.cons (by first | exact lkI rfl (by omega) | rfl) .nil))
      · omega
  · refine At.exit (At.thenExit (At.thenExit (At.inHit ?_)))
    refine At.norm (hk_2 ?_)
    refine At.seq fun K10 hk_10 => ?_
    refine At.region ?_
    refine op_assign (nxlf rfl) rfl rfl ?_
    refine op_assign (nxlf rfl) rfl rfl ?_
    refine At.opsNil ?_
    refine At.norm (hk_10 ?_)
    refine At.ret (?_)
    refine At.retN (L1 := []) rfl (.tmp rfl (.tmp rfl .nil)) rfl (.refl _) (.refl _) ?_
    exact ⟨by rw [← hno, show 256 - i = 0 by omega]; rfl, rfl⟩
set_option maxRecDepth 100000 in
theorem rNamed_f (f : Int) (s : List UInt8) : Fn Tryd.prog 19 #[.int .i64 f, str s] [] [] (fun v L => v = .tuple #[.int .i64 ((namedC f s).1 : Int), .bool (namedC f s).2] ∧ L = []) := by
  refine Fn.enter (vs := [.int .i64 f, str s]) Tryd.func19 rfl rfl rfl ?_
  intro E R hR
  change At _ _ E [R] _
  refine At.seq fun K1 hk_1 => ?_
  refine At.region ?_
  refine op_assign (nxlf rfl) rfl rfl ?_
  refine op_assign (nxlf rfl) rfl rfl ?_
  refine At.opsNil ?_
  refine At.norm (hk_1 ?_)
  refine At.seq fun K2 hk_2 => ?_
  refine At.seq fun K3 hk_3 => ?_
  refine At.region ?_
  refine op_assign (nxlf rfl) rfl rfl ?_
  refine At.opsNil ?_
  refine At.norm (hk_3 ?_)
  refine At.block ?_
  refine At.loop (fun fr_ hp_ ms_ => ∃ (i : Nat), fr_ = [(0, .int .i64 f), (1, str s), (6, .int .i64 (i : Int))] ∧ hp_ = [R] ∧ 256 - i = ms_ ∧ (i ≤ 256) ∧ (namedF f s (256 - i) i = namedC f s)) ?_ (.refl _) ⟨0, rfl, rfl, rfl, by decide, rfl⟩ ?_
  · exact .cons (by first | exact lkI rfl (by omega) | rfl) (.cons (by first | exact lkI rfl (by omega) | rfl) (.cons (by first | exact lkI rfl (by omega) | rfl) .nil))
  rintro _ _ _ ⟨i, rfl, rfl, rfl, hi, hno⟩
  refine At.seq fun K4 hk_4 => ?_
  refine At.seq fun K5 hk_5 => ?_
  refine At.region ?_
  refine op_move (nxlf rfl) rfl rfl ?_
  refine op_lss (nxlf rfl) rfl rfl rfl ?_
  refine op_move (nxlf rfl) rfl rfl ?_
  refine At.partP (d := 9) rfl (fun g9 => ?_) (fun g9 => ?_)
  · refine op_move (nxgf rfl rfl rfl rfl) rfl rfl ?_
    refine op_neS (b := []) (nxgf rfl rfl rfl rfl) rfl rfl rfl ?_
    refine op_pickT (nxlf rfl) rfl rfl rfl ?_
    refine At.opsNil ?_
    refine At.norm (hk_5 ?_)
    refine At.condP rfl (fun c12 => ?_) (fun c12 => ?_)
    · refine At.skip ?_
      refine At.norm (hk_4 ?_)
      refine At.seq fun K6 hk_6 => ?_
      refine At.block ?_
      refine At.seq fun K7 hk_7 => ?_
      refine At.region ?_
      refine op_move (nxlf rfl) rfl rfl ?_
      refine op_move (nxlf rfl) rfl rfl ?_
      refine op_callA (nxla rfl) (.cons rfl (.cons rfl .nil)) (rName_f f i) Tryd.func34 rfl rfl (by simp) rfl ?_
      rintro v17 L17 ⟨rfl, rfl⟩
      change At _ _ _ [R] _
      refine op_move (nxlf rfl) rfl rfl ?_
      refine op_eqS (nxlf rfl) rfl rfl rfl ?_
      refine At.opsNil ?_
      refine At.norm (hk_7 ?_)
      refine At.condP rfl (fun c19 => ?_) (fun c19 => ?_)
      · refine At.seq fun K8 hk_8 => ?_
        refine At.region ?_
        refine op_move (nxlf rfl) rfl rfl ?_
        refine op_assign (nxlf rfl) rfl rfl ?_
        refine op_assign (nxlf rfl) rfl rfl ?_
        refine At.opsNil ?_
        refine At.norm (hk_8 ?_)
        refine At.ret (At.inRet (At.thenRet (At.thenRet (At.inRet (At.thenRet (?_))))))
        refine At.retN (L1 := []) rfl (.tmp rfl (.tmp rfl .nil)) rfl (.refl _) (.refl _) ?_
        exact ⟨by rw [← hno, named_hit (k := 255 - i) c12 c19 (by omega)], rfl⟩
      · refine At.skip ?_
        refine At.inNorm ?_
        refine At.norm (hk_6 ?_)
        refine At.region ?_
        refine op_move (nxlf rfl) rfl rfl ?_
        refine op_addI (nxlf rfl) rfl rfl (by omega) (by omega) rfl ?_
        refine op_assign (nxlf rfl) rfl rfl ?_
        refine At.opsNil ?_
        refine At.norm ?_
        refine At.back ?_ (.refl _) ⟨i + 1, rfl, rfl, rfl, by omega, by
          rw [← named_on (by omega) (fun h => c19 h.2)]; exact hno⟩ ?_
        · exact .cons (by first | exact lkI rfl (by omega) | rfl) (.cons (by first | exact lkI rfl (by omega) | rfl) (.cons (by first | exact lkI rfl (by omega) | rfl) .nil))
        · omega
    · refine At.exit (At.thenExit (At.thenExit (At.inHit ?_)))
      refine At.norm (hk_2 ?_)
      refine At.seq fun K9 hk_9 => ?_
      refine At.region ?_
      refine op_assign (nxlf rfl) rfl rfl ?_
      refine op_assign (nxlf rfl) rfl rfl ?_
      refine At.opsNil ?_
      refine At.norm (hk_9 ?_)
      refine At.ret (?_)
      refine At.retN (L1 := []) rfl (.tmp rfl (.tmp rfl .nil)) rfl (.refl _) (.refl _) ?_
      first
        | exact ⟨by rw [← hno, show 256 - i = 0 by omega]; rfl, rfl⟩
        | (have hs0 : s = [] := by
             by_cases e : s = []
             · exact e
             · exact absurd e c12
           subst hs0
           exact ⟨by rw [namedC, named_nil]; rfl, rfl⟩)
  · refine op_skip rfl rfl rfl rfl rfl rfl rfl ?_
    refine op_skip rfl rfl rfl rfl rfl rfl rfl ?_
    refine op_pickF (nxlf rfl) rfl rfl rfl ?_
    refine At.opsNil ?_
    refine At.norm (hk_5 ?_)
    refine At.condF rfl ?_
    refine At.exit (At.thenExit (At.thenExit (At.inHit ?_)))
    refine At.norm (hk_2 ?_)
    refine At.seq fun K10 hk_10 => ?_
    refine At.region ?_
    refine op_assign (nxlf rfl) rfl rfl ?_
    refine op_assign (nxlf rfl) rfl rfl ?_
    refine At.opsNil ?_
    refine At.norm (hk_10 ?_)
    refine At.ret (?_)
    refine At.retN (L1 := []) rfl (.tmp rfl (.tmp rfl .nil)) rfl (.refl _) (.refl _) ?_
    first
      | exact ⟨by rw [← hno, show 256 - i = 0 by omega]; rfl, rfl⟩
      | (have hs0 : s = [] := by
           by_cases e : s = []
           · exact e
           · exact absurd e c12
         subst hs0
         exact ⟨by rw [namedC, named_nil]; rfl, rfl⟩)
set_option maxRecDepth 100000 in
set_option maxHeartbeats 4000000 in
theorem CodeNames_f (hN : TabH N) (f op : Int) (s : List UInt8) : Fn Tryd.prog 5 #[.int .i64 f, .int .i64 op, str s] [] [N] (fun v L => v = .bool true ∧ L = []) := by
  have hS : ∀ {M : Heaplet}, TabH M → Fn Tryd.prog 18 #[.int .i64 f, str (nameC f op)] [] [M] _ := fun hM => FNamed_f hM f (nameC f op)
  have hz : (namedC f (nameC f op)).2 = opM f op ∧ (opM f op = true → ((namedC f (nameC f op)).1 : Int) = op) := by
    cases h : opM f op with
    | false => rw [nameC_no h, namedC, named_nil]; exact ⟨rfl, fun e => by cases e⟩
    | true =>
      obtain ⟨n, rfl, hn, hi⟩ := op_range h
      rw [named_self h hn hi]
      exact ⟨rfl, fun _ => rfl⟩
  generalize namedC f (nameC f op) = z at hS hz
  obtain ⟨k, ok⟩ := z
  obtain ⟨hz1, hz2⟩ := hz
  have hz1 : ok = opM f op := hz1
  subst hz1
  have hz2 : opM f op = true → (k : Int) = op := hz2
  refine Fn.enter (vs := [.int .i64 f, .int .i64 op, str s]) Tryd.func5 rfl rfl rfl ?_
  intro E R hR
  have hN := hN.le (hR N (by simp))
  change At _ _ E [R] _
  refine At.seq fun K1 hk_1 => ?_
  refine At.region ?_
  refine op_assign (nxlf rfl) rfl rfl ?_
  refine At.opsNil ?_
  refine At.norm (hk_1 ?_)
  refine At.seq fun K2 hk_2 => ?_
  refine At.region ?_
  refine op_move (nxlf rfl) rfl rfl ?_
  refine op_move (nxlf rfl) rfl rfl ?_
  refine op_callA (nxla rfl) (.cons rfl (.cons rfl .nil)) (rRow_f f op) Tryd.func16 rfl rfl (by simp) rfl ?_
  rintro v26 L26 ⟨rfl, rfl⟩
  change At _ _ _ [R] _
  refine op_move (nxlf rfl) rfl rfl ?_
  refine op_extract (nxlf rfl) rfl rfl rfl ?_
  refine op_extract (nxlf rfl) rfl rfl rfl ?_
  refine op_extract (nxlf rfl) rfl rfl rfl ?_
  refine op_extract (nxlf rfl) rfl rfl rfl ?_
  refine op_assign (nxlf rfl) rfl rfl ?_
  refine op_assign (nxlf rfl) rfl rfl ?_
  refine op_assign (nxlf rfl) rfl rfl ?_
  refine op_assign (nxlf rfl) rfl rfl ?_
  refine At.opsNil ?_
  refine At.norm (hk_2 ?_)
  refine At.seq fun K3 hk_3 => ?_
  refine At.region ?_
  refine op_move (nxlf rfl) rfl rfl ?_
  refine op_move (nxlf rfl) rfl rfl ?_
  refine op_callA (nxla rfl) (.cons rfl (.cons rfl .nil)) (FPops_f f op) Tryd.func17 rfl rfl (by simp) rfl ?_
  rintro v34 L34 ⟨rfl, rfl⟩
  change At _ _ _ [R] _
  refine op_move (nxlf rfl) rfl rfl ?_
  refine op_extract (nxlf rfl) rfl rfl rfl ?_
  refine op_extract (nxlf rfl) rfl rfl rfl ?_
  refine op_extract (nxlf rfl) rfl rfl rfl ?_
  refine op_assign (nxlf rfl) rfl rfl ?_
  refine op_assign (nxlf rfl) rfl rfl ?_
  refine op_assign (nxlf rfl) rfl rfl ?_
  refine At.opsNil ?_
  refine At.norm (hk_3 ?_)
  refine At.seq fun K4 hk_4 => ?_
  refine At.region ?_
  refine op_move (nxlf rfl) rfl rfl ?_
  refine op_move (nxlf rfl) rfl rfl ?_
  refine op_callA (nxla rfl) (.cons rfl (.cons rfl .nil)) (FNamed_f hN f s) Tryd.func18 rfl rfl (by simp) rfl ?_
  rintro v41 L41 ⟨rfl, rfl⟩
  change At _ _ _ [R] _
  refine op_move (nxlf rfl) rfl rfl ?_
  refine op_extract (nxlf rfl) rfl rfl rfl ?_
  refine op_extract (nxlf rfl) rfl rfl rfl ?_
  refine op_assign (nxlf rfl) rfl rfl ?_
  refine op_assign (nxlf rfl) rfl rfl ?_
  refine At.opsNil ?_
  refine At.norm (hk_4 ?_)
  refine At.seq fun K5 hk_5 => ?_
  refine At.region ?_
  refine op_move (nxlf rfl) rfl rfl ?_
  refine op_move (nxlf rfl) rfl rfl ?_
  refine op_callA (nxla rfl) (.cons rfl (.cons rfl .nil)) (rNamed_f f s) Tryd.func19 rfl rfl (by simp) rfl ?_
  rintro v47 L47 ⟨rfl, rfl⟩
  change At _ _ _ [R] _
  refine op_move (nxlf rfl) rfl rfl ?_
  refine op_extract (nxlf rfl) rfl rfl rfl ?_
  refine op_extract (nxlf rfl) rfl rfl rfl ?_
  refine op_assign (nxlf rfl) rfl rfl ?_
  refine op_assign (nxlf rfl) rfl rfl ?_
  refine At.opsNil ?_
  refine At.norm (hk_5 ?_)
  refine At.seq fun K6 hk_6 => ?_
  refine At.region ?_
  refine op_move (nxlf rfl) rfl rfl ?_
  refine op_move (nxlf rfl) rfl rfl ?_
  refine op_callA (nxla rfl) (.cons rfl (.cons rfl .nil)) (rShape_f f op) Tryd.func20 rfl rfl (by simp) rfl ?_
  rintro v53 L53 ⟨rfl, rfl⟩
  change At _ _ _ [R] _
  refine op_move (nxlf rfl) rfl rfl ?_
  refine op_extract (nxlf rfl) rfl rfl rfl ?_
  refine op_extract (nxlf rfl) rfl rfl rfl ?_
  refine op_extract (nxlf rfl) rfl rfl rfl ?_
  refine op_assign (nxlf rfl) rfl rfl ?_
  refine op_assign (nxlf rfl) rfl rfl ?_
  refine op_assign (nxlf rfl) rfl rfl ?_
  refine At.opsNil ?_
  refine At.norm (hk_6 ?_)
  refine At.seq fun K7 hk_7 => ?_
  refine At.seq fun K8 hk_8 => ?_
  refine At.region ?_
  refine op_move (nxlf rfl) rfl rfl ?_
  refine op_move (nxlf rfl) rfl rfl ?_
  refine op_neq (nxlf rfl) rfl rfl rfl ?_
  refine op_move (nxlf rfl) rfl rfl ?_
  refine At.partP (d := 60) rfl (fun g60 => ?_) (fun g60 => ?_)
  · exact absurd rfl g60
  · refine op_move (nxgf rfl rfl rfl rfl) rfl rfl ?_
    refine op_move (nxgf rfl rfl rfl rfl) rfl rfl ?_
    refine op_neq (nxgf rfl rfl rfl rfl) rfl rfl rfl ?_
    refine op_pickF (nxlf rfl) rfl rfl rfl ?_
    refine op_move (nxlf rfl) rfl rfl ?_
    refine At.partP (d := 65) rfl (fun g65 => ?_) (fun g65 => ?_)
    · exact absurd rfl g65
    · refine op_move (nxgf rfl rfl rfl rfl) rfl rfl ?_
      refine op_move (nxgf rfl rfl rfl rfl) rfl rfl ?_
      refine op_neB (nxgf rfl rfl rfl rfl) Tryd.underlying4 rfl rfl rfl ?_
      rw [bne_self_eq_false]
      refine op_pickF (nxlf rfl) rfl rfl rfl ?_
      refine At.opsNil ?_
      refine At.norm (hk_8 ?_)
      refine At.condF rfl ?_
      refine At.skip ?_
      refine At.norm (hk_7 ?_)
      refine At.seq fun K9 hk_9 => ?_
      refine At.seq fun K10 hk_10 => ?_
      refine At.region ?_
      refine op_move (nxlf rfl) rfl rfl ?_
      refine op_move (nxlf rfl) rfl rfl ?_
      refine op_callA (nxla rfl) (.cons rfl (.cons rfl .nil)) (FName_f hN f op) Tryd.func21 rfl rfl (by simp) rfl ?_
      rintro v72 L72 ⟨rfl, rfl⟩
      change At _ _ _ [R] _
      refine op_move (nxlf rfl) rfl rfl ?_
      refine op_neS (nxlf rfl) rfl rfl rfl ?_
      refine op_move (nxlf rfl) rfl rfl ?_
      refine At.partP (d := 75) rfl (fun g75 => ?_) (fun g75 => ?_)
      · exact absurd rfl g75
      · refine op_move (nxgf rfl rfl rfl rfl) rfl rfl ?_
        refine op_move (nxgf rfl rfl rfl rfl) rfl rfl ?_
        refine op_neq (nxgf rfl rfl rfl rfl) rfl rfl rfl ?_
        refine op_pickF (nxlf rfl) rfl rfl rfl ?_
        refine op_move (nxlf rfl) rfl rfl ?_
        refine At.partP (d := 80) rfl (fun g80 => ?_) (fun g80 => ?_)
        · exact absurd rfl g80
        · refine op_move (nxgf rfl rfl rfl rfl) rfl rfl ?_
          refine op_move (nxgf rfl rfl rfl rfl) rfl rfl ?_
          refine op_neq (nxgf rfl rfl rfl rfl) rfl rfl rfl ?_
          refine op_pickF (nxlf rfl) rfl rfl rfl ?_
          refine op_move (nxlf rfl) rfl rfl ?_
          refine At.partP (d := 85) rfl (fun g85 => ?_) (fun g85 => ?_)
          · exact absurd rfl g85
          · refine op_move (nxgf rfl rfl rfl rfl) rfl rfl ?_
            refine op_move (nxgf rfl rfl rfl rfl) rfl rfl ?_
            refine op_neB (nxgf rfl rfl rfl rfl) Tryd.underlying4 rfl rfl rfl ?_
            rw [bne_self_eq_false]
            refine op_pickF (nxlf rfl) rfl rfl rfl ?_
            refine op_move (nxlf rfl) rfl rfl ?_
            refine op_move (nxgf rfl rfl rfl rfl) rfl rfl ?_
            refine op_move (nxgf rfl rfl rfl rfl) rfl rfl ?_
            refine op_neq (nxgf rfl rfl rfl rfl) rfl rfl rfl ?_
            refine op_pickF (nxlf rfl) rfl rfl rfl ?_
            refine op_move (nxlf rfl) rfl rfl ?_
            refine At.partP (d := 95) rfl (fun g95 => ?_) (fun g95 => ?_)
            · exact absurd rfl g95
            · refine op_move (nxgf rfl rfl rfl rfl) rfl rfl ?_
              refine op_move (nxgf rfl rfl rfl rfl) rfl rfl ?_
              refine op_neB (nxgf rfl rfl rfl rfl) Tryd.underlying4 rfl rfl rfl ?_
              rw [bne_self_eq_false]
              refine op_pickF (nxlf rfl) rfl rfl rfl ?_
              refine At.opsNil ?_
              refine At.norm (hk_10 ?_)
              refine At.condF rfl ?_
              refine At.skip ?_
              refine At.norm (hk_9 ?_)
              refine At.seq fun K11 hk_11 => ?_
              refine At.region ?_
              refine op_move (nxlf rfl) rfl rfl ?_
              refine op_move (nxlf rfl) rfl rfl ?_
              refine op_callA (nxla rfl) (.cons rfl (.cons rfl .nil)) (hS hN) Tryd.func18 rfl rfl (by simp) rfl ?_
              rintro v103 L103 ⟨rfl, rfl⟩
              change At _ _ _ [R] _
              refine op_move (nxlf rfl) rfl rfl ?_
              refine op_extract (nxlf rfl) rfl rfl rfl ?_
              refine op_extract (nxlf rfl) rfl rfl rfl ?_
              refine op_assign (nxlf rfl) rfl rfl ?_
              refine op_assign (nxlf rfl) rfl rfl ?_
              refine At.opsNil ?_
              refine At.norm (hk_11 ?_)
              refine At.seq fun K12 hk_12 => ?_
              refine At.region ?_
              refine op_move (nxlf rfl) rfl rfl ?_
              refine op_move (nxlf rfl) rfl rfl ?_
              refine op_eqB (nxlf rfl) Tryd.underlying4 rfl rfl rfl ?_
              rw [beq_self_eq_true]
              refine op_move (nxlf rfl) rfl rfl ?_
              refine op_move (nxgf rfl rfl rfl rfl) rfl rfl ?_
              refine op_not (nxgf rfl rfl rfl rfl) rfl rfl ?_
              refine op_move (nxgf rfl rfl rfl rfl) rfl rfl ?_
              refine At.part (d := 112) rfl (fun g112 => ?_) (fun g112 => ?_)
              · refine op_skip rfl rfl rfl rfl rfl rfl rfl ?_
                refine op_skip rfl rfl rfl rfl rfl rfl rfl ?_
                refine op_skip rfl rfl rfl rfl rfl rfl rfl ?_
                refine op_pickT (nxgf rfl rfl rfl rfl) rfl rfl rfl ?_
                refine op_pickT (nxlf rfl) rfl rfl rfl ?_
                refine op_move (nxlf rfl) rfl rfl ?_
                refine op_callA (nxga rfl rfl rfl rfl) .nil (Cwakes_f hN) Tryd.func13 rfl rfl (by simp) rfl ?_
                rintro v119 L119 ⟨rfl, rfl⟩
                change At _ _ _ [R] _
                refine op_pickT (nxlf rfl) rfl rfl rfl ?_
                refine op_assign (nxlf rfl) rfl rfl ?_
                refine At.opsNil ?_
                refine At.norm (hk_12 ?_)
                refine At.ret (?_)
                refine At.ret1 (L1 := []) rfl (.tmp rfl .nil) (.refl _) (.refl _) ?_
                exact ⟨rfl, rfl⟩
              · refine op_move (nxgf rfl rfl rfl rfl) rfl rfl ?_
                refine op_move (nxgf rfl rfl rfl rfl) rfl rfl ?_
                refine op_eql (nxgf rfl rfl rfl rfl) rfl rfl rfl ?_
                refine op_pickF (nxgf rfl rfl rfl rfl) rfl rfl rfl ?_
                refine op_pickT (nxlf rfl) rfl rfl rfl ?_
                refine op_move (nxlf rfl) rfl rfl ?_
                refine At.partP (d := 118) rfl (fun g118 => ?_) (fun g118 => ?_)
                · refine op_callA (nxga rfl rfl rfl rfl) .nil (Cwakes_f hN) Tryd.func13 rfl rfl (by simp) rfl ?_
                  rintro v119 L119 ⟨rfl, rfl⟩
                  change At _ _ _ [R] _
                  refine op_pickT (nxlf rfl) rfl rfl rfl ?_
                  refine op_assign (nxlf rfl) rfl rfl ?_
                  refine At.opsNil ?_
                  refine At.norm (hk_12 ?_)
                  refine At.ret (?_)
                  refine At.ret1 (L1 := []) rfl (.tmp rfl .nil) (.refl _) (.refl _) ?_
                  exact ⟨rfl, rfl⟩
                · exact absurd (hz2 (by cases h : opM f op with | false => rw [h] at g112; cases g112 | true => rfl)) g118
end
end Go.Proofs.YtdplcfineaikjaaDoor
/- The lines of a code and their pieces: plain laws. No condition. -/
namespace Go.Proofs.YtdplcfineaikjaaDoor
set_option linter.unusedVariables false
set_option linter.unusedSimpArgs false
open Go Go.RowKit
theorem dec_dig : ∀ (k u : Nat), u ≤ k → 0 < (Lib.decDigits u).length ∧ ∀ c ∈ Lib.decDigits u, 48 ≤ c.toNat ∧ c.toNat ≤ 57 := by
  intro k
  induction k with
  | zero =>
    intro u h
    obtain rfl : u = 0 := by omega
    rw [Lib.decDigits_one (by decide)]
    exact ⟨by decide, by decide⟩
  | succ k ih =>
    intro u h
    have hl : (UInt8.ofNat (48 + u % 10)).toNat = 48 + u % 10 := by rw [UInt8.toNat_ofNat']; omega
    have h9 : u % 10 < 10 := Nat.mod_lt _ (by decide)
    by_cases h10 : u < 10
    · rw [Lib.decDigits_one h10]
      refine ⟨by simp, fun c hc => ?_⟩
      obtain rfl := List.mem_singleton.1 hc
      rw [UInt8.toNat_ofNat']; omega
    · rw [Lib.decDigits, dif_neg h10]
      obtain ⟨_, h2⟩ := ih (u / 10) (by omega)
      refine ⟨by rw [List.length_append]; simp, fun c hc => ?_⟩
      rcases List.mem_append.1 hc with hc | hc
      · exact h2 c hc
      · obtain rfl := List.mem_singleton.1 hc
        omega
theorem ok_dec (u : Nat) : okW (Lib.decDigits u) := by
  obtain ⟨h1, h2⟩ := dec_dig u u (Nat.le_refl _)
  exact ⟨h1, fun b hb => by have := h2 b hb; omega⟩
theorem hexD_pr : ∀ n < 16, 48 ≤ (hexD.getD n 0).toNat ∧ (hexD.getD n 0).toNat ≤ 102 := by decide
theorem ok_hexT (l : List UInt8) : okW (hexT l) := by
  refine ⟨by rw [hexT_len]; omega, fun b hb => ?_⟩
  rcases List.mem_cons.1 hb with rfl | hb
  · decide
  rcases List.mem_cons.1 hb with rfl | hb
  · decide
  obtain ⟨c, _, hc⟩ := List.mem_flatMap.1 hb
  have hlt := c.toNat_lt
  unfold hexB at hc
  rcases List.mem_cons.1 hc with rfl | hc
  · have := hexD_pr (c.toNat / 16) (by omega); omega
  · obtain rfl := List.mem_singleton.1 hc
    have := hexD_pr (c.toNat % 16) (by omega); omega
theorem nameN_ok (late : Bool) : ∀ n, n < 256 → (nameN late n).all (fun b => decide (33 ≤ b.toNat) && decide (b.toNat < 127)) = true := by cases late <;> decide +kernel
theorem ok_name {f : Int} {n : Nat} (h : opM f (n : Int) = true) (hn : n < 256) (hin : isOp n = true) : okW (nameC f (n : Int)) := by
  rw [nameC_y h]
  refine ⟨List.length_pos_iff.2 (names_some _ n hn hin), fun b hb => ?_⟩
  have := List.all_eq_true.1 (nameN_ok (decide (13 ≤ f)) n hn) b hb
  simpa using this
def wINV7 : List UInt8 := [73, 78, 86, 65, 76, 73, 68]
theorem nameN_inv (late : Bool) : ∀ n, n < 256 → nameN late n ≠ wINV7 := by cases late <;> decide +kernel
theorem name_inv {f : Int} {n : Nat} (h : opM f (n : Int) = true) (hn : n < 256) : nameC f (n : Int) ≠ wINV7 := by rw [nameC_y h]; exact nameN_inv _ n hn
theorem ok_inv : okW wINV7 := ⟨by decide, by decide⟩
/-- The pieces of the line at a place. -/
def pieC (f : Int) (l : List UInt8) (p : Nat) : List (List UInt8) :=
  if nameC f ((l.getD p 0).toNat : Int) = [] then [Lib.decDigits p, wINV7, hexT [l.getD p 0]]
  else if ownB (l.getD p 0) = 0 then [Lib.decDigits p, nameC f ((l.getD p 0).toNat : Int)]
  else [Lib.decDigits p, nameC f ((l.getD p 0).toNat : Int), hexT ((l.drop (p + 1)).take (ownB (l.getD p 0)))]
theorem op_of_name {f : Int} {b : UInt8} (h : nameC f (b.toNat : Int) ≠ []) : opM f (b.toNat : Int) = true ∧ isOp b.toNat = true := by
  cases e : opM f (b.toNat : Int) with
  | false => exact absurd (nameC_no e) h
  | true =>
    obtain ⟨j, hj, hjn, hji⟩ := op_range e
    obtain rfl : b.toNat = j := by omega
    exact ⟨rfl, hji⟩
theorem no_op_of_name {f : Int} {b : UInt8} (h : nameC f (b.toNat : Int) = []) : opM f (b.toNat : Int) = false := by
  cases e : opM f (b.toNat : Int) with
  | false => rfl
  | true =>
    obtain ⟨j, hj, hjn, hji⟩ := op_range e
    obtain rfl : b.toNat = j := by omega
    have hb := b.toNat_lt
    rw [nameC_y e] at h
    exact absurd h (names_some _ _ hjn hji)
theorem fields_line (f : Int) (l : List UInt8) (p : Nat) : fieldsB (lineC f l p) = pieC f l p := by
  have hb := (l.getD p 0).toNat_lt
  unfold lineC pieC
  by_cases h0 : nameC f ((l.getD p 0).toNat : Int) = []
  · rw [if_pos h0, if_pos h0]
    have := fields_three (ok_dec p) ok_inv (ok_hexT [l.getD p 0])
    rw [← this]
    congr 1
    simp [wINV, wINV7]
  · obtain ⟨h1, h2⟩ := op_of_name h0
    rw [if_neg h0, if_neg h0]
    by_cases h3 : ownB (l.getD p 0) = 0
    · rw [if_pos h3, if_pos h3]
      exact fields_two (ok_dec p) (ok_name h1 hb h2)
    · rw [if_neg h3, if_neg h3]
      have := fields_three (ok_dec p) (ok_name h1 hb h2) (ok_hexT ((l.drop (p + 1)).take (ownB (l.getD p 0))))
      rw [← this]
      congr 1
      simp
theorem okW_feed {w : List UInt8} (h : okW w) : (10 : UInt8) ∉ w := fun e => by have := h.2 _ e; exact absurd this.1 (by decide)
theorem line_feed (f : Int) (l : List UInt8) (p : Nat) : (10 : UInt8) ∉ lineC f l p := by
  have hb := (l.getD p 0).toNat_lt
  have k1 := okW_feed (ok_dec p)
  have k2 := okW_feed (ok_hexT [l.getD p 0])
  have k3 := okW_feed (ok_hexT ((l.drop (p + 1)).take (ownB (l.getD p 0))))
  have k4 : (10 : UInt8) ∉ nameC f ((l.getD p 0).toNat : Int) := by
    by_cases h0 : nameC f ((l.getD p 0).toNat : Int) = []
    · rw [h0]; simp
    · obtain ⟨h1, h2⟩ := op_of_name h0
      exact okW_feed (ok_name h1 hb h2)
  have k5 : (10 : UInt8) ∉ wINV := by decide
  have k6 : (10 : UInt8) ∉ ([32] : List UInt8) := by decide
  unfold lineC
  intro e
  split at e
  · simp only [List.mem_append] at e
    rcases e with (e | e) | e | e
    · exact k1 e
    · exact k6 e
    · exact k5 e
    · exact k2 e
  · split at e
    · simp only [List.mem_append] at e
      rcases e with (e | e) | e
      · exact k1 e
      · exact k6 e
      · exact k4 e
    · simp only [List.mem_append] at e
      rcases e with ((e | e) | e) | e | e
      · exact k1 e
      · exact k6 e
      · exact k4 e
      · exact k6 e
      · exact k3 e
theorem listF_feed (f : Int) : ∀ (k : Nat) (l : List UInt8) (p : Nat), ∀ x ∈ listF f k l p, (10 : UInt8) ∉ x := by
  intro k
  induction k with
  | zero => intro l p x hx; cases hx
  | succ k ih =>
    intro l p x hx
    rw [listF] at hx
    split at hx
    · rcases List.mem_cons.1 hx with rfl | hx
      · exact line_feed f l p
      · exact ih _ _ x hx
    · cases hx
theorem dec_pow : ∀ (k u : Nat), u < 10 ^ (k + 1) → (Lib.decDigits u).length ≤ k + 1 := by
  intro k
  induction k with
  | zero => intro u h; rw [Lib.decDigits_one (by simpa using h)]; exact Nat.le_refl _
  | succ k ih =>
    intro u h
    by_cases h10 : u < 10
    · rw [Lib.decDigits_one h10]; show 1 ≤ _; omega
    · rw [Lib.decDigits, dif_neg h10, List.length_append, List.length_singleton]
      have := ih (u / 10) (by rw [Nat.pow_succ] at h; omega)
      omega
theorem line_le (f : Int) (l : List UInt8) (p : Nat) (hp : p < 1000000) : (lineC f l p).length ≤ 120 := by
  have h1 : (Lib.decDigits p).length ≤ 20 := by
    have := dec_pow 5 p (by omega)
    omega
  have h2 := nameC_len f ((l.getD p 0).toNat : Int)
  have h3 := hexT_len [l.getD p 0]
  have h4 := hexT_len ((l.drop (p + 1)).take (ownB (l.getD p 0)))
  have h5 := ownB_le (l.getD p 0)
  have h6 : ((l.drop (p + 1)).take (ownB (l.getD p 0))).length ≤ ownB (l.getD p 0) := by rw [List.length_take]; omega
  have h7 : wINV.length = 8 := rfl
  rw [List.length_singleton] at h3
  unfold lineC
  split
  · simp only [List.length_append, List.length_singleton]; omega
  · split
    · simp only [List.length_append, List.length_singleton]; omega
    · simp only [List.length_append, List.length_singleton]; omega
theorem listF_le (f : Int) : ∀ (k : Nat) (l : List UInt8) (p : Nat), l.length ≤ 3000 → ∀ x ∈ listF f k l p, x.length ≤ 120 := by
  intro k
  induction k with
  | zero => intro l p _ x hx; cases hx
  | succ k ih =>
    intro l p hl x hx
    rw [listF] at hx
    split at hx
    · rcases List.mem_cons.1 hx with rfl | hx
      · exact line_le f l p (by omega)
      · exact ih _ _ hl x hx
    · cases hx
/-- What the line at a place says: its bytes, and how many are missing. -/
def codeC (f : Int) (l : List UInt8) (p : Nat) : List UInt8 := (l.drop p).take (1 + ownC f l p)
end Go.Proofs.YtdplcfineaikjaaDoor
/- Contracts of Go's library at this program, in plain words (written by the kit's tool lay-plain). No condition. -/
namespace Go.Proofs
set_option linter.unusedVariables false
set_option linter.unusedSimpArgs false
open Go.Shelf
def Tryd.lays143_ren : Go.Shelf.Ren := ⟨fun | 143 => 65 | 219 => 79 | 217 => 87 | 225 => 88 | 224 => 89 | 267 => 90 | 266 => 95 | 314 => 96 | n => n, fun | 9 => 9 | 3 => 3 | 4 => 4 | 5 => 5 | 46 => 69 | 146 => 137 | 51 => 92 | n => n, fun | 1 => 3 | n => n⟩
theorem Tryd.lays143 : Go.Proofs.Lays.n143 Tryd.prog Tryd.lays143_ren := {
  mixed := by kernel_rfl
  f143 := Tryd.func65.trans (congrArg some (by kernel_rfl))
  f217 := Tryd.func87.trans (congrArg some (by kernel_rfl))
  f219 := Tryd.func79.trans (congrArg some (by kernel_rfl))
  f224 := Tryd.func89.trans (congrArg some (by kernel_rfl))
  f225 := Tryd.func88.trans (congrArg some (by kernel_rfl))
  f266 := Tryd.func95.trans (congrArg some (by kernel_rfl))
  f267 := Tryd.func90.trans (congrArg some (by kernel_rfl))
  f314 := Tryd.func96.trans (congrArg some (by kernel_rfl))
  t3 := Tryd.underlying3
  a3 := Tryd.isAgg3
  z3 := Tryd.sizeOf3
  v3 := Tryd.zeroValue3
  t4 := Tryd.underlying4
  a4 := Tryd.isAgg4
  z4 := Tryd.sizeOf4
  v4 := Tryd.zeroValue4
  t5 := Tryd.underlying5
  a5 := Tryd.isAgg5
  z5 := Tryd.sizeOf5
  v5 := Tryd.zeroValue5
  t9 := Tryd.underlying9
  a9 := Tryd.isAgg9
  z9 := Tryd.sizeOf9
  v9 := Tryd.zeroValue9
  t46 := Tryd.underlying69
  a46 := Tryd.isAgg69
  z46 := Tryd.sizeOf69
  v46 := Tryd.zeroValue69
  t51 := Tryd.underlying92
  a51 := Tryd.isAgg92
  z51 := Tryd.sizeOf92
  v51 := Tryd.zeroValue92
  t146 := Tryd.underlying137
  a146 := Tryd.isAgg137
  z146 := Tryd.sizeOf137
  v146 := Tryd.zeroValue137
  g1 := by kernel_rfl }
open Go.RowKit Go.Lib in
theorem Tryd.strings_Index_one (s : ByteArray) (c : UInt8) (w : World) :
    Calls Tryd.prog 65 #[.string s, .string ⟨#[c]⟩] w fun e w' => e = .returned (.int .i64 (Lib.indexByte s.data.toList c)) ∧ w' = w := Any.strings_Index_one Tryd.lays143 s c w
def Tryd.lays138_ren : Go.Shelf.Ren := ⟨fun | 138 => 64 | 195 => 76 | 218 => 78 | 143 => 65 | 219 => 79 | 217 => 87 | 225 => 88 | 224 => 89 | 267 => 90 | 266 => 95 | 314 => 96 | n => n, fun | 9 => 9 | 3 => 3 | 4 => 4 | 5 => 5 | 0 => 0 | 46 => 69 | 146 => 137 | 51 => 92 | n => n, fun | 1 => 3 | n => n⟩
theorem Tryd.lays138 : Go.Proofs.Lays.n138 Tryd.prog Tryd.lays138_ren := {
  mixed := by kernel_rfl
  f138 := Tryd.func64.trans (congrArg some (by kernel_rfl))
  f143 := Tryd.func65.trans (congrArg some (by kernel_rfl))
  f195 := Tryd.func76.trans (congrArg some (by kernel_rfl))
  f217 := Tryd.func87.trans (congrArg some (by kernel_rfl))
  f218 := Tryd.func78.trans (congrArg some (by kernel_rfl))
  f219 := Tryd.func79.trans (congrArg some (by kernel_rfl))
  f224 := Tryd.func89.trans (congrArg some (by kernel_rfl))
  f225 := Tryd.func88.trans (congrArg some (by kernel_rfl))
  f266 := Tryd.func95.trans (congrArg some (by kernel_rfl))
  f267 := Tryd.func90.trans (congrArg some (by kernel_rfl))
  f314 := Tryd.func96.trans (congrArg some (by kernel_rfl))
  t0 := Tryd.underlying0
  a0 := Tryd.isAgg0
  z0 := Tryd.sizeOf0
  v0 := Tryd.zeroValue0
  t3 := Tryd.underlying3
  a3 := Tryd.isAgg3
  z3 := Tryd.sizeOf3
  v3 := Tryd.zeroValue3
  t4 := Tryd.underlying4
  a4 := Tryd.isAgg4
  z4 := Tryd.sizeOf4
  v4 := Tryd.zeroValue4
  t5 := Tryd.underlying5
  a5 := Tryd.isAgg5
  z5 := Tryd.sizeOf5
  v5 := Tryd.zeroValue5
  t9 := Tryd.underlying9
  a9 := Tryd.isAgg9
  z9 := Tryd.sizeOf9
  v9 := Tryd.zeroValue9
  t46 := Tryd.underlying69
  a46 := Tryd.isAgg69
  z46 := Tryd.sizeOf69
  v46 := Tryd.zeroValue69
  t51 := Tryd.underlying92
  a51 := Tryd.isAgg92
  z51 := Tryd.sizeOf92
  v51 := Tryd.zeroValue92
  t146 := Tryd.underlying137
  a146 := Tryd.isAgg137
  z146 := Tryd.sizeOf137
  v146 := Tryd.zeroValue137
  g1 := by kernel_rfl }
open Go.RowKit Go.Lib in
theorem Tryd.strings_Count_one (s : ByteArray) (c : UInt8) (w : World) :
    Calls Tryd.prog 64 #[.string s, .string ⟨#[c]⟩] w fun e w' => e = .returned (.int .i64 (Lib.countByte s.data.toList c)) ∧ w' = w := Any.strings_Count_one Tryd.lays138 s c w
def Tryd.lays221_ren : Go.Shelf.Ren := ⟨fun | 221 => 55 | 268 => 63 | 138 => 64 | 143 => 65 | 195 => 76 | 197 => 77 | 218 => 78 | 219 => 79 | 260 => 86 | 217 => 87 | 225 => 88 | 224 => 89 | 267 => 90 | 266 => 95 | 314 => 96 | n => n, fun | 9 => 9 | 3 => 3 | 31 => 31 | 4 => 4 | 0 => 0 | 105 => 120 | 21 => 21 | 5 => 5 | 46 => 69 | 119 => 81 | 139 => 136 | 138 => 135 | 146 => 137 | 51 => 92 | n => n, fun | 1 => 3 | 3 => 4 | 4 => 5 | n => n⟩
theorem Tryd.lays221 : Go.Proofs.Lays.n221 Tryd.prog Tryd.lays221_ren := {
  mixed := by kernel_rfl
  f138 := Tryd.func64.trans (congrArg some (by kernel_rfl))
  f143 := Tryd.func65.trans (congrArg some (by kernel_rfl))
  f195 := Tryd.func76.trans (congrArg some (by kernel_rfl))
  f197 := Tryd.func77.trans (congrArg some (by kernel_rfl))
  f217 := Tryd.func87.trans (congrArg some (by kernel_rfl))
  f218 := Tryd.func78.trans (congrArg some (by kernel_rfl))
  f219 := Tryd.func79.trans (congrArg some (by kernel_rfl))
  f221 := Tryd.func55.trans (congrArg some (by kernel_rfl))
  f224 := Tryd.func89.trans (congrArg some (by kernel_rfl))
  f225 := Tryd.func88.trans (congrArg some (by kernel_rfl))
  f260 := Tryd.func86.trans (congrArg some (by kernel_rfl))
  f266 := Tryd.func95.trans (congrArg some (by kernel_rfl))
  f267 := Tryd.func90.trans (congrArg some (by kernel_rfl))
  f268 := Tryd.func63.trans (congrArg some (by kernel_rfl))
  f314 := Tryd.func96.trans (congrArg some (by kernel_rfl))
  t0 := Tryd.underlying0
  a0 := Tryd.isAgg0
  z0 := Tryd.sizeOf0
  v0 := Tryd.zeroValue0
  t3 := Tryd.underlying3
  a3 := Tryd.isAgg3
  z3 := Tryd.sizeOf3
  v3 := Tryd.zeroValue3
  t4 := Tryd.underlying4
  a4 := Tryd.isAgg4
  z4 := Tryd.sizeOf4
  v4 := Tryd.zeroValue4
  t5 := Tryd.underlying5
  a5 := Tryd.isAgg5
  z5 := Tryd.sizeOf5
  v5 := Tryd.zeroValue5
  t9 := Tryd.underlying9
  a9 := Tryd.isAgg9
  z9 := Tryd.sizeOf9
  v9 := Tryd.zeroValue9
  t21 := Tryd.underlying21
  a21 := Tryd.isAgg21
  z21 := Tryd.sizeOf21
  v21 := Tryd.zeroValue21
  t31 := Tryd.underlying31
  a31 := Tryd.isAgg31
  z31 := Tryd.sizeOf31
  v31 := Tryd.zeroValue31
  t46 := Tryd.underlying69
  a46 := Tryd.isAgg69
  z46 := Tryd.sizeOf69
  v46 := Tryd.zeroValue69
  t51 := Tryd.underlying92
  a51 := Tryd.isAgg92
  z51 := Tryd.sizeOf92
  v51 := Tryd.zeroValue92
  t105 := Tryd.underlying120
  a105 := Tryd.isAgg120
  z105 := Tryd.sizeOf120
  v105 := Tryd.zeroValue120
  t119 := Tryd.underlying81
  a119 := Tryd.isAgg81
  z119 := Tryd.sizeOf81
  t138 := Tryd.underlying135
  a138 := Tryd.isAgg135
  z138 := Tryd.sizeOf135
  v138 := Tryd.zeroValue135
  t139 := Tryd.underlying136
  a139 := Tryd.isAgg136
  z139 := Tryd.sizeOf136
  v139 := Tryd.zeroValue136
  t146 := Tryd.underlying137
  a146 := Tryd.isAgg137
  z146 := Tryd.sizeOf137
  v146 := Tryd.zeroValue137
  g1 := by kernel_rfl
  g3 := by kernel_rfl
  g4 := by kernel_rfl }
open Go.RowKit Go.Lib in
theorem Tryd.strings_genSplit (s sep : ByteArray) (sv : Nat) (n : Int) (N : Nat) (m : Int) (w : World) (hs : s.size < 4294967281) (hm : w.cell? ⟨3, 0, none⟩ = some (.int .i64 m)) (h1 : 1 ≤ sep.size) (hsv : sv ≤ sep.size) (hn0 : n ≠ 0) (hn63 : n ≤ 9223372036854775807) (hN : (N : Int) = min (if n < 0 then (Lib.countB s sep : Int) + 1 else n) ((s.size : Int) + 1)) :
    Calls Tryd.prog 55 #[.string s, .string sep, .int .i64 sv, .int .i64 n] w fun e w' =>
      e = .returned (.slice (some ⟨w.heap.size, 0, none⟩) (Lib.splitB sep sv (N - 1) s).length N) ∧ w' = w.alloc (.cells (Lib.cellsOf (Lib.splitB sep sv (N - 1) s) N) 9) := Any.strings_genSplit Tryd.lays221 (by kernel_rfl) s sep sv n N m w hs hm h1 hsv hn0 hn63 hN
end Go.Proofs
/- strings.Split at a line feed; code.digits; code.line at the lines of a code. Condition: the table of white space is laid. -/
namespace Go.Proofs.YtdplcfineaikjaaDoor
set_option linter.unusedVariables false
set_option linter.unusedSimpArgs false
open Go Go.RowKit
theorem alloc_ownS (w : World) (T : TypeId) (cs : List Value) (h : cs.length ≤ maxLen) : (w.alloc (.cells cs.toArray T)).ownsRow w.heap.size T 1 (.slice (some ⟨w.heap.size, 0, none⟩) cs.length cs.length) cs.length cs :=
  ⟨(Nat.mul_one _).symm, .inr ⟨w.heap.size, cs.length, cs.toArray, rfl, Nat.le_refl _, heap_alloc_new w _, Nat.le_refl _, h, by simp, by simp⟩⟩
theorem Fn.of_rowS {P : Program} {f : FuncId} {args : Array Value} {Lr : List Heaplet} {T : TypeId} {cs : List Value} (hl : cs.length ≤ maxLen) (h : ∀ w, (∀ N ∈ Lr, N.le (whole w)) → Calls P f args w fun e w' => e = .returned (.slice (some ⟨w.heap.size, 0, none⟩) cs.length cs.length) ∧ w' = w.alloc (.cells cs.toArray T)) :
    Fn P f args [] Lr (fun v L => ∃ N ao cap, v = .slice ao cs.length cap ∧ L = [N] ∧ Row N T 1 ao cs.length cap cs) :=
  Fn.of_ownb fun w hr => (h w hr).mono fun e w' ⟨he, hw⟩ => by
    subst he; subst hw
    exact ⟨_, rfl, ⟨_, _, rfl, alloc_ownS w T cs hl⟩, (Below.refl _ _).alloc (Nat.le_refl _) _⟩
theorem FGen_f {xs : List (List UInt8)} (h : ∀ x ∈ xs, (10 : UInt8) ∉ x) (hl : (joinN xs).length < 4294967281) (hx : xs.length ≤ 4294967296) : Fn Tryd.prog 55 #[str (joinN xs), str [10], .int .i64 0, .int .i64 (-1)] [] [] (TxP (rowsOf xs)) := by
  obtain ⟨h1, h2⟩ := split_rows h
  have hsz : (ByteArray.mk (joinN xs).toArray).size = (joinN xs).length := rfl
  have hle : Lib.count (joinN xs) [10] ≤ (joinN xs).length := Lib.countB_le ⟨#[10]⟩ (by decide) _ ⟨(joinN xs).toArray⟩ (Nat.le_refl _)
  have hp : (Lib.splitB ⟨#[10]⟩ 0 (Lib.count (joinN xs) [10]) ⟨(joinN xs).toArray⟩).map Value.string = txs (rowsOf xs) := by
    have e := Lib.splitB_data ⟨#[10]⟩ 0 (Lib.count (joinN xs) [10]) ⟨(joinN xs).toArray⟩
    exact Lib.pieces_eq (e.trans h1)
  have hlen := congrArg List.length hp
  rw [List.length_map, txs_len, h2] at hlen
  have hF := Fn.of_rowS (P := Tryd.prog) (f := 55) (args := #[str (joinN xs), str [10], .int .i64 0, .int .i64 (-1)]) (Lr := []) (T := 9) (cs := txs (rowsOf xs)) (by rw [txs_len, h2]; unfold maxLen; omega) fun w _ => by
    have c := Any.strings_genSplit_core Tryd.lays221 (by kernel_rfl) ⟨(joinN xs).toArray⟩ ⟨#[10]⟩ 0 (-1) (Lib.count (joinN xs) [10] + 1) w hl (by decide) (Nat.zero_le _)
      (fun x c _ => (Tryd.strings_Index_one x 10 _).mono fun e w' ⟨he, hw⟩ => ⟨by rw [he]; show _ = Ending.returned (Value.int .i64 (Lib.index x.data.toList [10])); rw [Lib.index_one], hw⟩)
      ((Tryd.strings_Count_one ⟨(joinN xs).toArray⟩ 10 w).mono fun e w' ⟨he, hw⟩ => ⟨by rw [he]; show _ = Ending.returned (Value.int .i64 ((Lib.count (joinN xs) [10] : Nat) : Int)); rw [Lib.count_one]; rfl, hw⟩)
      (by decide) (by decide) (by rw [if_pos (by decide)]; show _ = min ((Lib.count (joinN xs) [10] : Int) + 1) _; rw [hsz]; omega)
    rw [Nat.add_sub_cancel] at c
    have e2 : Lib.cellsOf (Lib.splitB ⟨#[10]⟩ 0 (Lib.count (joinN xs) [10]) ⟨(joinN xs).toArray⟩) (Lib.count (joinN xs) [10] + 1) = (txs (rowsOf xs)).toArray := by
      rw [← hlen, Lib.cellsOf_full, hp]
    rw [e2, hlen] at c
    rw [txs_len, h2]
    exact c
  refine hF.mono ?_
  rintro v L ⟨M, ao, cap, rfl, rfl, r⟩
  rw [txs_len] at r ⊢
  exact ⟨M, ao, cap, rfl, rfl, r⟩
theorem FSplit_f {xs : List (List UInt8)} (h : ∀ x ∈ xs, (10 : UInt8) ∉ x) (hl : (joinN xs).length < 4294967281) (hx : xs.length ≤ 4294967296) : Fn Tryd.prog 42 #[str (joinN xs), str [10]] [] [] (TxP (rowsOf xs)) := by
  refine Fn.enter (vs := [str (joinN xs), str [10]]) Tryd.func42 rfl rfl rfl ?_
  intro E R hR
  change At _ _ E [R] _
  refine At.seq fun K1 hk_1 => ?_
  refine At.region ?_
  refine op_assign (nxlf rfl) rfl rfl ?_
  refine At.opsNil ?_
  refine At.norm (hk_1 ?_)
  refine At.seq fun K2 hk_2 => ?_
  refine At.region ?_
  refine op_move (nxlf rfl) rfl rfl ?_
  refine op_move (nxlf rfl) rfl rfl ?_
  refine op_callA (nxla rfl) (.cons rfl (.cons rfl (.cons rfl (.cons rfl .nil)))) (FGen_f h hl hx) Tryd.func55 rfl rfl (by simp) rfl ?_
  rintro v7 L7 ⟨N7, a7, c7, rfl, rfl, r7⟩
  change At _ _ _ [N7, R] _
  refine op_assign (nxlf rfl) rfl rfl ?_
  refine At.opsNil ?_
  refine At.norm (hk_2 ?_)
  refine At.ret (?_)
  refine At.ret1 (L1 := [N7]) rfl (.tmp rfl .nil) (.refl _) (.refl _) ?_
  exact ⟨N7, a7, c7, rfl, rfl, r7⟩
theorem rune_lw {t : List UInt8} {q : Nat} (hq : q < t.length) (h : (t.getD q 0).toNat < 128) : runeAt t q = (t.getD q 0).toNat ∧ nextP t q = q + 1 := by
  rw [nextP_y hq, runeAt, dec_low hq h]; exact ⟨rfl, rfl⟩
theorem FDigs_f {t : List UInt8} (h : ∀ i, i < t.length → 48 ≤ (t.getD i 0).toNat ∧ (t.getD i 0).toNat ≤ 57) (h0 : 0 < t.length) : Fn Tryd.prog 57 #[str t] [] [] (fun v L => v = .bool true ∧ L = []) := by
  refine Fn.enter (vs := [str t]) Tryd.func57 rfl rfl rfl ?_
  intro E R hR
  change At _ _ E [R] _
  refine At.seq fun K1 hk_1 => ?_
  refine At.region ?_
  refine op_assign (nxlf rfl) rfl rfl ?_
  refine At.opsNil ?_
  refine At.norm (hk_1 ?_)
  refine At.seq fun K2 hk_2 => ?_
  refine At.seq fun K3 hk_3 => ?_
  refine At.region ?_
  refine op_move (nxlf rfl) rfl rfl ?_
  refine op_rangeS (nxla rfl) Tryd.underlying9 rfl rfl (fun N6 b6 I6 => ?_)
  refine At.opsNil ?_
  refine At.norm (hk_3 ?_)
  refine At.block ?_
  refine At.loop (fun fr_ hp_ ms_ => ∃ (q : Nat) (N6 : Heaplet), fr_ = [(0, str t), (6, .pointer (some ⟨b6, 0, none⟩))] ∧ hp_ = [N6, R] ∧ t.length - q = ms_ ∧ (q ≤ t.length) ∧ (IterH N6 b6 t q)) ?_ (.refl _) ⟨0, N6, rfl, rfl, rfl, Nat.zero_le _, I6⟩ ?_
  · exact .cons (by first | exact lkI rfl (by omega) | rfl) (.cons (by first | exact lkI rfl (by omega) | rfl) .nil)
  rintro _ _ _ ⟨q, N6, rfl, rfl, rfl, hq, I6⟩
  refine At.seq fun K4 hk_4 => ?_
  refine At.region ?_
  refine op_nextS (nxl rfl) rfl I6 sel0 rfl (fun N6 I6 => ?_)
  refine op_nx0 (nxlf rfl) rfl rfl ?_
  refine At.opsNil ?_
  refine At.norm (hk_4 ?_)
  refine At.seq fun K5 hk_5 => ?_
  refine At.condP rfl (fun c8 => ?_) (fun c8 => ?_)
  · refine At.knowT (d := 8) rfl c8 ?_
    have hlt : q < t.length := c8
    have hq2 := h q hlt
    obtain ⟨hrn, hnp⟩ := rune_lw hlt (by omega)
    refine At.skip ?_
    refine At.norm (hk_5 ?_)
    refine At.block ?_
    refine At.seq fun K6 hk_6 => ?_
    refine At.region ?_
    refine op_nx2 (nxlf rfl) rfl (by omega) rfl ?_
    rw [hrn]
    refine op_assign (nxlf rfl) rfl rfl ?_
    refine At.opsNil ?_
    refine At.norm (hk_6 ?_)
    refine At.seq fun K7 hk_7 => ?_
    refine At.region ?_
    refine op_move (nxlf rfl) rfl rfl ?_
    refine op_lss (nxlf rfl) rfl rfl rfl ?_
    refine op_move (nxlf rfl) rfl rfl ?_
    refine At.partP (d := 12) rfl (fun g12 => ?_) (fun g12 => ?_)
    · exfalso; omega
    · refine op_move (nxgf rfl rfl rfl rfl) rfl rfl ?_
      refine op_gtr (nxgf rfl rfl rfl rfl) rfl rfl rfl ?_
      refine op_pickF (nxlf rfl) rfl rfl rfl ?_
      refine At.opsNil ?_
      refine At.norm (hk_7 ?_)
      refine At.condP rfl (fun c15 => ?_) (fun c15 => ?_)
      · exfalso; omega
      · refine At.knowF (d := 15) rfl c15 ?_
        refine At.skip ?_
        refine At.inNorm ?_
        refine At.norm ?_
        refine At.back ?_ (.refl _) ⟨q + 1, N6, rfl, rfl, rfl, by omega, by rw [hnp] at I6; exact I6⟩ ?_
        · exact .cons (by first | exact lkI rfl (by omega) | rfl) (.cons (by first | exact lkI rfl (by omega) | rfl) .nil)
        · omega
  · refine At.knowF (d := 8) rfl c8 ?_
    refine At.exit (At.thenExit (At.thenExit (At.inHit ?_)))
    refine At.norm (hk_2 ?_)
    refine At.seq fun K8 hk_8 => ?_
    refine At.region ?_
    refine op_move (nxlf rfl) rfl rfl ?_
    refine op_neS (b := []) (nxlf rfl) rfl rfl rfl ?_
    refine op_assign (nxlf rfl) rfl rfl ?_
    refine At.opsNil ?_
    refine At.norm (hk_8 ?_)
    refine At.ret (?_)
    refine At.sub (L' := [R]) (.cons _ (.cons_cons _ (.slnil))) ?_
    refine At.ret1 (L1 := []) rfl (.tmp rfl .nil) (.refl _) (.refl _) ?_
    exact ⟨by rw [decide_eq_true (by intro e; rw [e] at h0; exact absurd h0 (by decide))], rfl⟩
end Go.Proofs.YtdplcfineaikjaaDoor
/- code.line at the lines of a code. Condition: the table of white space is laid. -/
namespace Go.Proofs.YtdplcfineaikjaaDoor
set_option linter.unusedVariables false
set_option linter.unusedSimpArgs false
open Go Go.RowKit
theorem BkB_f {y : List UInt8} (hy : y.length ≤ 3000) : Fn Tryd.prog 58 #[str (hexT y)] [] [] (fun v L => ∃ M a c, v = .tuple #[.slice a y.length c, faultV 0 0] ∧ L = [M] ∧ Row M 5 1 a y.length c (u8s y)) := by
  have h := FBytes_f (hexT y) (by rw [hexT_len]; omega)
  rw [bytes_hexT] at h
  exact h
/-- What a line says: its bytes, and how many are missing. -/
def LinR (bs : List UInt8) (m : Int) (v : Value) (L : List Heaplet) : Prop := ∃ M a c, v = .tuple #[.slice a bs.length c, .int .i64 m, .bool true] ∧ L = [M] ∧ RSl M 1 a bs.length c (u8s bs)
theorem dec_at (p : Nat) : ∀ i, i < (Lib.decDigits p).length → 48 ≤ ((Lib.decDigits p).getD i 0).toNat ∧ ((Lib.decDigits p).getD i 0).toNat ≤ 57 := fun i hi => by
  rw [List.getD_eq_getElem?_getD, List.getElem?_eq_getElem hi, Option.getD_some]
  exact (dec_dig p p (Nat.le_refl _)).2 _ (List.getElem_mem hi)
section
variable {N M : Heaplet} {ap : Option Addr} {cp : Nat}
set_option maxRecDepth 100000 in
theorem FLine_n (f : Int) (p : Nat) (b : UInt8) (hop : opM f (b.toNat : Int) = false) (s : RSl N 1 ap 3 cp (txs [Lib.decDigits p, wINV7, hexT [b]])) : Fn Tryd.prog 44 #[.int .i64 f, .slice ap 3 cp] [] [N] (LinR [b] 0) := by
  have hd := dec_at p
  have h0 := (dec_dig p p (Nat.le_refl _)).1
  refine Fn.enter (vs := [.int .i64 f, .slice ap 3 cp]) Tryd.func44 rfl rfl rfl ?_
  intro E R hR
  have s := s.le (hR N (by simp))
  change At _ _ E [R] _
  refine At.seq fun K1 hk_1 => ?_
  refine At.region ?_
  refine op_assign (nxlf rfl) rfl rfl ?_
  refine op_assign (nxlf rfl) rfl rfl ?_
  refine op_assign (nxlf rfl) rfl rfl ?_
  refine At.opsNil ?_
  refine At.norm (hk_1 ?_)
  refine At.seq fun K2 hk_2 => ?_
  refine At.seq fun K3 hk_3 => ?_
  refine At.region ?_
  refine op_move (nxlf rfl) rfl rfl ?_
  refine op_lenS (nxlf rfl) se31 rfl rfl ?_
  refine op_lss (nxlf rfl) rfl rfl rfl ?_
  refine op_move (nxlf rfl) rfl rfl ?_
  refine At.partP (d := 15) rfl (fun g15 => ?_) (fun g15 => ?_)
  · exfalso; omega
  · refine op_move (nxgf rfl rfl rfl rfl) rfl rfl ?_
    refine op_lenS (nxgf rfl rfl rfl rfl) se31 rfl rfl ?_
    refine op_gtr (nxgf rfl rfl rfl rfl) rfl rfl rfl ?_
    refine op_pickF (nxlf rfl) rfl rfl rfl ?_
    refine op_move (nxlf rfl) rfl rfl ?_
    refine At.partP (d := 20) rfl (fun g20 => ?_) (fun g20 => ?_)
    · exfalso; omega
    · refine op_move (nxgf rfl rfl rfl rfl) rfl rfl ?_
      refine op_idx1 (nxgf rfl rfl rfl rfl) se31 rfl rfl s (show _ = (((0 : Nat)) : Int) from by omega) (by omega) rfl ?_
      refine op_loadE (nxgf rfl rfl rfl rfl) sc9 rfl s (by first | exact get8 (by omega) | exact get64 (by omega) | exact get32 (by omega) | exact rfl) (by first | exact mem0 | exact mem1 | exact mem2 | exact mem3 | exact mem4 | exact mem5 | exact mem6 | exact mem7 | exact mem8 | exact mem9) rfl ?_
      refine op_callA (nxga rfl rfl rfl rfl) (.cons rfl .nil) (FDigs_f hd h0) Tryd.func57 rfl rfl (by simp) rfl ?_
      rintro v24 L24 ⟨rfl, rfl⟩
      change At _ _ _ [R] _
      refine op_not (nxgf rfl rfl rfl rfl) rfl rfl ?_
      refine op_pickF (nxlf rfl) rfl rfl rfl ?_
      refine At.opsNil ?_
      refine At.norm (hk_3 ?_)
      refine At.condF rfl ?_
      refine At.skip ?_
      refine At.norm (hk_2 ?_)
      refine At.seq fun K4 hk_4 => ?_
      refine At.region ?_
      refine op_assign (nxlf rfl) rfl rfl ?_
      refine At.opsNil ?_
      refine At.norm (hk_4 ?_)
      refine At.seq fun K5 hk_5 => ?_
      refine At.seq fun K6 hk_6 => ?_
      refine At.region ?_
      refine op_move (nxlf rfl) rfl rfl ?_
      refine op_lenS (nxlf rfl) se31 rfl rfl ?_
      refine op_eql (nxlf rfl) rfl rfl rfl ?_
      refine At.opsNil ?_
      refine At.norm (hk_6 ?_)
      refine At.condP rfl (fun c29 => ?_) (fun c29 => ?_)
      · refine At.knowT (d := 29) rfl c29 ?_
        refine At.seq fun K7 hk_7 => ?_
        refine At.region ?_
        refine op_alloc (nxla rfl) ze48 rfl (fun N8 b8 B8 => ?_)
        change Blk N8 b8 _ [.int .i64 0, .int .i64 0] at B8
        change Blk N8 b8 _ [.int .i64 0, .int .i64 0] at B8
        refine At.opsNil ?_
        refine At.norm (hk_7 ?_)
        refine At.seq fun K8 hk_8 => ?_
        refine At.region ?_
        refine op_move (nxlf rfl) rfl rfl ?_
        refine op_idx1 (nxlf rfl) se31 rfl rfl s (show _ = (((2 : Nat)) : Int) from by omega) (by omega) rfl ?_
        refine op_loadE (nxlf rfl) sc9 rfl s (by first | exact get8 (by omega) | exact get64 (by omega) | exact get32 (by omega) | exact rfl) (by first | exact mem0 | exact mem1 | exact mem2 | exact mem3 | exact mem4 | exact mem5 | exact mem6 | exact mem7 | exact mem8 | exact mem9) rfl ?_
        refine op_callA (nxla rfl) (.cons rfl .nil) (BkB_f (y := [b]) (by simp)) Tryd.func58 rfl rfl (by simp) rfl ?_
        rintro v34 L34 ⟨N34, a34, c34, rfl, rfl, r34⟩
        change At _ _ _ [N34, N8, R] _
        have s34 := r34.rsl
        refine op_move (nxlf rfl) rfl rfl ?_
        refine op_extract (nxlf rfl) rfl rfl rfl ?_
        refine op_extract (nxlf rfl) rfl rfl rfl ?_
        refine op_assign (nxlf rfl) rfl rfl ?_
        refine op_store (nxl rfl) sz48 rfl rfl rfl rfl rfl B8 (by simp) sel1 (fun N8 B8 => ?_)
        simp only [setL, List.set] at B8
        refine At.opsNil ?_
        refine At.norm (hk_8 ?_)
        refine At.seq fun K9 hk_9 => ?_
        refine At.region ?_
        refine op_fieldAddr (nxlf rfl) fl48_0 rfl rfl ?_
        refine op_loadB (nxlf rfl) sc46 rfl B8 (by first | rfl) mem0 rfl ?_
        refine op_neq (nxlf rfl) rfl rfl rfl ?_
        refine At.opsNil ?_
        refine At.norm (hk_9 ?_)
        refine At.condP rfl (fun c39 => ?_) (fun c39 => ?_)
        · exact absurd rfl c39
        · refine At.knowF (d := 39) rfl c39 ?_
          refine At.skip ?_
          refine At.norm (hk_5 ?_)
          refine At.seq fun K10 hk_10 => ?_
          refine At.seq fun K11 hk_11 => ?_
          refine At.region ?_
          refine op_move (nxlf rfl) rfl rfl ?_
          refine op_idx1 (nxlf rfl) se31 rfl rfl s (show _ = (((1 : Nat)) : Int) from by omega) (by omega) rfl ?_
          refine op_loadE (nxlf rfl) sc9 rfl s (by first | exact get8 (by omega) | exact get64 (by omega) | exact get32 (by omega) | exact rfl) (by first | exact mem0 | exact mem1 | exact mem2 | exact mem3 | exact mem4 | exact mem5 | exact mem6 | exact mem7 | exact mem8 | exact mem9) rfl ?_
          refine op_eqS (b := [73, 78, 86, 65, 76, 73, 68]) (nxlf rfl) rfl rfl rfl ?_
          refine At.opsNil ?_
          refine At.norm (hk_11 ?_)
          refine At.condP rfl (fun c43 => ?_) (fun c43 => ?_)
          · refine At.knowT (d := 43) rfl c43 ?_
            refine At.seq fun K12 hk_12 => ?_
            refine At.region ?_
            refine op_move (nxlf rfl) rfl rfl ?_
            refine op_move (nxlf rfl) rfl rfl ?_
            refine op_lenS (nxlf rfl) se22 rfl rfl ?_
            refine op_eql (nxlf rfl) rfl rfl rfl ?_
            refine op_move (nxlf rfl) rfl rfl ?_
            refine At.partP (d := 48) rfl (fun g48 => ?_) (fun g48 => ?_)
            · refine op_move (nxgf rfl rfl rfl rfl) rfl rfl ?_
              refine op_move (nxgf rfl rfl rfl rfl) rfl rfl ?_
              refine op_idx1 (nxgf rfl rfl rfl rfl) se22 rfl rfl s34 (show _ = (((0 : Nat)) : Int) from by omega) (by omega) rfl ?_
              refine op_loadE (nxgf rfl rfl rfl rfl) sc5 rfl s34 (by first | exact get8 (by omega) | exact get64 (by omega) | exact get32 (by omega)) (by first | exact mem0 | exact mem1 | exact mem2 | exact mem3 | exact mem4 | exact mem5 | exact mem6 | exact mem7 | exact mem8 | exact mem9) rfl ?_
              have hb8 := ([b].getD 0 0).toNat_lt
              refine op_convI (nxgf rfl rfl rfl rfl) (und_some Tryd.underlying5) Tryd.underlying3 rfl (by omega) (by omega) rfl ?_
              refine op_callA (nxga rfl rfl rfl rfl) (.cons rfl (.cons rfl .nil)) (FOp_f f (b.toNat : Int)) Tryd.func38 rfl rfl (by simp) rfl ?_
              rintro v54 L54 ⟨rfl, rfl⟩
              change At _ _ _ [N8, N34, R] _
              rw [hop]
              refine op_not (nxgf rfl rfl rfl rfl) rfl rfl ?_
              refine op_pickT (nxlf rfl) rfl rfl rfl ?_
              refine op_assign (nxlf rfl) rfl rfl ?_
              refine op_assign (nxlf rfl) rfl rfl ?_
              refine op_assign (nxlf rfl) rfl rfl ?_
              refine At.opsNil ?_
              refine At.norm (hk_12 ?_)
              refine At.ret (At.thenRet (?_))
              refine At.sub (L' := [N34, R]) (.cons _ (.cons_cons _ (.cons_cons _ (.slnil)))) ?_
              refine At.retN (L1 := [N34]) rfl (.tmp rfl (.tmp rfl (.tmp rfl .nil))) rfl (.refl _) (.refl _) ?_
              exact ⟨N34, a34, c34, rfl, rfl, s34⟩
            · exact absurd rfl g48
          · exact absurd rfl c43
      · exfalso; omega
set_option maxRecDepth 100000 in
theorem FLine_0 (hT : TabH M) (f : Int) (p : Nat) (b : UInt8) {nm : List UInt8} (hnm : namedC f nm = (b.toNat, true)) (hni : nm ≠ wINV7) (h0b : ownB b = 0) (s : RSl N 1 ap 2 cp (txs [Lib.decDigits p, nm])) : Fn Tryd.prog 44 #[.int .i64 f, .slice ap 2 cp] [] [N, M] (LinR [b] 0) := by
  have hd := dec_at p
  have h0 := (dec_dig p p (Nat.le_refl _)).1
  have hb8 : ((UInt8.ofNat b.toNat).toNat : Int) = (b.toNat : Int) := by rw [UInt8.ofNat_toNat]
  refine Fn.enter (vs := [.int .i64 f, .slice ap 2 cp]) Tryd.func44 rfl rfl rfl ?_
  intro E R hR
  have s := s.le (hR N (by simp))
  have hN := FNamed_f (hT.le (hR M (by simp))) f nm
  rw [hnm] at hN
  change At _ _ E [R] _
  refine At.seq fun K1 hk_1 => ?_
  refine At.region ?_
  refine op_assign (nxlf rfl) rfl rfl ?_
  refine op_assign (nxlf rfl) rfl rfl ?_
  refine op_assign (nxlf rfl) rfl rfl ?_
  refine At.opsNil ?_
  refine At.norm (hk_1 ?_)
  refine At.seq fun K2 hk_2 => ?_
  refine At.seq fun K3 hk_3 => ?_
  refine At.region ?_
  refine op_move (nxlf rfl) rfl rfl ?_
  refine op_lenS (nxlf rfl) se31 rfl rfl ?_
  refine op_lss (nxlf rfl) rfl rfl rfl ?_
  refine op_move (nxlf rfl) rfl rfl ?_
  refine At.partP (d := 15) rfl (fun g15 => ?_) (fun g15 => ?_)
  · exfalso; omega
  · refine op_move (nxgf rfl rfl rfl rfl) rfl rfl ?_
    refine op_lenS (nxgf rfl rfl rfl rfl) se31 rfl rfl ?_
    refine op_gtr (nxgf rfl rfl rfl rfl) rfl rfl rfl ?_
    refine op_pickF (nxlf rfl) rfl rfl rfl ?_
    refine op_move (nxlf rfl) rfl rfl ?_
    refine At.partP (d := 20) rfl (fun g20 => ?_) (fun g20 => ?_)
    · exfalso; omega
    · refine op_move (nxgf rfl rfl rfl rfl) rfl rfl ?_
      refine op_idx1 (nxgf rfl rfl rfl rfl) se31 rfl rfl s (show _ = (((0 : Nat)) : Int) from by omega) (by omega) rfl ?_
      refine op_loadE (nxgf rfl rfl rfl rfl) sc9 rfl s (by first | exact get8 (by omega) | exact get64 (by omega) | exact get32 (by omega) | exact rfl) (by first | exact mem0 | exact mem1 | exact mem2 | exact mem3 | exact mem4 | exact mem5 | exact mem6 | exact mem7 | exact mem8 | exact mem9) rfl ?_
      refine op_callA (nxga rfl rfl rfl rfl) (.cons rfl .nil) (FDigs_f hd h0) Tryd.func57 rfl rfl (by simp) rfl ?_
      rintro v24 L24 ⟨rfl, rfl⟩
      change At _ _ _ [R] _
      refine op_not (nxgf rfl rfl rfl rfl) rfl rfl ?_
      refine op_pickF (nxlf rfl) rfl rfl rfl ?_
      refine At.opsNil ?_
      refine At.norm (hk_3 ?_)
      refine At.condF rfl ?_
      refine At.skip ?_
      refine At.norm (hk_2 ?_)
      refine At.seq fun K4 hk_4 => ?_
      refine At.region ?_
      refine op_assign (nxlf rfl) rfl rfl ?_
      refine At.opsNil ?_
      refine At.norm (hk_4 ?_)
      refine At.seq fun K5 hk_5 => ?_
      refine At.seq fun K6 hk_6 => ?_
      refine At.region ?_
      refine op_move (nxlf rfl) rfl rfl ?_
      refine op_lenS (nxlf rfl) se31 rfl rfl ?_
      refine op_eql (nxlf rfl) rfl rfl rfl ?_
      refine At.opsNil ?_
      refine At.norm (hk_6 ?_)
      refine At.condP rfl (fun c29 => ?_) (fun c29 => ?_)
      · exfalso; omega
      · refine At.knowF (d := 29) rfl c29 ?_
        refine At.skip ?_
        refine At.norm (hk_5 ?_)
        refine At.seq fun K7 hk_7 => ?_
        refine At.seq fun K8 hk_8 => ?_
        refine At.region ?_
        refine op_move (nxlf rfl) rfl rfl ?_
        refine op_idx1 (nxlf rfl) se31 rfl rfl s (show _ = (((1 : Nat)) : Int) from by omega) (by omega) rfl ?_
        refine op_loadE (nxlf rfl) sc9 rfl s (by first | exact get8 (by omega) | exact get64 (by omega) | exact get32 (by omega) | exact rfl) (by first | exact mem0 | exact mem1 | exact mem2 | exact mem3 | exact mem4 | exact mem5 | exact mem6 | exact mem7 | exact mem8 | exact mem9) rfl ?_
        refine op_eqS (b := [73, 78, 86, 65, 76, 73, 68]) (nxlf rfl) rfl rfl rfl ?_
        refine At.opsNil ?_
        refine At.norm (hk_8 ?_)
        refine At.condP rfl (fun c43 => ?_) (fun c43 => ?_)
        · exact absurd c43 hni
        · refine At.knowF (d := 43) rfl c43 ?_
          refine At.skip ?_
          refine At.norm (hk_7 ?_)
          refine At.seq fun K9 hk_9 => ?_
          refine At.region ?_
          refine op_move (nxlf rfl) rfl rfl ?_
          refine op_move (nxlf rfl) rfl rfl ?_
          refine op_idx1 (nxlf rfl) se31 rfl rfl s (show _ = (((1 : Nat)) : Int) from by omega) (by omega) rfl ?_
          refine op_loadE (nxlf rfl) sc9 rfl s (by first | exact get8 (by omega) | exact get64 (by omega) | exact get32 (by omega) | exact rfl) (by first | exact mem0 | exact mem1 | exact mem2 | exact mem3 | exact mem4 | exact mem5 | exact mem6 | exact mem7 | exact mem8 | exact mem9) rfl ?_
          refine op_callA (nxla rfl) (.cons rfl (.cons rfl .nil)) (hN) Tryd.func18 rfl rfl (by simp) rfl ?_
          rintro v62 L62 ⟨rfl, rfl⟩
          change At _ _ _ [R] _
          refine op_move (nxlf rfl) rfl rfl ?_
          refine op_extract (nxlf rfl) rfl rfl rfl ?_
          refine op_extract (nxlf rfl) rfl rfl rfl ?_
          refine op_assign (nxlf rfl) rfl rfl ?_
          refine op_assign (nxlf rfl) rfl rfl ?_
          refine At.opsNil ?_
          refine At.norm (hk_9 ?_)
          refine At.seq fun K10 hk_10 => ?_
          refine At.region ?_
          refine op_move (nxlf rfl) rfl rfl ?_
          refine op_conv8 (nxlf rfl) (und_some Tryd.underlying3) Tryd.underlying5 rfl (show _ = (((b.toNat : Nat)) : Int) from by omega) rfl ?_
          rw [UInt8.ofNat_toNat]
          refine op_callA (nxla rfl) (.cons rfl .nil) (FOwn_f b) Tryd.func26 rfl rfl (by simp) rfl ?_
          rintro v67 L67 ⟨rfl, rfl⟩
          change At _ _ _ [R] _
          rw [h0b]
          refine op_assign (nxlf rfl) rfl rfl ?_
          refine At.opsNil ?_
          refine At.norm (hk_10 ?_)
          refine At.seq fun K11 hk_11 => ?_
          refine At.seq fun K12 hk_12 => ?_
          refine At.region ?_
          refine op_move (nxlf rfl) rfl rfl ?_
          refine op_not (nxlf rfl) rfl rfl ?_
          refine op_move (nxlf rfl) rfl rfl ?_
          refine op_move (nxgf rfl rfl rfl rfl) rfl rfl ?_
          refine op_lenS (nxgf rfl rfl rfl rfl) se22 rfl rfl ?_
          refine op_move (nxgf rfl rfl rfl rfl) rfl rfl ?_
          refine op_gtr (nxgf rfl rfl rfl rfl) rfl rfl rfl ?_
          refine op_pickF (nxlf rfl) rfl rfl rfl ?_
          refine op_move (nxlf rfl) rfl rfl ?_
          refine At.partP (d := 76) rfl (fun g76 => ?_) (fun g76 => ?_)
          · exfalso; omega
          · refine op_move (nxgf rfl rfl rfl rfl) rfl rfl ?_
            refine op_gtr (nxgf rfl rfl rfl rfl) rfl rfl rfl ?_
            refine op_move (nxgf rfl rfl rfl rfl) rfl rfl ?_
            refine op_lenS (nxgf rfl rfl rfl rfl) se31 rfl rfl ?_
            refine op_eql (nxgf rfl rfl rfl rfl) rfl rfl rfl ?_
            refine op_neB (nxgf rfl rfl rfl rfl) Tryd.underlying4 rfl rfl rfl ?_
            refine op_pickF (nxlf rfl) rfl rfl rfl ?_
            refine At.opsNil ?_
            refine At.norm (hk_12 ?_)
            refine At.condB rfl (fun c83 => ?_) (fun c83 => ?_)
            · (exfalso; revert c83; decide)
            · refine At.knowBF (d := 83) rfl c83 ?_
              refine At.skip ?_
              refine At.norm (hk_11 ?_)
              refine At.seq fun K13 hk_13 => ?_
              refine At.region ?_
              refine op_move (nxlf rfl) rfl rfl ?_
              refine op_conv8 (nxlf rfl) (und_some Tryd.underlying3) Tryd.underlying5 rfl (show _ = (((b.toNat : Nat)) : Int) from by omega) rfl ?_
              rw [UInt8.ofNat_toNat]
              refine op_lit (nxla rfl) Tryd.underlying22 ze5 sz5 (.cons rfl .nil) rfl rfl (by simp [Value.cells]) rfl rfl rfl (fun N86 a86 r86 => ?_)
              simp only [flatV, List.flatMap_cons, List.flatMap_nil, Value.cells, List.append_nil, List.cons_append, List.nil_append] at r86
              have s86 := r86.rsl
              refine op_move (nxlf rfl) rfl rfl ?_
              change Row N86 _ 1 a86 1 1 (u8s [b]) at r86
              refine op_append (nxl rfl) Tryd.underlying22 Tryd.underlying22 te5 rfl rfl r86 (RSl.nil R 1) (by first | exact mem0 | exact mem1 | exact mem2 | exact mem3 | exact mem4 | exact mem5 | exact mem6 | exact mem7 | exact mem8 | exact mem9) (fun u hu => absurd hu List.not_mem_nil) (by omega) (by omega) sel0 rfl (fun N88 a88 p88 r88 => ?_)
              have s88 := r88.rsl
              refine op_move (nxlf rfl) rfl rfl ?_
              refine op_move (nxlf rfl) rfl rfl ?_
              refine op_lenS (nxlf rfl) se22 rfl rfl ?_
              refine op_subI (nxlf rfl) rfl rfl (by omega) (by omega) rfl ?_
              refine op_assign (nxlf rfl) rfl rfl ?_
              refine op_assign (nxlf rfl) rfl rfl ?_
              refine op_assign (nxlf rfl) rfl rfl ?_
              refine At.opsNil ?_
              refine At.norm (hk_13 ?_)
              refine At.ret (?_)
              refine At.retN (L1 := [N88]) rfl (.tmp rfl (.tmp rfl (.tmp rfl .nil))) rfl (.refl _) (.refl _) ?_
              exact ⟨N88, a88, p88, rfl, rfl, s88⟩
set_option maxRecDepth 100000 in
theorem FLine_y (hT : TabH M) (f : Int) (p : Nat) (b : UInt8) {nm y : List UInt8} (hnm : namedC f nm = (b.toNat, true)) (hni : nm ≠ wINV7) (h0b : 0 < ownB b) (hy : y.length ≤ ownB b) (s : RSl N 1 ap 3 cp (txs [Lib.decDigits p, nm, hexT y])) : Fn Tryd.prog 44 #[.int .i64 f, .slice ap 3 cp] [] [N, M] (LinR (b :: y) ((ownB b : Int) - y.length)) := by
  have hd := dec_at p
  have h0 := (dec_dig p p (Nat.le_refl _)).1
  have hob := ownB_le b
  refine Fn.enter (vs := [.int .i64 f, .slice ap 3 cp]) Tryd.func44 rfl rfl rfl ?_
  intro E R hR
  have s := s.le (hR N (by simp))
  have hN := FNamed_f (hT.le (hR M (by simp))) f nm
  rw [hnm] at hN
  change At _ _ E [R] _
  refine At.seq fun K1 hk_1 => ?_
  refine At.region ?_
  refine op_assign (nxlf rfl) rfl rfl ?_
  refine op_assign (nxlf rfl) rfl rfl ?_
  refine op_assign (nxlf rfl) rfl rfl ?_
  refine At.opsNil ?_
  refine At.norm (hk_1 ?_)
  refine At.seq fun K2 hk_2 => ?_
  refine At.seq fun K3 hk_3 => ?_
  refine At.region ?_
  refine op_move (nxlf rfl) rfl rfl ?_
  refine op_lenS (nxlf rfl) se31 rfl rfl ?_
  refine op_lss (nxlf rfl) rfl rfl rfl ?_
  refine op_move (nxlf rfl) rfl rfl ?_
  refine At.partP (d := 15) rfl (fun g15 => ?_) (fun g15 => ?_)
  · exfalso; omega
  · refine op_move (nxgf rfl rfl rfl rfl) rfl rfl ?_
    refine op_lenS (nxgf rfl rfl rfl rfl) se31 rfl rfl ?_
    refine op_gtr (nxgf rfl rfl rfl rfl) rfl rfl rfl ?_
    refine op_pickF (nxlf rfl) rfl rfl rfl ?_
    refine op_move (nxlf rfl) rfl rfl ?_
    refine At.partP (d := 20) rfl (fun g20 => ?_) (fun g20 => ?_)
    · exfalso; omega
    · refine op_move (nxgf rfl rfl rfl rfl) rfl rfl ?_
      refine op_idx1 (nxgf rfl rfl rfl rfl) se31 rfl rfl s (show _ = (((0 : Nat)) : Int) from by omega) (by omega) rfl ?_
      refine op_loadE (nxgf rfl rfl rfl rfl) sc9 rfl s (by first | exact get8 (by omega) | exact get64 (by omega) | exact get32 (by omega) | exact rfl) (by first | exact mem0 | exact mem1 | exact mem2 | exact mem3 | exact mem4 | exact mem5 | exact mem6 | exact mem7 | exact mem8 | exact mem9) rfl ?_
      refine op_callA (nxga rfl rfl rfl rfl) (.cons rfl .nil) (FDigs_f hd h0) Tryd.func57 rfl rfl (by simp) rfl ?_
      rintro v24 L24 ⟨rfl, rfl⟩
      change At _ _ _ [R] _
      refine op_not (nxgf rfl rfl rfl rfl) rfl rfl ?_
      refine op_pickF (nxlf rfl) rfl rfl rfl ?_
      refine At.opsNil ?_
      refine At.norm (hk_3 ?_)
      refine At.condF rfl ?_
      refine At.skip ?_
      refine At.norm (hk_2 ?_)
      refine At.seq fun K4 hk_4 => ?_
      refine At.region ?_
      refine op_assign (nxlf rfl) rfl rfl ?_
      refine At.opsNil ?_
      refine At.norm (hk_4 ?_)
      refine At.seq fun K5 hk_5 => ?_
      refine At.seq fun K6 hk_6 => ?_
      refine At.region ?_
      refine op_move (nxlf rfl) rfl rfl ?_
      refine op_lenS (nxlf rfl) se31 rfl rfl ?_
      refine op_eql (nxlf rfl) rfl rfl rfl ?_
      refine At.opsNil ?_
      refine At.norm (hk_6 ?_)
      refine At.condP rfl (fun c29 => ?_) (fun c29 => ?_)
      · refine At.knowT (d := 29) rfl c29 ?_
        refine At.seq fun K7 hk_7 => ?_
        refine At.region ?_
        refine op_alloc (nxla rfl) ze48 rfl (fun N8 b8 B8 => ?_)
        change Blk N8 b8 _ [.int .i64 0, .int .i64 0] at B8
        change Blk N8 b8 _ [.int .i64 0, .int .i64 0] at B8
        refine At.opsNil ?_
        refine At.norm (hk_7 ?_)
        refine At.seq fun K8 hk_8 => ?_
        refine At.region ?_
        refine op_move (nxlf rfl) rfl rfl ?_
        refine op_idx1 (nxlf rfl) se31 rfl rfl s (show _ = (((2 : Nat)) : Int) from by omega) (by omega) rfl ?_
        refine op_loadE (nxlf rfl) sc9 rfl s (by first | exact get8 (by omega) | exact get64 (by omega) | exact get32 (by omega) | exact rfl) (by first | exact mem0 | exact mem1 | exact mem2 | exact mem3 | exact mem4 | exact mem5 | exact mem6 | exact mem7 | exact mem8 | exact mem9) rfl ?_
        refine op_callA (nxla rfl) (.cons rfl .nil) (BkB_f (y := y) (by omega)) Tryd.func58 rfl rfl (by simp) rfl ?_
        rintro v34 L34 ⟨N34, a34, c34, rfl, rfl, r34⟩
        change At _ _ _ [N34, N8, R] _
        have s34 := r34.rsl
        refine op_move (nxlf rfl) rfl rfl ?_
        refine op_extract (nxlf rfl) rfl rfl rfl ?_
        refine op_extract (nxlf rfl) rfl rfl rfl ?_
        refine op_assign (nxlf rfl) rfl rfl ?_
        refine op_store (nxl rfl) sz48 rfl rfl rfl rfl rfl B8 (by simp) sel1 (fun N8 B8 => ?_)
        simp only [setL, List.set] at B8
        refine At.opsNil ?_
        refine At.norm (hk_8 ?_)
        refine At.seq fun K9 hk_9 => ?_
        refine At.region ?_
        refine op_fieldAddr (nxlf rfl) fl48_0 rfl rfl ?_
        refine op_loadB (nxlf rfl) sc46 rfl B8 (by first | rfl) mem0 rfl ?_
        refine op_neq (nxlf rfl) rfl rfl rfl ?_
        refine At.opsNil ?_
        refine At.norm (hk_9 ?_)
        refine At.condP rfl (fun c39 => ?_) (fun c39 => ?_)
        · exact absurd rfl c39
        · refine At.knowF (d := 39) rfl c39 ?_
          refine At.skip ?_
          refine At.norm (hk_5 ?_)
          refine At.seq fun K10 hk_10 => ?_
          refine At.seq fun K11 hk_11 => ?_
          refine At.region ?_
          refine op_move (nxlf rfl) rfl rfl ?_
          refine op_idx1 (nxlf rfl) se31 rfl rfl s (show _ = (((1 : Nat)) : Int) from by omega) (by omega) rfl ?_
          refine op_loadE (nxlf rfl) sc9 rfl s (by first | exact get8 (by omega) | exact get64 (by omega) | exact get32 (by omega) | exact rfl) (by first | exact mem0 | exact mem1 | exact mem2 | exact mem3 | exact mem4 | exact mem5 | exact mem6 | exact mem7 | exact mem8 | exact mem9) rfl ?_
          refine op_eqS (b := [73, 78, 86, 65, 76, 73, 68]) (nxlf rfl) rfl rfl rfl ?_
          refine At.opsNil ?_
          refine At.norm (hk_11 ?_)
          refine At.condP rfl (fun c43 => ?_) (fun c43 => ?_)
          · exact absurd c43 hni
          · refine At.knowF (d := 43) rfl c43 ?_
            refine At.skip ?_
            refine At.norm (hk_10 ?_)
            refine At.seq fun K12 hk_12 => ?_
            refine At.region ?_
            refine op_move (nxlf rfl) rfl rfl ?_
            refine op_move (nxlf rfl) rfl rfl ?_
            refine op_idx1 (nxlf rfl) se31 rfl rfl s (show _ = (((1 : Nat)) : Int) from by omega) (by omega) rfl ?_
            refine op_loadE (nxlf rfl) sc9 rfl s (by first | exact get8 (by omega) | exact get64 (by omega) | exact get32 (by omega) | exact rfl) (by first | exact mem0 | exact mem1 | exact mem2 | exact mem3 | exact mem4 | exact mem5 | exact mem6 | exact mem7 | exact mem8 | exact mem9) rfl ?_
            refine op_callA (nxla rfl) (.cons rfl (.cons rfl .nil)) (hN) Tryd.func18 rfl rfl (by simp) rfl ?_
            rintro v62 L62 ⟨rfl, rfl⟩
            change At _ _ _ [N8, N34, R] _
            refine op_move (nxlf rfl) rfl rfl ?_
            refine op_extract (nxlf rfl) rfl rfl rfl ?_
            refine op_extract (nxlf rfl) rfl rfl rfl ?_
            refine op_assign (nxlf rfl) rfl rfl ?_
            refine op_assign (nxlf rfl) rfl rfl ?_
            refine At.opsNil ?_
            refine At.norm (hk_12 ?_)
            refine At.seq fun K13 hk_13 => ?_
            refine At.region ?_
            refine op_move (nxlf rfl) rfl rfl ?_
            refine op_conv8 (nxlf rfl) (und_some Tryd.underlying3) Tryd.underlying5 rfl (show _ = (((b.toNat : Nat)) : Int) from by omega) rfl ?_
            rw [UInt8.ofNat_toNat]
            refine op_callA (nxla rfl) (.cons rfl .nil) (FOwn_f b) Tryd.func26 rfl rfl (by simp) rfl ?_
            rintro v67 L67 ⟨rfl, rfl⟩
            change At _ _ _ [N8, N34, R] _
            refine op_assign (nxlf rfl) rfl rfl ?_
            refine At.opsNil ?_
            refine At.norm (hk_13 ?_)
            refine At.seq fun K14 hk_14 => ?_
            refine At.seq fun K15 hk_15 => ?_
            refine At.region ?_
            refine op_move (nxlf rfl) rfl rfl ?_
            refine op_not (nxlf rfl) rfl rfl ?_
            refine op_move (nxlf rfl) rfl rfl ?_
            refine op_move (nxgf rfl rfl rfl rfl) rfl rfl ?_
            refine op_lenS (nxgf rfl rfl rfl rfl) se22 rfl rfl ?_
            refine op_move (nxgf rfl rfl rfl rfl) rfl rfl ?_
            refine op_gtr (nxgf rfl rfl rfl rfl) rfl rfl rfl ?_
            refine op_pickF (nxlf rfl) rfl rfl rfl ?_
            refine op_move (nxlf rfl) rfl rfl ?_
            refine At.partP (d := 76) rfl (fun g76 => ?_) (fun g76 => ?_)
            · exfalso; omega
            · refine op_move (nxgf rfl rfl rfl rfl) rfl rfl ?_
              refine op_gtr (nxgf rfl rfl rfl rfl) rfl rfl rfl ?_
              refine op_move (nxgf rfl rfl rfl rfl) rfl rfl ?_
              refine op_lenS (nxgf rfl rfl rfl rfl) se31 rfl rfl ?_
              refine op_eql (nxgf rfl rfl rfl rfl) rfl rfl rfl ?_
              refine op_neB (nxgf rfl rfl rfl rfl) Tryd.underlying4 rfl rfl rfl ?_
              refine op_pickF (nxlf rfl) rfl rfl rfl ?_
              refine At.opsNil ?_
              refine At.norm (hk_15 ?_)
              refine At.condB rfl (fun c83 => ?_) (fun c83 => ?_)
              · (exfalso; rw [decide_eq_true (show (ownB b : Int) > 0 by omega)] at c83; revert c83; decide)
              · refine At.knowBF (d := 83) rfl c83 ?_
                refine At.skip ?_
                refine At.norm (hk_14 ?_)
                refine At.seq fun K16 hk_16 => ?_
                refine At.region ?_
                refine op_move (nxlf rfl) rfl rfl ?_
                refine op_conv8 (nxlf rfl) (und_some Tryd.underlying3) Tryd.underlying5 rfl (show _ = (((b.toNat : Nat)) : Int) from by omega) rfl ?_
                rw [UInt8.ofNat_toNat]
                refine op_lit (nxla rfl) Tryd.underlying22 ze5 sz5 (.cons rfl .nil) rfl rfl (by simp [Value.cells]) rfl rfl rfl (fun N86 a86 r86 => ?_)
                simp only [flatV, List.flatMap_cons, List.flatMap_nil, Value.cells, List.append_nil, List.cons_append, List.nil_append] at r86
                have s86 := r86.rsl
                refine op_move (nxlf rfl) rfl rfl ?_
                change Row N86 _ 1 a86 1 1 (u8s [b]) at r86
                refine op_append (nxl rfl) Tryd.underlying22 Tryd.underlying22 te5 rfl rfl r86 s34 (by first | exact mem0 | exact mem1 | exact mem2 | exact mem3 | exact mem4 | exact mem5 | exact mem6 | exact mem7 | exact mem8 | exact mem9) (by first | exact one_u8s _ | exact one_u64s _ | exact one_u32s _ | (intro u hu; simp at hu; subst hu; rfl)) (by omega) (by omega) sel0 rfl (fun N88 a88 p88 r88 => ?_)
                have s88 := r88.rsl
                refine op_move (nxlf rfl) rfl rfl ?_
                refine op_move (nxlf rfl) rfl rfl ?_
                refine op_lenS (nxlf rfl) se22 rfl rfl ?_
                refine op_subI (nxlf rfl) rfl rfl (by omega) (by omega) rfl ?_
                refine op_assign (nxlf rfl) rfl rfl ?_
                refine op_assign (nxlf rfl) rfl rfl ?_
                refine op_assign (nxlf rfl) rfl rfl ?_
                refine At.opsNil ?_
                refine At.norm (hk_16 ?_)
                refine At.ret (?_)
                refine At.sub (L' := [N88, R]) (.cons_cons _ (.cons _ (.cons _ (.cons_cons _ (.slnil))))) ?_
                refine At.retN (L1 := [N88]) rfl (.tmp rfl (.tmp rfl (.tmp rfl .nil))) rfl (.refl _) (.refl _) ?_
                exact ⟨N88, a88, p88, by rw [List.length_cons, Nat.add_comm], rfl, by rw [List.length_cons, Nat.add_comm]; exact s88⟩
      · exfalso; omega
end
end Go.Proofs.YtdplcfineaikjaaDoor
